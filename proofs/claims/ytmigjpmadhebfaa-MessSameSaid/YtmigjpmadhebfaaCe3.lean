/- Certificates: who is a replica, how many are many, is one Ok. -/
import Derived.Test.YtmigjpmadhebfaaCe2
namespace Go.Proofs.Ytmigjpmadhebfaa
open Go Go.Proofs
set_option maxRecDepth 100000

theorem cert_Fits {W : World} {F : List HProp} [Abs F] (c : CfgD) (hw : c.n < 9223372036854775808) :
    CallsK W Try.prog 42 #[c.val] (F) (fun v L => v = .bool c.fits ∧ Lands L F) := by
  refine CallsK_enter (n := 25) Try.func42 rfl rfl rfl ?_
  refine SC_seq ?_
  refine SC_region ?_
  refine SR_ox (OX_box rfl rfl) rfl ?_
  rintro _ _ ⟨b1, rfl, rfl⟩
  refine SR_pu (RD_assign rfl) rfl ?_
  refine SR_nil ?_
  refine SN.le (l := [(1, _)]) ?_ (.cons rfl (.nil))
  refine SN_seq ?_
  refine SC_seq ?_
  refine SC_region ?_
  first
    | refine SR_pu (RD_fieldAddr0 Try.runUnderlying23 rfl rfl Try.sizeOf3 rfl) rfl ?_
    | refine SR_rd (RD_fieldAddrO 0 Try.runUnderlying23 rfl rfl Try.sizeOf3 rfl (by simp <;> omega)) Has.ro rfl ?_
  refine SR_rd (RD_load Try.isAgg3 rfl) (Has.ce rfl) rfl ?_
  refine SR_pu (RD_geq rfl rfl) rfl ?_
  refine SR_pu (RD_move rfl) rfl ?_
  refine SR_guard rfl rfl (fun hg1_3 => ?_) (fun hg1_3 => ?_)
  · refine SR_yes rfl rfl (hg1_3) ?_
    first
      | refine SR_pu (RD_fieldAddr 1 Try.runUnderlying23 rfl rfl Try.sizeOf3 rfl) rfl ?_
      | refine SR_rd (RD_fieldAddrO 1 Try.runUnderlying23 rfl rfl Try.sizeOf3 rfl (by simp <;> omega)) Has.ro rfl ?_
    refine SR_yes rfl rfl (hg1_3) ?_
    refine SR_rd (RD_load Try.isAgg3 rfl) (Has.ce rfl) rfl ?_
    refine SR_yes rfl rfl (hg1_3) ?_
    refine SR_pu (RD_gtr rfl rfl) rfl ?_
    refine SR_pu (RD_pick_t rfl (hg1_3) rfl) rfl ?_
    refine SR_pu (RD_move rfl) rfl ?_
    refine SR_guard rfl rfl (fun hg1_8 => ?_) (fun hg1_8 => ?_)
    · refine SR_yes rfl rfl (hg1_8) ?_
      first
        | refine SR_pu (RD_fieldAddr 1 Try.runUnderlying23 rfl rfl Try.sizeOf3 rfl) rfl ?_
        | refine SR_rd (RD_fieldAddrO 1 Try.runUnderlying23 rfl rfl Try.sizeOf3 rfl (by simp <;> omega)) Has.ro rfl ?_
      refine SR_yes rfl rfl (hg1_8) ?_
      refine SR_rd (RD_load Try.isAgg3 rfl) (Has.ce rfl) rfl ?_
      refine SR_yes rfl rfl (hg1_8) ?_
      refine SR_pu (RD_remi rfl rfl (by simp at hg1_8; omega) (by omega)) rfl ?_
      refine SR_yes rfl rfl (hg1_8) ?_
      refine SR_pu (RD_eql rfl rfl) rfl ?_
      refine SR_pu (RD_pick_t rfl (hg1_8) rfl) rfl ?_
      refine SR_pu (RD_move rfl) rfl ?_
      refine SR_guard rfl rfl (fun hg1_14 => ?_) (fun hg1_14 => ?_)
      · refine SR_yes rfl rfl (hg1_14) ?_
        first
          | refine SR_pu (RD_fieldAddr 1 Try.runUnderlying23 rfl rfl Try.sizeOf3 rfl) rfl ?_
          | refine SR_rd (RD_fieldAddrO 1 Try.runUnderlying23 rfl rfl Try.sizeOf3 rfl (by simp <;> omega)) Has.ro rfl ?_
        refine SR_yes rfl rfl (hg1_14) ?_
        refine SR_rd (RD_load Try.isAgg3 rfl) (Has.ce rfl) rfl ?_
        refine SR_yes rfl rfl (hg1_14) ?_
        refine SR_pu (RD_quo rfl rfl (by omega)) rfl ?_
        refine SR_yes rfl rfl (hg1_14) ?_
        first
          | refine SR_pu (RD_fieldAddr0 Try.runUnderlying23 rfl rfl Try.sizeOf3 rfl) rfl ?_
          | refine SR_rd (RD_fieldAddrO 0 Try.runUnderlying23 rfl rfl Try.sizeOf3 rfl (by simp <;> omega)) Has.ro rfl ?_
        refine SR_yes rfl rfl (hg1_14) ?_
        refine SR_rd (RD_load Try.isAgg3 rfl) (Has.ce rfl) rfl ?_
        refine SR_yes rfl rfl (hg1_14) ?_
        refine SR_pu (RD_eql rfl rfl) rfl ?_
        refine SR_pu (RD_pick_t rfl (hg1_14) rfl) rfl ?_
        refine SR_pu (RD_assign rfl) rfl ?_
        refine SR_nil ?_
        refine SN.le (l := [(2, _)]) ?_ (.cons rfl (.nil))
        refine SN_seq ?_
        refine SC_ret1 rfl rfl ?_
        refine ⟨?_, .fin⟩
        unfold CfgD.fits
        simp at *
        try omega
        try (have e : IntKind.i64.wrap (c.n.tdiv 3) = c.n / 3 := by rw [Int.tdiv_eq_ediv_of_nonneg (by omega), IntKind.wrap_i64]; omega)
        try simp [*]
        try omega
      · refine SR_no rfl rfl (hg1_14) (lts rfl) ?_
        refine SR_no rfl rfl (hg1_14) (lts rfl) ?_
        refine SR_no rfl rfl (hg1_14) (lts rfl) ?_
        refine SR_no rfl rfl (hg1_14) (lts rfl) ?_
        refine SR_no rfl rfl (hg1_14) (lts rfl) ?_
        refine SR_no rfl rfl (hg1_14) (lts rfl) ?_
        refine SR_pu (RD_pick_f rfl (hg1_14) rfl) rfl ?_
        refine SR_pu (RD_assign rfl) rfl ?_
        refine SR_nil ?_
        refine SN.le (l := [(2, _)]) ?_ (.cons rfl (.nil))
        refine SN_seq ?_
        refine SC_ret1 rfl rfl ?_
        refine ⟨?_, .fin⟩
        unfold CfgD.fits
        simp at *
        try omega
        try (have e : IntKind.i64.wrap (c.n.tdiv 3) = c.n / 3 := by rw [Int.tdiv_eq_ediv_of_nonneg (by omega), IntKind.wrap_i64]; omega)
        try simp [*]
        try omega
    · refine SR_no rfl rfl (hg1_8) (lts rfl) ?_
      refine SR_no rfl rfl (hg1_8) (lts rfl) ?_
      refine SR_no rfl rfl (hg1_8) (lts rfl) ?_
      refine SR_no rfl rfl (hg1_8) (lts rfl) ?_
      refine SR_pu (RD_pick_f rfl (hg1_8) rfl) rfl ?_
      refine SR_pu (RD_move rfl) rfl ?_
      refine SR_no rfl rfl (rfl) (lts rfl) ?_
      refine SR_no rfl rfl (rfl) (lts rfl) ?_
      refine SR_no rfl rfl (rfl) (lts rfl) ?_
      refine SR_no rfl rfl (rfl) (lts rfl) ?_
      refine SR_no rfl rfl (rfl) (lts rfl) ?_
      refine SR_no rfl rfl (rfl) (lts rfl) ?_
      refine SR_pu (RD_pick_f rfl (rfl) rfl) rfl ?_
      refine SR_pu (RD_assign rfl) rfl ?_
      refine SR_nil ?_
      refine SN.le (l := [(2, _)]) ?_ (.cons rfl (.nil))
      refine SN_seq ?_
      refine SC_ret1 rfl rfl ?_
      refine ⟨?_, .fin⟩
      unfold CfgD.fits
      simp at *
      try omega
      try (have e : IntKind.i64.wrap (c.n.tdiv 3) = c.n / 3 := by rw [Int.tdiv_eq_ediv_of_nonneg (by omega), IntKind.wrap_i64]; omega)
      try simp [*]
      try omega
  · refine SR_no rfl rfl (hg1_3) (lts rfl) ?_
    refine SR_no rfl rfl (hg1_3) (lts rfl) ?_
    refine SR_no rfl rfl (hg1_3) (lts rfl) ?_
    refine SR_pu (RD_pick_f rfl (hg1_3) rfl) rfl ?_
    refine SR_pu (RD_move rfl) rfl ?_
    refine SR_no rfl rfl (rfl) (lts rfl) ?_
    refine SR_no rfl rfl (rfl) (lts rfl) ?_
    refine SR_no rfl rfl (rfl) (lts rfl) ?_
    refine SR_no rfl rfl (rfl) (lts rfl) ?_
    refine SR_pu (RD_pick_f rfl (rfl) rfl) rfl ?_
    refine SR_pu (RD_move rfl) rfl ?_
    refine SR_no rfl rfl (rfl) (lts rfl) ?_
    refine SR_no rfl rfl (rfl) (lts rfl) ?_
    refine SR_no rfl rfl (rfl) (lts rfl) ?_
    refine SR_no rfl rfl (rfl) (lts rfl) ?_
    refine SR_no rfl rfl (rfl) (lts rfl) ?_
    refine SR_no rfl rfl (rfl) (lts rfl) ?_
    refine SR_pu (RD_pick_f rfl (rfl) rfl) rfl ?_
    refine SR_pu (RD_assign rfl) rfl ?_
    refine SR_nil ?_
    refine SN.le (l := [(2, _)]) ?_ (.cons rfl (.nil))
    refine SN_seq ?_
    refine SC_ret1 rfl rfl ?_
    refine ⟨?_, .fin⟩
    unfold CfgD.fits
    simp at *
    try omega
    try (have e : IntKind.i64.wrap (c.n.tdiv 3) = c.n / 3 := by rw [Int.tdiv_eq_ediv_of_nonneg (by omega), IntKind.wrap_i64]; omega)
    try simp [*]
    try omega

theorem cert_Quorum {W : World} {F : List HProp} [Abs F] (c : CfgD) :
    CallsK W Try.prog 12 #[c.val] (F) (fun v L => v = .int .i64 (IntKind.i64.wrap (c.n - c.f)) ∧ Lands L F) := by
  refine CallsK_enter (n := 8) Try.func12 rfl rfl rfl ?_
  refine SC_seq ?_
  refine SC_region ?_
  refine SR_ox (OX_box rfl rfl) rfl ?_
  rintro _ _ ⟨b1, rfl, rfl⟩
  refine SR_pu (RD_assign rfl) rfl ?_
  refine SR_nil ?_
  refine SN.le (l := [(1, _)]) ?_ (.cons rfl (.nil))
  refine SN_seq ?_
  refine SC_seq ?_
  refine SC_region ?_
  first
    | refine SR_pu (RD_fieldAddr 1 Try.runUnderlying23 rfl rfl Try.sizeOf3 rfl) rfl ?_
    | refine SR_rd (RD_fieldAddrO 1 Try.runUnderlying23 rfl rfl Try.sizeOf3 rfl (by simp <;> omega)) Has.ro rfl ?_
  refine SR_rd (RD_load Try.isAgg3 rfl) (Has.ce rfl) rfl ?_
  first
    | refine SR_pu (RD_fieldAddr0 Try.runUnderlying23 rfl rfl Try.sizeOf3 rfl) rfl ?_
    | refine SR_rd (RD_fieldAddrO 0 Try.runUnderlying23 rfl rfl Try.sizeOf3 rfl (by simp <;> omega)) Has.ro rfl ?_
  refine SR_rd (RD_load Try.isAgg3 rfl) (Has.ce rfl) rfl ?_
  refine SR_pu (RD_sub rfl rfl) rfl ?_
  refine SR_pu (RD_assign rfl) rfl ?_
  refine SR_nil ?_
  refine SN.le (l := [(2, _)]) ?_ (.cons rfl (.nil))
  refine SN_seq ?_
  refine SC_ret1 rfl rfl ?_
  exact ⟨rfl, .fin⟩

theorem cert_Replica {W : World} {F : List HProp} [Abs F] (c : CfgD) (w : Int) :
    CallsK W Try.prog 70 #[c.val, .int .i64 w] (F) (fun v L => v = .bool (decide (0 ≤ w ∧ w < c.n)) ∧ Lands L F) := by
  refine CallsK_enter (n := 13) Try.func70 rfl rfl rfl ?_
  refine SC_seq ?_
  refine SC_region ?_
  refine SR_ox (OX_box rfl rfl) rfl ?_
  rintro _ _ ⟨b2, rfl, rfl⟩
  refine SR_pu (RD_assign rfl) rfl ?_
  refine SR_nil ?_
  refine SN.le (l := [(1, _), (2, _)]) ?_ (.cons rfl (.cons rfl (.nil)))
  refine SN_seq ?_
  refine SC_seq ?_
  refine SC_region ?_
  refine SR_pu (RD_move rfl) rfl ?_
  refine SR_pu (RD_geq rfl rfl) rfl ?_
  refine SR_pu (RD_move rfl) rfl ?_
  refine SR_guard rfl rfl (fun hg1_2 => ?_) (fun hg1_2 => ?_)
  · refine SR_yes rfl rfl (hg1_2) ?_
    refine SR_pu (RD_move rfl) rfl ?_
    refine SR_yes rfl rfl (hg1_2) ?_
    first
      | refine SR_pu (RD_fieldAddr 1 Try.runUnderlying23 rfl rfl Try.sizeOf3 rfl) rfl ?_
      | refine SR_rd (RD_fieldAddrO 1 Try.runUnderlying23 rfl rfl Try.sizeOf3 rfl (by simp <;> omega)) Has.ro rfl ?_
    refine SR_yes rfl rfl (hg1_2) ?_
    refine SR_rd (RD_load Try.isAgg3 rfl) (Has.ce rfl) rfl ?_
    refine SR_yes rfl rfl (hg1_2) ?_
    refine SR_pu (RD_lss rfl rfl) rfl ?_
    refine SR_pu (RD_pick_t rfl (hg1_2) rfl) rfl ?_
    refine SR_pu (RD_assign rfl) rfl ?_
    refine SR_nil ?_
    refine SN.le (l := [(4, _)]) ?_ (.cons rfl (.nil))
    refine SN_seq ?_
    refine SC_ret1 rfl rfl ?_
    refine ⟨?_, .fin⟩
    simp at *
    try omega
  · refine SR_no rfl rfl (hg1_2) (lts rfl) ?_
    refine SR_no rfl rfl (hg1_2) (lts rfl) ?_
    refine SR_no rfl rfl (hg1_2) (lts rfl) ?_
    refine SR_no rfl rfl (hg1_2) (lts rfl) ?_
    refine SR_pu (RD_pick_f rfl (hg1_2) rfl) rfl ?_
    refine SR_pu (RD_assign rfl) rfl ?_
    refine SR_nil ?_
    refine SN.le (l := [(4, _)]) ?_ (.cons rfl (.nil))
    refine SN_seq ?_
    refine SC_ret1 rfl rfl ?_
    refine ⟨?_, .fin⟩
    simp at *
    try omega

theorem cert_many {W : World} {F : List HProp} [Abs F] (c : CfgD) (a : Option Addr) (n cc : Nat) (by_ : List Int) {cs : List Value} [HasRow F a cs] (hcs : cs = by_.map intV) (hn : by_.length = n) (hb : n ≤ 100000000) (hw : c.n < 9223372036854775808) :
    CallsK W Try.prog 43 #[c.val, .slice a n cc] (F) (fun v L => v = .bool (c.many by_) ∧ Lands L F) := by
  refine CallsK_enter (n := 41) Try.func43 rfl rfl rfl ?_
  subst hcs
  refine SC_seq ?_
  refine SC_region ?_
  refine SR_ox (OX_box rfl rfl) rfl ?_
  rintro _ _ ⟨b2, rfl, rfl⟩
  refine SR_pu (RD_assign rfl) rfl ?_
  refine SR_nil ?_
  refine SN.le (l := [(1, _), (2, _)]) ?_ (.cons rfl (.cons rfl (.nil)))
  refine SN_seq ?_
  refine SC_seq ?_
  refine SC_seq ?_
  refine SC_region ?_
  refine SR_pu (RD_move rfl) rfl ?_
  refine SR_pu (RD_len Try.runUnderlying24 rfl) rfl ?_
  refine SR_pu (RD_move rfl) rfl ?_
  refine SR_nil ?_
  refine SN.le (l := [(1, _), (2, _), (7, _), (8, _), (9, _)]) ?_ (.cons rfl (.cons rfl (.cons rfl (.cons rfl (.cons rfl (.nil))))))
  refine SN_seq ?_
  refine SC_block ?_
  refine SC_ind (X := Nat) (fun i => i ≤ by_.length ∧ ∀ j, j < i → rOk c.n by_ j) (fun i => by_.length - i) (fun i => [(1, .slice a n cc), (2, .pointer (some ⟨b2, 0, none⟩)), (7, .slice a n cc), (8, .int .i64 (n : Nat)), (9, .int .i64 (i : Nat))]) (fun i => pt b2 (.cells c.cells.toArray 23) :: F) (0) (⟨by omega, fun j hj => by omega⟩) (.cons rfl (.cons rfl (.cons rfl (.cons rfl (.cons rfl (.nil)))))) (.fin) ?_
  intro i hi ih
  obtain ⟨hi1, hi2⟩ := hi
  refine SC_seq ?_
  refine SC_region ?_
  refine SR_pu (RD_lss rfl rfl) rfl ?_
  refine SR_nil ?_
  refine SN.le (l := [(1, _), (2, _), (7, _), (8, _), (9, _), (10, _)]) ?_ (.cons rfl (.cons rfl (.cons rfl (.cons rfl (.cons rfl (.cons rfl (.nil)))))))
  refine SN_seq ?_
  refine SC_seq ?_
  refine SC_cond rfl (fun hc10 => ?_) (fun hc10 => ?_)
  · have hin : i < by_.length := by simp at hc10; omega
    obtain ⟨x, hx⟩ : ∃ x, by_[i]? = some x := ⟨_, List.getElem?_eq_getElem hin⟩
    have hxd : by_.getD i 0 = x := by simp [List.getD, hx]
    refine SC_skip ?_
    refine SN_seq ?_
    refine SC_seq ?_
    refine SC_block ?_
    refine SC_seq ?_
    refine SC_region ?_
    refine SR_pu (RD_move rfl) rfl ?_
    refine SR_rd (RD_ixO Try.runUnderlying24 Try.sizeOf3 rfl rfl (by first | assumption | (simp; done) | (simp; omega)) (by omega) (by omega)) Has.ro rfl ?_
    refine SR_rd (RD_loadO (v := intV x) (cs := by_.map intV) Try.isAgg3 rfl (by simp [hx])) Has.ro rfl ?_
    refine SR_pu (RD_assign rfl) rfl ?_
    refine SR_pu (RD_assign rfl) rfl ?_
    refine SR_nil ?_
    refine SN.le (l := [(1, _), (2, _), (5, _), (6, _), (7, _), (8, _), (9, _)]) ?_ (.cons rfl (.cons rfl (.cons rfl (.cons rfl (.cons rfl (.cons rfl (.cons rfl (.nil))))))))
    refine SN_seq ?_
    refine SC_seq ?_
    refine SC_region ?_
    refine SR_rd (RD_loadA Try.isAgg23 Try.sizeOf23 rfl rfl) Has.wh rfl ?_
    refine SR_pu (RD_move rfl) rfl ?_
    refine SR_call Try.call70 (.cons rfl (.cons rfl (.nil))) (cert_Replica c _) (lts rfl) ?_
    rintro _ L1 ⟨rfl, hL1⟩
    refine SR.lands hL1 ?_
    refine SR_pu (RD_not rfl) rfl ?_
    refine SR_pu (RD_move rfl) rfl ?_
    refine SR_guard rfl rfl (fun hg4_4 => ?_) (fun hg4_4 => ?_)
    · refine SR_yes rfl rfl (hg4_4) ?_
      refine SR_pu (RD_move rfl) rfl ?_
      refine SR_yes rfl rfl (hg4_4) ?_
      refine SR_pu (RD_gtr rfl rfl) rfl ?_
      refine SR_yes rfl rfl (hg4_4) ?_
      refine SR_pu (RD_move rfl) rfl ?_
      refine SR_guard rfl rfl (fun hg4_7 => ?_) (fun hg4_7 => ?_)
      · have hi0 : 0 < i := by simp at hg4_7; omega
        obtain ⟨y, hy⟩ : ∃ y, by_[i - 1]? = some y := ⟨_, List.getElem?_eq_getElem (by omega)⟩
        have hyd : by_.getD (i - 1) 0 = y := by simp [List.getD, hy]
        refine SR_yes rfl rfl (hg4_7) ?_
        refine SR_pu (RD_move rfl) rfl ?_
        refine SR_yes rfl rfl (hg4_7) ?_
        refine SR_pu (RD_move rfl) rfl ?_
        refine SR_yes rfl rfl (hg4_7) ?_
        refine SR_pu (RD_subi rfl rfl (by omega) (by omega)) rfl ?_
        refine SR_yes rfl rfl (hg4_7) ?_
        refine SR_rd (RD_ixO (i := ((i - 1 : Nat) : Int)) (cs := by_.map intV) Try.runUnderlying24 Try.sizeOf3 rfl (congrArg some (ie (by omega))) (by simpa using hn) (by omega) (by omega)) Has.ro rfl ?_
        refine SR_yes rfl rfl (hg4_7) ?_
        refine SR_rd (RD_loadO (v := intV y) (cs := by_.map intV) Try.isAgg3 rfl (by simp [hy])) Has.ro rfl ?_
        refine SR_yes rfl rfl (hg4_7) ?_
        refine SR_pu (RD_move rfl) rfl ?_
        refine SR_yes rfl rfl (hg4_7) ?_
        refine SR_pu (RD_geq rfl rfl) rfl ?_
        refine SR_yes rfl rfl (hg4_4) ?_
        refine SR_pu (RD_pick_t rfl (hg4_7) rfl) rfl ?_
        refine SR_pu (RD_pick_f rfl (hg4_4) rfl) rfl ?_
        refine SR_nil ?_
        refine SN.le (l := [(1, _), (2, _), (7, _), (8, _), (9, _), (30, _)]) ?_ (.cons rfl (.cons rfl (.cons rfl (.cons rfl (.cons rfl (.cons rfl (.nil)))))))
        refine SN_seq ?_
        refine SC_cond rfl (fun hc30 => ?_) (fun hc30 => ?_)
        · refine SC_seq ?_
          refine SC_region ?_
          refine SR_pu (RD_assign rfl) rfl ?_
          refine SR_nil ?_
          refine SN.le (l := [(4, _)]) ?_ (.cons rfl (.nil))
          refine SN_seq ?_
          refine SC_ret1 rfl rfl ?_
          have hnr : ¬ rises c.n by_ := fun h => by
            have h1 := h i hin
            unfold rOk at h1
            rw [hxd] at h1
            rw [hyd] at h1
            simp at hc30
            have := h1.2.2 hi0
            omega
          exact ⟨by simp [CfgD.many, hnr], .fin⟩
        · refine SC_skip ?_
          refine SN_block ?_
          refine SN_seq ?_
          refine SC_region ?_
          refine SR_pu (RD_addi rfl rfl (by omega) (by omega)) rfl ?_
          refine SR_pu (RD_move rfl) rfl ?_
          refine SR_nil ?_
          refine SN.le (l := [(1, _), (2, _), (7, _), (8, _), (9, _)]) ?_ (.cons rfl (.cons rfl (.cons rfl (.cons rfl (.cons rfl (.nil))))))
          refine SC_again (ih (i + 1) (⟨by omega, fun j hj => by
            rcases Nat.lt_succ_iff_lt_or_eq.1 hj with h | h
            · exact hi2 j h
            · subst h
              unfold rOk
              rw [hxd]
              rw [hyd]
              simp at hg4_4 hc30
              exact ⟨hg4_4.1, hg4_4.2, fun _ => by omega⟩⟩) (by omega)) (.fin) (.cons rfl (.cons rfl (.cons rfl (.cons rfl (.cons' rfl (ie (by omega)) (.nil))))))
      · refine SR_no rfl rfl (hg4_7) (lts rfl) ?_
        refine SR_no rfl rfl (hg4_7) (lts rfl) ?_
        refine SR_no rfl rfl (hg4_7) (lts rfl) ?_
        refine SR_no rfl rfl (hg4_7) (lts rfl) ?_
        refine SR_no rfl rfl (hg4_7) (lts rfl) ?_
        refine SR_no rfl rfl (hg4_7) (lts rfl) ?_
        refine SR_no rfl rfl (hg4_7) (lts rfl) ?_
        refine SR_yes rfl rfl (hg4_4) ?_
        refine SR_pu (RD_pick_f rfl (hg4_7) rfl) rfl ?_
        refine SR_pu (RD_pick_f rfl (hg4_4) rfl) rfl ?_
        refine SR_nil ?_
        refine SN.le (l := [(1, _), (2, _), (7, _), (8, _), (9, _), (30, _)]) ?_ (.cons rfl (.cons rfl (.cons rfl (.cons rfl (.cons rfl (.cons rfl (.nil)))))))
        refine SN_seq ?_
        refine SC_cond_false rfl (rfl) ?_
        refine SC_skip ?_
        refine SN_block ?_
        refine SN_seq ?_
        refine SC_region ?_
        refine SR_pu (RD_addi rfl rfl (by omega) (by omega)) rfl ?_
        refine SR_pu (RD_move rfl) rfl ?_
        refine SR_nil ?_
        refine SN.le (l := [(1, _), (2, _), (7, _), (8, _), (9, _)]) ?_ (.cons rfl (.cons rfl (.cons rfl (.cons rfl (.cons rfl (.nil))))))
        refine SC_again (ih (i + 1) (⟨by omega, fun j hj => by
          rcases Nat.lt_succ_iff_lt_or_eq.1 hj with h | h
          · exact hi2 j h
          · subst h
            unfold rOk
            rw [hxd]
            simp at hg4_4 hg4_7
            refine ⟨hg4_4.1, hg4_4.2, fun h => by omega⟩⟩) (by omega)) (.fin) (.cons rfl (.cons rfl (.cons rfl (.cons rfl (.cons' rfl (ie (by omega)) (.nil))))))
    · refine SR_no rfl rfl (hg4_4) (lts rfl) ?_
      refine SR_no rfl rfl (hg4_4) (lts rfl) ?_
      refine SR_no rfl rfl (hg4_4) (lts rfl) ?_
      refine SR_nou  rfl rfl (lts rfl) ?_
      refine SR_nou  rfl rfl (lts rfl) ?_
      refine SR_nou  rfl rfl (lts rfl) ?_
      refine SR_nou  rfl rfl (lts rfl) ?_
      refine SR_nou  rfl rfl (lts rfl) ?_
      refine SR_nou  rfl rfl (lts rfl) ?_
      refine SR_nou  rfl rfl (lts rfl) ?_
      refine SR_no rfl rfl (hg4_4) (lts rfl) ?_
      refine SR_pu (RD_pick_t rfl (hg4_4) rfl) rfl ?_
      refine SR_nil ?_
      refine SN.le (l := [(1, _), (2, _), (7, _), (8, _), (9, _), (30, _)]) ?_ (.cons rfl (.cons rfl (.cons rfl (.cons rfl (.cons rfl (.cons rfl (.nil)))))))
      refine SN_seq ?_
      refine SC_cond_true rfl (rfl) ?_
      refine SC_seq ?_
      refine SC_region ?_
      refine SR_pu (RD_assign rfl) rfl ?_
      refine SR_nil ?_
      refine SN.le (l := [(4, _)]) ?_ (.cons rfl (.nil))
      refine SN_seq ?_
      refine SC_ret1 rfl rfl ?_
      have hnr : ¬ rises c.n by_ := fun h => by
        have h1 := h i hin
        unfold rOk at h1
        rw [hxd] at h1
        simp at hg4_4
        omega
      exact ⟨by simp [CfgD.many, hnr], .fin⟩
  · have hin : i = by_.length := by simp at hc10; omega
    have hr : rises c.n by_ := fun j hj => hi2 j (by omega)
    refine SC_exit rfl ?_
    refine SN_seq ?_
    refine SC_seq ?_
    refine SC_region ?_
    refine SR_rd (RD_loadA Try.isAgg23 Try.sizeOf23 rfl rfl) Has.wh rfl ?_
    refine SR_call Try.call42 (.cons rfl (.nil)) (cert_Fits c hw) (lts rfl) ?_
    rintro _ L2 ⟨rfl, hL2⟩
    refine SR.lands hL2 ?_
    refine SR_pu (RD_move rfl) rfl ?_
    refine SR_guard rfl rfl (fun hg7_2 => ?_) (fun hg7_2 => ?_)
    · refine SR_yes rfl rfl (hg7_2) ?_
      refine SR_pu (RD_move rfl) rfl ?_
      refine SR_yes rfl rfl (hg7_2) ?_
      refine SR_pu (RD_len Try.runUnderlying24 rfl) rfl ?_
      refine SR_yes rfl rfl (hg7_2) ?_
      refine SR_rd (RD_loadA Try.isAgg23 Try.sizeOf23 rfl rfl) Has.wh rfl ?_
      refine SR_yes rfl rfl (hg7_2) ?_
      refine SR_call Try.call12 (.cons rfl (.nil)) (cert_Quorum c) (lts rfl) ?_
      rintro _ L3 ⟨rfl, hL3⟩
      refine SR.lands hL3 ?_
      refine SR_yes rfl rfl (hg7_2) ?_
      refine SR_pu (RD_geq rfl rfl) rfl ?_
      refine SR_pu (RD_pick_t rfl (hg7_2) rfl) rfl ?_
      refine SR_pu (RD_assign rfl) rfl ?_
      refine SR_nil ?_
      refine SN.le (l := [(4, _)]) ?_ (.cons rfl (.nil))
      refine SN_seq ?_
      refine SC_ret1 rfl rfl ?_
      refine ⟨?_, .fin⟩
      unfold CfgD.many
      rw [decide_eq_true hr]
      rw [hg7_2]
      first
        | (simp; done)
        | (have h3 := hg7_2
           unfold CfgD.fits at h3
           simp at h3
           have e : IntKind.i64.wrap (c.n - c.f) = c.n - c.f := by rw [IntKind.wrap_i64]; omega
           simp [e, hn])
    · refine SR_no rfl rfl (hg7_2) (lts rfl) ?_
      refine SR_no rfl rfl (hg7_2) (lts rfl) ?_
      refine SR_no rfl rfl (hg7_2) (lts rfl) ?_
      refine SR_no rfl rfl (hg7_2) (lts rfl) ?_
      refine SR_no rfl rfl (hg7_2) (lts rfl) ?_
      refine SR_pu (RD_pick_f rfl (hg7_2) rfl) rfl ?_
      refine SR_pu (RD_assign rfl) rfl ?_
      refine SR_nil ?_
      refine SN.le (l := [(4, _)]) ?_ (.cons rfl (.nil))
      refine SN_seq ?_
      refine SC_ret1 rfl rfl ?_
      refine ⟨?_, .fin⟩
      unfold CfgD.many
      rw [decide_eq_true hr]
      rw [hg7_2]
      first
        | (simp; done)
        | (have h3 := hg7_2
           unfold CfgD.fits at h3
           simp at h3
           have e : IntKind.i64.wrap (c.n - c.f) = c.n - c.f := by rw [IntKind.wrap_i64]; omega
           simp [e, hn])

end Go.Proofs.Ytmigjpmadhebfaa
