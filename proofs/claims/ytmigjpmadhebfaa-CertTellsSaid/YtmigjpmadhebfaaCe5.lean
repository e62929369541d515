/- Certificates: is a view given up; what the document fixes. -/
import Derived.Test.YtmigjpmadhebfaaCe4
namespace Go.Proofs.Ytmigjpmadhebfaa
open Go Go.Proofs
set_option maxRecDepth 100000
/-- The greatest of a row. -/
def most (l : List Int) : Int := l.tail.foldl max (l.headD 0)
theorem most_take {l : List Int} {i : Nat} {x : Int} (hi : 0 < i) (h : l[i]? = some x) : most (l.take (i + 1)) = max (most (l.take i)) x := by
  cases l with
  | nil => simp at h
  | cons y r =>
    cases i with
    | zero => omega
    | succ j =>
      simp only [List.getElem?_cons_succ] at h
      unfold most
      simp only [List.take_succ_cons, List.tail_cons, List.headD_cons]
      rw [List.take_add_one, h]
      simp
def tOk (l : List (List UInt8)) (S : List (Int × List Int)) (view : Int) (by_ hs : List Int) (j : Nat) : Prop := 0 ≤ hs.getD j 0 ∧ hs.getD j 0 < view ∧ by_.getD j 0 ∈ sg l S (outB view (hs.getD j 0))
instance decTOk (l : List (List UInt8)) (S : List (Int × List Int)) (view : Int) (by_ hs : List Int) (j : Nat) : Decidable (tOk l S view by_ hs j) := by unfold tOk; infer_instance
def CfgD.tcA (c : CfgD) (l : List (List UInt8)) (S : List (Int × List Int)) (view : Int) (by_ hs : List Int) (hv : Int) : Prop := 1 ≤ view ∧ c.many by_ = true ∧ hs.length = by_.length ∧ (∀ j, j < hs.length → tOk l S view by_ hs j) ∧ most hs = hv
instance decTcA (c : CfgD) (l : List (List UInt8)) (S : List (Int × List Int)) (view : Int) (by_ hs : List Int) (hv : Int) : Decidable (c.tcA l S view by_ hs hv) := by unfold CfgD.tcA; infer_instance
/-- What its verdict is in an arena. -/
def CfgD.tcOk (c : CfgD) (l : List (List UInt8)) (S : List (Int × List Int)) (t : TcD) : Bool := decide (c.tcA l S t.view t.by_.l t.highs.l t.high.view) && c.qcOk l S t.high.view t.high.block t.high.by_.l
theorem tOk_ext {l l' : List (List UInt8)} {S : List (Int × List Int)} (h : Inv l S) (e : Ext l l') {view : Int} {by_ hs : List Int} {j : Nat} : tOk l' S view by_ hs j ↔ tOk l S view by_ hs j := by unfold tOk; rw [sg_ext h e]
theorem tcA_ext {c : CfgD} {l l' : List (List UInt8)} {S : List (Int × List Int)} (h : Inv l S) (e : Ext l l') {view : Int} {by_ hs : List Int} {hv : Int} : c.tcA l' S view by_ hs hv ↔ c.tcA l S view by_ hs hv := by
  unfold CfgD.tcA; simp only [tOk_ext h e]

theorem ints_Max {W : World} {F : List HProp} [Abs F] (a : Option Addr) (n c : Nat) (xs : List Int) {cs : List Value} [HasRow F a cs] (hcs : cs = xs.map intV) (hn : xs.length = n) (hb : n ≤ 100000000) (h0 : 0 < xs.length) :
    CallsK W Try.prog 49 #[.slice a n c] (F) (fun v L => v = .int .i64 (most xs) ∧ Lands L F) := by
  refine CallsK_enter (n := 25) Try.func49 rfl rfl rfl ?_
  subst hcs
  obtain ⟨y0, hy0⟩ : ∃ y, xs[0]? = some y := ⟨_, List.getElem?_eq_getElem h0⟩
  refine SC_seq ?_
  refine SC_region ?_
  refine SR_pu (RD_assign rfl) rfl ?_
  refine SR_nil ?_
  refine SN.le (l := [(0, _)]) ?_ (.cons rfl (.nil))
  refine SN_seq ?_
  refine SC_seq ?_
  refine SC_seq ?_
  refine SC_region ?_
  refine SR_pu (RD_move rfl) rfl ?_
  refine SR_pu (RD_len Try.runUnderlying24 rfl) rfl ?_
  refine SR_pu (RD_lss rfl rfl) rfl ?_
  refine SR_nil ?_
  refine SN.le (l := [(0, _), (7, _)]) ?_ (.cons rfl (.cons rfl (.nil)))
  refine SN_seq ?_
  refine SC_cond_false rfl (by simp; omega) ?_
  refine SC_skip ?_
  refine SN_seq ?_
  refine SC_seq ?_
  refine SC_region ?_
  refine SR_pu (RD_move rfl) rfl ?_
  refine SR_rd (RD_ixO (i := ((0 : Nat) : Int)) (cs := xs.map intV) Try.runUnderlying24 Try.sizeOf3 rfl rfl (by simpa using hn) (by omega) (by omega)) Has.ro rfl ?_
  refine SR_rd (RD_loadO (v := intV y0) (cs := xs.map intV) Try.isAgg3 rfl (by simp [hy0])) Has.ro rfl ?_
  refine SR_pu (RD_assign rfl) rfl ?_
  refine SR_nil ?_
  refine SN.le (l := [(0, _), (3, _)]) ?_ (.cons rfl (.cons rfl (.nil)))
  refine SN_seq ?_
  refine SC_seq ?_
  refine SC_seq ?_
  refine SC_region ?_
  refine SR_pu (RD_assign rfl) rfl ?_
  refine SR_nil ?_
  refine SN.le (l := [(0, _), (3, _), (4, _)]) ?_ (.cons rfl (.cons rfl (.cons rfl (.nil))))
  refine SN_seq ?_
  refine SC_block ?_
  refine SC_ind (X := Nat) (fun i => 0 < i ∧ i ≤ xs.length) (fun i => xs.length - i) (fun i => [(0, .slice a n c), (3, .int .i64 (most (xs.take i))), (4, .int .i64 (i : Nat))]) (fun i => F) (1) (⟨by omega, by omega⟩) (.cons rfl (.cons' rfl (by cases xs with
   | nil => simp at h0
   | cons y r => simp at hy0; subst hy0; rfl) (.cons rfl (.nil)))) (.fin) ?_
  intro i hi ih
  obtain ⟨hi1, hi2⟩ := hi
  refine SC_seq ?_
  refine SC_seq ?_
  refine SC_region ?_
  refine SR_pu (RD_move rfl) rfl ?_
  refine SR_pu (RD_move rfl) rfl ?_
  refine SR_pu (RD_len Try.runUnderlying24 rfl) rfl ?_
  refine SR_pu (RD_lss rfl rfl) rfl ?_
  refine SR_nil ?_
  refine SN.le (l := [(0, _), (3, _), (4, _), (15, _)]) ?_ (.cons rfl (.cons rfl (.cons rfl (.cons rfl (.nil)))))
  refine SN_seq ?_
  refine SC_cond rfl (fun hc15 => ?_) (fun hc15 => ?_)
  · have hin : i < xs.length := by simp at hc15; omega
    obtain ⟨x, hx⟩ : ∃ x, xs[i]? = some x := ⟨_, List.getElem?_eq_getElem hin⟩
    have hmt := most_take hi1 hx
    have hmt2 : (if x > most (xs.take i) then x else most (xs.take i)) = most (xs.take (i + 1)) := by rw [hmt]; split <;> omega
    refine SC_skip ?_
    refine SN_seq ?_
    refine SC_seq ?_
    refine SC_block ?_
    refine SC_region ?_
    refine SR_pu (RD_move rfl) rfl ?_
    refine SR_pu (RD_move rfl) rfl ?_
    refine SR_pu (RD_move rfl) rfl ?_
    refine SR_rd (RD_ixO Try.runUnderlying24 Try.sizeOf3 rfl rfl (by first | assumption | (simp; done) | (simp; omega)) (by omega) (by omega)) Has.ro rfl ?_
    refine SR_rd (RD_loadO (v := intV x) (cs := xs.map intV) Try.isAgg3 rfl (by simp [hx])) Has.ro rfl ?_
    refine SR_pu (RD_max rfl rfl) rfl ?_
    refine SR_pu (RD_assign rfl) rfl ?_
    refine SR_nil ?_
    refine SN.le (l := [(0, _), (3, _), (4, _)]) ?_ (.cons rfl (.cons rfl (.cons rfl (.nil))))
    refine SN_block ?_
    refine SN_seq ?_
    refine SC_region ?_
    refine SR_pu (RD_move rfl) rfl ?_
    refine SR_pu (RD_addi rfl rfl (by omega) (by omega)) rfl ?_
    refine SR_pu (RD_assign rfl) rfl ?_
    refine SR_nil ?_
    refine SN.le (l := [(0, _), (3, _), (4, _)]) ?_ (.cons rfl (.cons rfl (.cons rfl (.nil))))
    refine SC_again (ih (i + 1) (⟨by omega, by omega⟩) (by omega)) (.fin) (.cons rfl (.cons' rfl (congrArg (Value.int .i64) hmt2) (.cons' rfl (ie (by omega)) (.nil))))
  · have hin : i = xs.length := by simp at hc15; omega
    subst hin
    rw [List.take_length]
    refine SC_exit rfl ?_
    refine SN_seq ?_
    refine SC_seq ?_
    refine SC_region ?_
    refine SR_pu (RD_move rfl) rfl ?_
    refine SR_pu (RD_assign rfl) rfl ?_
    refine SR_nil ?_
    refine SN.le (l := [(2, _)]) ?_ (.cons rfl (.nil))
    refine SN_seq ?_
    refine SC_ret1 rfl rfl ?_
    exact ⟨rfl, .fin⟩

theorem cert_TcOk {W : World} {F : List HProp} [Abs F] (k : WK) (s : WS) (hI : Inv s.l s.S) (c : CfgD) (t : TcD) {cs ds es : List Value} [HasRow F t.by_.a cs] [HasRow F t.highs.a ds] [HasRow F t.high.by_.a es] (hcs : cs = t.by_.l.map intV) (hds : ds = t.highs.l.map intV) (hes : es = t.high.by_.l.map intV) (hn : t.by_.l.length = t.by_.n) (hm : t.highs.l.length = t.highs.n) (hh : t.high.by_.l.length = t.high.by_.n) (hb : t.by_.n ≤ 1000000) (hbm : t.highs.n ≤ 1000000) (hbh : t.high.by_.n ≤ 1000000) (hl : s.l.length ≤ 900000000) (hw : c.n < 9223372036854775808) :
    CallsK W Try.prog 10 #[.pointer (some ⟨k.p, 0, none⟩), c.val, t.val] (At worldI k s :: F) (fun v L => ∃ l', Ext s.l l' ∧ l'.length ≤ s.l.length + t.highs.n + 1 ∧ (c.tcA l' s.S t.view t.by_.l t.highs.l t.high.view → t.high.view = 0 → c.fits = true → rootB ∈ l') ∧ v = .bool (c.tcOk l' s.S t) ∧ Lands L (At worldI k ⟨l', s.S⟩ :: F)) := by
  refine CallsK_enter (n := 75) Try.func10 rfl rfl rfl ?_
  subst hcs
  subst hds
  subst hes
  refine SC_seq ?_
  refine SC_region ?_
  refine SR_ox (OX_box rfl rfl) rfl ?_
  rintro _ _ ⟨b4, rfl, rfl⟩
  refine SR_ox (OX_box rfl rfl) rfl ?_
  rintro _ _ ⟨b5, rfl, rfl⟩
  refine SR_pu (RD_assign rfl) rfl ?_
  refine SR_nil ?_
  refine SN.le (l := [(0, _), (4, _), (5, _)]) ?_ (.cons rfl (.cons rfl (.cons rfl (.nil))))
  refine SN_seq ?_
  refine SC_seq ?_
  refine SC_seq ?_
  refine SC_region ?_
  first
    | refine SR_pu (RD_fieldAddr0 Try.runUnderlying28 rfl rfl Try.sizeOf3 rfl) rfl ?_
    | refine SR_rd (RD_fieldAddrO 0 Try.runUnderlying28 rfl rfl Try.sizeOf3 rfl (by simp <;> omega)) Has.ro rfl ?_
  refine SR_rd (RD_load Try.isAgg3 rfl) (Has.ce rfl) rfl ?_
  refine SR_pu (RD_lss rfl rfl) rfl ?_
  refine SR_pu (RD_move rfl) rfl ?_
  refine SR_guard rfl rfl (fun hg1_3 => ?_) (fun hg1_3 => ?_)
  · refine SR_yes rfl rfl (hg1_3) ?_
    refine SR_rd (RD_loadA Try.isAgg23 Try.sizeOf23 rfl rfl) Has.wh rfl ?_
    refine SR_yes rfl rfl (hg1_3) ?_
    first
      | refine SR_pu (RD_fieldAddr 1 Try.runUnderlying28 rfl rfl Try.sizeOf24 rfl) rfl ?_
      | refine SR_rd (RD_fieldAddrO 1 Try.runUnderlying28 rfl rfl Try.sizeOf24 rfl (by simp <;> omega)) Has.ro rfl ?_
    refine SR_yes rfl rfl (hg1_3) ?_
    refine SR_rd (RD_load Try.isAgg24 rfl) (Has.ce rfl) rfl ?_
    refine SR_yes rfl rfl (hg1_3) ?_
    refine SR_call Try.call43 (.cons rfl (.cons rfl (.nil))) (cert_many c t.by_.a t.by_.n t.by_.c t.by_.l rfl hn (by omega) hw) (lts rfl) ?_
    rintro _ L4 ⟨rfl, hL4⟩
    refine SR.lands hL4 ?_
    refine SR_yes rfl rfl (hg1_3) ?_
    refine SR_pu (RD_not rfl) rfl ?_
    refine SR_pu (RD_pick_f rfl (hg1_3) rfl) rfl ?_
    refine SR_pu (RD_move rfl) rfl ?_
    refine SR_guard rfl rfl (fun hg1_10 => ?_) (fun hg1_10 => ?_)
    · refine SR_yes rfl rfl (hg1_10) ?_
      first
        | refine SR_pu (RD_fieldAddr 2 Try.runUnderlying28 rfl rfl Try.sizeOf24 rfl) rfl ?_
        | refine SR_rd (RD_fieldAddrO 2 Try.runUnderlying28 rfl rfl Try.sizeOf24 rfl (by simp <;> omega)) Has.ro rfl ?_
      refine SR_yes rfl rfl (hg1_10) ?_
      refine SR_rd (RD_load Try.isAgg24 rfl) (Has.ce rfl) rfl ?_
      refine SR_yes rfl rfl (hg1_10) ?_
      refine SR_pu (RD_len Try.runUnderlying24 rfl) rfl ?_
      refine SR_yes rfl rfl (hg1_10) ?_
      first
        | refine SR_pu (RD_fieldAddr 1 Try.runUnderlying28 rfl rfl Try.sizeOf24 rfl) rfl ?_
        | refine SR_rd (RD_fieldAddrO 1 Try.runUnderlying28 rfl rfl Try.sizeOf24 rfl (by simp <;> omega)) Has.ro rfl ?_
      refine SR_yes rfl rfl (hg1_10) ?_
      refine SR_rd (RD_load Try.isAgg24 rfl) (Has.ce rfl) rfl ?_
      refine SR_yes rfl rfl (hg1_10) ?_
      refine SR_pu (RD_len Try.runUnderlying24 rfl) rfl ?_
      refine SR_yes rfl rfl (hg1_10) ?_
      refine SR_pu (RD_neq rfl rfl) rfl ?_
      refine SR_pu (RD_pick_f rfl (hg1_10) rfl) rfl ?_
      refine SR_nil ?_
      refine SN.le (l := [(0, _), (4, _), (5, _), (27, _)]) ?_ (.cons rfl (.cons rfl (.cons rfl (.cons rfl (.nil)))))
      refine SN_seq ?_
      refine SC_cond rfl (fun hc27 => ?_) (fun hc27 => ?_)
      · refine SC_seq ?_
        refine SC_region ?_
        refine SR_pu (RD_assign rfl) rfl ?_
        refine SR_nil ?_
        refine SN.le (l := [(6, _)]) ?_ (.cons rfl (.nil))
        refine SN_seq ?_
        refine SC_ret1 rfl rfl ?_
        have hA : ∀ l, ¬ c.tcA l s.S t.view t.by_.l t.highs.l t.high.view := fun l h => by
          have := h.2.2.1
          simp at hc27
          omega
        exact ⟨s.l, Ext.same, by omega, fun h => absurd h (hA _), by unfold CfgD.tcOk; rw [decide_eq_false (hA _)]; rfl, .fin⟩
      · refine SC_skip ?_
        refine SN_seq ?_
        refine SC_seq ?_
        refine SC_seq ?_
        refine SC_region ?_
        first
          | refine SR_pu (RD_fieldAddr 2 Try.runUnderlying28 rfl rfl Try.sizeOf24 rfl) rfl ?_
          | refine SR_rd (RD_fieldAddrO 2 Try.runUnderlying28 rfl rfl Try.sizeOf24 rfl (by simp <;> omega)) Has.ro rfl ?_
        refine SR_rd (RD_load Try.isAgg24 rfl) (Has.ce rfl) rfl ?_
        refine SR_pu (RD_len Try.runUnderlying24 rfl) rfl ?_
        refine SR_pu (RD_move rfl) rfl ?_
        refine SR_nil ?_
        refine SN.le (l := [(0, _), (4, _), (5, _), (29, _), (30, _), (31, _)]) ?_ (.cons rfl (.cons rfl (.cons rfl (.cons rfl (.cons rfl (.cons rfl (.nil)))))))
        refine SN_seq ?_
        refine SC_block ?_
        have hmy : c.many t.by_.l = true := by simpa using hg1_10
        have hvy : 1 ≤ t.view := by simp at hg1_3; omega
        have hle : t.highs.l.length = t.by_.l.length := by simp at hc27; omega
        refine SC_ind (X := Nat × List (List UInt8)) (fun x => x.1 ≤ t.highs.l.length ∧ Ext s.l x.2 ∧ x.2.length ≤ s.l.length + x.1 ∧ ∀ j, j < x.1 → tOk s.l s.S t.view t.by_.l t.highs.l j) (fun x => t.highs.l.length - x.1) (fun x => [(0, .pointer (some ⟨k.p, 0, none⟩)), (4, .pointer (some ⟨b4, 0, none⟩)), (5, .pointer (some ⟨b5, 0, none⟩)), (29, .slice t.highs.a t.highs.n t.highs.c), (30, .int .i64 (t.highs.n : Nat)), (31, .int .i64 (x.1 : Nat))]) (fun x => pt b4 (.cells c.cells.toArray 23) :: pt b5 (.cells t.cells.toArray 28) :: At worldI k ⟨x.2, s.S⟩ :: F) ((0, s.l)) (⟨by omega, Ext.same, by simp, fun j hj => by omega⟩) (.cons rfl (.cons rfl (.cons rfl (.cons rfl (.cons rfl (.cons rfl (.nil))))))) (.fin) ?_
        intro ⟨i, l⟩ hi ih
        obtain ⟨hi1, hi2, hi3, hi4⟩ := hi
        dsimp only at hi1 hi2 hi3 hi4 ih ⊢
        refine SC_seq ?_
        refine SC_region ?_
        refine SR_pu (RD_lss rfl rfl) rfl ?_
        refine SR_nil ?_
        refine SN.le (l := [(0, _), (4, _), (5, _), (29, _), (30, _), (31, _), (32, _)]) ?_ (.cons rfl (.cons rfl (.cons rfl (.cons rfl (.cons rfl (.cons rfl (.cons rfl (.nil))))))))
        refine SN_seq ?_
        refine SC_seq ?_
        refine SC_cond rfl (fun hc32 => ?_) (fun hc32 => ?_)
        · have hin : i < t.highs.l.length := by simp at hc32; omega
          obtain ⟨x, hx⟩ : ∃ x, t.highs.l[i]? = some x := ⟨_, List.getElem?_eq_getElem hin⟩
          obtain ⟨y, hy⟩ : ∃ y, t.by_.l[i]? = some y := ⟨_, List.getElem?_eq_getElem (by omega)⟩
          have hxd : t.highs.l.getD i 0 = x := by simp [List.getD, hx]
          have hyd : t.by_.l.getD i 0 = y := by simp [List.getD, hy]
          refine SC_skip ?_
          refine SN_seq ?_
          refine SC_seq ?_
          refine SC_block ?_
          refine SC_seq ?_
          refine SC_region ?_
          refine SR_pu (RD_move rfl) rfl ?_
          refine SR_rd (RD_ixO Try.runUnderlying24 Try.sizeOf3 rfl rfl (by first | assumption | (simp; done) | (simp; omega)) (by omega) (by omega)) Has.ro rfl ?_
          refine SR_rd (RD_loadO (v := intV x) (cs := t.highs.l.map intV) Try.isAgg3 rfl (by simp [hx])) Has.ro rfl ?_
          refine SR_pu (RD_assign rfl) rfl ?_
          refine SR_pu (RD_assign rfl) rfl ?_
          refine SR_nil ?_
          refine SN.le (l := [(0, _), (4, _), (5, _), (7, _), (8, _), (29, _), (30, _), (31, _)]) ?_ (.cons rfl (.cons rfl (.cons rfl (.cons rfl (.cons rfl (.cons rfl (.cons rfl (.cons rfl (.nil)))))))))
          refine SN_seq ?_
          refine SC_seq ?_
          refine SC_drawn (.cons 0 true (.cons 1 true (.cons 2 true (.cons 3 true (.cons 4 true (.cons 5 true (.cons 6 true (.cons 7 true (.cons 8 true (.cons 9 true (.cons 11 true (.cons 12 true (.cons 13 true (.cons 14 true (.cons 15 true (.cons 16 true (.cons 17 true (.cons 18 true (.cons 19 true (.cons 10 false (.cons 20 false (.cons 21 false (.cons 22 true (.cons 23 true (.nil))))))))))))))))))))))))) (by kernel_rfl) (by kernel_rfl) ?_
          refine SQ_pu rfl (RD_move rfl) rfl ?_
          refine SQ_pu rfl (RD_lss rfl rfl) rfl ?_
          refine SQ_pu rfl (RD_move rfl) rfl ?_
          refine SQ_guard (i := 3) rfl rfl rfl (fun hg6_2 => ?_) (fun hg6_2 => ?_)
          · refine SQ_pyes rfl rfl rfl (hg6_2) (RD_move rfl) rfl ?_
            first
              | refine SQ_pyes rfl rfl rfl (hg6_2) (RD_fieldAddr0 Try.runUnderlying28 rfl rfl Try.sizeOf3 rfl) rfl ?_
              | refine SQ_yes rfl rfl rfl (hg6_2) (RD_fieldAddrO 0 Try.runUnderlying28 rfl rfl Try.sizeOf3 rfl (by simp <;> omega)) Has.ro rfl ?_
            refine SQ_yes rfl rfl rfl (hg6_2) (RD_load Try.isAgg3 rfl) (Has.ce rfl) rfl ?_
            refine SQ_pyes rfl rfl rfl (hg6_2) (RD_geq rfl rfl) rfl ?_
            refine SQ_pu rfl (RD_pick_f rfl (hg6_2) rfl) rfl ?_
            refine SQ_pu rfl (RD_move rfl) rfl ?_
            refine SQ_guard (i := 9) rfl rfl rfl (fun hg6_8 => ?_) (fun hg6_8 => ?_)
            · refine SQ_pyes rfl rfl rfl (hg6_8) (RD_move rfl) rfl ?_
              first
                | refine SQ_pyes rfl rfl rfl (hg6_8) (RD_fieldAddr 1 Try.runUnderlying28 rfl rfl Try.sizeOf24 rfl) rfl ?_
                | refine SQ_yes rfl rfl rfl (hg6_8) (RD_fieldAddrO 1 Try.runUnderlying28 rfl rfl Try.sizeOf24 rfl (by simp <;> omega)) Has.ro rfl ?_
              refine SQ_yes rfl rfl rfl (hg6_8) (RD_load Try.isAgg24 rfl) (Has.ce rfl) rfl ?_
              refine SQ_pyes rfl rfl rfl (hg6_8) (RD_move rfl) rfl ?_
              refine SQ_yes rfl rfl rfl (hg6_8) (RD_ixO (cs := t.by_.l.map intV) Try.runUnderlying24 Try.sizeOf3 rfl rfl (by simpa using hn) (by omega) (by omega)) Has.ro rfl ?_
              refine SQ_yes rfl rfl rfl (hg6_8) (RD_loadO (v := intV y) (cs := t.by_.l.map intV) Try.isAgg3 rfl (by simp [hy])) Has.ro rfl ?_
              refine SQ_pyes rfl rfl rfl (hg6_8) (RD_move rfl) rfl ?_
              first
                | refine SQ_pyes rfl rfl rfl (hg6_8) (RD_fieldAddr0 Try.runUnderlying28 rfl rfl Try.sizeOf3 rfl) rfl ?_
                | refine SQ_yes rfl rfl rfl (hg6_8) (RD_fieldAddrO 0 Try.runUnderlying28 rfl rfl Try.sizeOf3 rfl (by simp <;> omega)) Has.ro rfl ?_
              refine SQ_yes rfl rfl rfl (hg6_8) (RD_load Try.isAgg3 rfl) (Has.ce rfl) rfl ?_
              refine SQ_pyes rfl rfl rfl (hg6_8) (RD_move rfl) rfl ?_
              refine SQ_one (SA_call rfl (.mk rfl rfl (hg6_8)) Try.call22 (.cons rfl (.nil)) (CallsK.at (w_Signs k ⟨l, s.S⟩)) (lts rfl) ?_)
              rintro _ L1 ⟨rfl, hL1⟩
              refine ⟨.lands hL1 (.h (Has.ce rfl) (.h Has.ro (.h Has.ro (.h (Has.ce rfl) (.h (Has.ce rfl) (.nil)))))), ?_⟩
              try dsimp only at hL1
              refine SQ.lands hL1 ?_
              refine SQ_one (SA_call rfl (.mk rfl rfl (hg6_8)) Try.call17 (.cons rfl (.cons rfl (.cons rfl (.nil)))) (CallsK.at (cert_Out k ⟨l, s.S⟩ t.view x (by dsimp only; omega) _ _ rfl rfl)) (lts rfl) ?_)
              rintro _ L2 ⟨rfl, hL2⟩
              refine ⟨.lands hL2 (.w rfl (.h Has.ro (.h Has.ro (.h (Has.ce rfl) (.h (Has.ce rfl) (.nil)))))), ?_⟩
              try dsimp only at hL2
              refine SQ.lands hL2 ?_
              refine SQ_one (SA_call rfl (.mk rfl rfl (hg6_8)) Try.call46 (.cons rfl (.cons rfl (.cons rfl (.nil)))) (CallsK.at (w_Has k _ y _)) (lts rfl) ?_)
              rintro _ L3 ⟨rfl, hL3⟩
              refine ⟨.lands hL3 (.h (Has.ce rfl) (.w rfl (.h Has.ro (.h (Has.ce rfl) (.h (Has.ce rfl) (.nil)))))), ?_⟩
              try dsimp only at hL3
              refine SQ.lands hL3 ?_
              refine SQ_pyes rfl rfl rfl (hg6_8) (RD_not rfl) rfl ?_
              refine SQ_pu rfl (RD_pick_f rfl (hg6_8) rfl) rfl ?_
              refine SQ_nil ?_
              refine SN.le (l := [(0, _), (4, _), (5, _), (29, _), (30, _), (31, _), (59, _)]) ?_ (.cons rfl (.cons rfl (.cons rfl (.cons rfl (.cons rfl (.cons rfl (.cons rfl (.nil))))))))
              refine SN_seq ?_
              refine SC_cond rfl (fun hc59 => ?_) (fun hc59 => ?_)
              · refine SC_seq ?_
                refine SC_region ?_
                refine SR_pu (RD_assign rfl) rfl ?_
                refine SR_nil ?_
                refine SN.le (l := [(6, _)]) ?_ (.cons rfl (.nil))
                refine SN_seq ?_
                refine SC_ret1 rfl rfl ?_
                have he : Ext s.l (dput l (outB t.view x)) := hi2.trans (Ext.put _ _)
                have hA : ¬ c.tcA (dput l (outB t.view x)) s.S t.view t.by_.l t.highs.l t.high.view := fun h => by
                  have := h.2.2.2.1 i hin
                  unfold tOk at this
                  rw [hxd, hyd] at this
                  simp at hc59
                  exact hc59 this.2.2
                have hlen := dput_len l (outB t.view x)
                exact ⟨_, he, by omega, fun h => absurd h hA, by unfold CfgD.tcOk; rw [decide_eq_false hA]; rfl, .fin⟩
              · refine SC_skip ?_
                refine SN_block ?_
                refine SN_seq ?_
                refine SC_region ?_
                refine SR_pu (RD_addi rfl rfl (by omega) (by omega)) rfl ?_
                refine SR_pu (RD_move rfl) rfl ?_
                refine SR_nil ?_
                refine SN.le (l := [(0, _), (4, _), (5, _), (29, _), (30, _), (31, _)]) ?_ (.cons rfl (.cons rfl (.cons rfl (.cons rfl (.cons rfl (.cons rfl (.nil)))))))
                have hstep : tOk s.l s.S t.view t.by_.l t.highs.l i := by
                  rw [← tOk_ext hI (hi2.trans (Ext.put l (outB t.view x)))]
                  unfold tOk
                  rw [hxd, hyd]
                  simp at hg6_2 hg6_8 hc59
                  exact ⟨by omega, by omega, hc59⟩
                have hlen := dput_len l (outB t.view x)
                refine SC_again (ih ((i + 1, dput l (outB t.view x))) (⟨by dsimp only; omega, hi2.trans (Ext.put l (outB t.view x)), by dsimp only; omega, fun j hj => by
                  rcases Nat.lt_succ_iff_lt_or_eq.1 hj with h | h
                  · exact hi4 j h
                  · subst h; exact hstep⟩) (by dsimp only; omega)) (.fin) (.cons rfl (.cons rfl (.cons rfl (.cons rfl (.cons rfl (.cons' rfl (ie (by dsimp only; omega)) (.nil)))))))
            · refine SQ_no rfl rfl rfl (hg6_8) (lts rfl) ?_
              refine SQ_no rfl rfl rfl (hg6_8) (lts rfl) ?_
              refine SQ_no rfl rfl rfl (hg6_8) (lts rfl) ?_
              refine SQ_no rfl rfl rfl (hg6_8) (lts rfl) ?_
              refine SQ_no rfl rfl rfl (hg6_8) (lts rfl) ?_
              refine SQ_no rfl rfl rfl (hg6_8) (lts rfl) ?_
              refine SQ_no rfl rfl rfl (hg6_8) (lts rfl) ?_
              refine SQ_no rfl rfl rfl (hg6_8) (lts rfl) ?_
              refine SQ_no rfl rfl rfl (hg6_8) (lts rfl) ?_
              refine SQ_no rfl rfl rfl (hg6_8) (lts rfl) ?_
              refine SQ_no1 rfl rfl rfl (hg6_8) (lts rfl) ?_
              refine SQ_no1 rfl rfl rfl (hg6_8) (lts rfl) ?_
              refine SQ_no1 rfl rfl rfl (hg6_8) (lts rfl) ?_
              refine SQ_no rfl rfl rfl (hg6_8) (lts rfl) ?_
              refine SQ_pu rfl (RD_pick_t rfl (hg6_8) rfl) rfl ?_
              refine SQ_nil ?_
              refine SN.le (l := [(0, _), (4, _), (5, _), (29, _), (30, _), (31, _), (59, _)]) ?_ (.cons rfl (.cons rfl (.cons rfl (.cons rfl (.cons rfl (.cons rfl (.cons rfl (.nil))))))))
              refine SN_seq ?_
              refine SC_cond_true rfl (rfl) ?_
              refine SC_seq ?_
              refine SC_region ?_
              refine SR_pu (RD_assign rfl) rfl ?_
              refine SR_nil ?_
              refine SN.le (l := [(6, _)]) ?_ (.cons rfl (.nil))
              refine SN_seq ?_
              refine SC_ret1 rfl rfl ?_
              have hA : ∀ l, ¬ c.tcA l s.S t.view t.by_.l t.highs.l t.high.view := fun l h => by
                have := h.2.2.2.1 i hin
                unfold tOk at this
                rw [hxd] at this
                simp at hg6_8
                omega
              exact ⟨l, hi2, by omega, fun h => absurd h (hA _), by unfold CfgD.tcOk; rw [decide_eq_false (hA _)]; rfl, .fin⟩
          · refine SQ_no rfl rfl rfl (hg6_2) (lts rfl) ?_
            refine SQ_no rfl rfl rfl (hg6_2) (lts rfl) ?_
            refine SQ_no rfl rfl rfl (hg6_2) (lts rfl) ?_
            refine SQ_no rfl rfl rfl (hg6_2) (lts rfl) ?_
            refine SQ_pu rfl (RD_pick_t rfl (hg6_2) rfl) rfl ?_
            refine SQ_pu rfl (RD_move rfl) rfl ?_
            refine SQ_no rfl rfl rfl (rfl) (lts rfl) ?_
            refine SQ_no rfl rfl rfl (rfl) (lts rfl) ?_
            refine SQ_no rfl rfl rfl (rfl) (lts rfl) ?_
            refine SQ_no rfl rfl rfl (rfl) (lts rfl) ?_
            refine SQ_no rfl rfl rfl (rfl) (lts rfl) ?_
            refine SQ_no rfl rfl rfl (rfl) (lts rfl) ?_
            refine SQ_no rfl rfl rfl (rfl) (lts rfl) ?_
            refine SQ_no rfl rfl rfl (rfl) (lts rfl) ?_
            refine SQ_no rfl rfl rfl (rfl) (lts rfl) ?_
            refine SQ_no rfl rfl rfl (rfl) (lts rfl) ?_
            refine SQ_no1 rfl rfl rfl (rfl) (lts rfl) ?_
            refine SQ_no1 rfl rfl rfl (rfl) (lts rfl) ?_
            refine SQ_no1 rfl rfl rfl (rfl) (lts rfl) ?_
            refine SQ_no rfl rfl rfl (rfl) (lts rfl) ?_
            refine SQ_pu rfl (RD_pick_t rfl (rfl) rfl) rfl ?_
            refine SQ_nil ?_
            refine SN.le (l := [(0, _), (4, _), (5, _), (29, _), (30, _), (31, _), (59, _)]) ?_ (.cons rfl (.cons rfl (.cons rfl (.cons rfl (.cons rfl (.cons rfl (.cons rfl (.nil))))))))
            refine SN_seq ?_
            refine SC_cond_true rfl (rfl) ?_
            refine SC_seq ?_
            refine SC_region ?_
            refine SR_pu (RD_assign rfl) rfl ?_
            refine SR_nil ?_
            refine SN.le (l := [(6, _)]) ?_ (.cons rfl (.nil))
            refine SN_seq ?_
            refine SC_ret1 rfl rfl ?_
            have hA : ∀ l, ¬ c.tcA l s.S t.view t.by_.l t.highs.l t.high.view := fun l h => by
              have := h.2.2.2.1 i hin
              unfold tOk at this
              rw [hxd] at this
              simp at hg6_2
              omega
            exact ⟨l, hi2, by omega, fun h => absurd h (hA _), by unfold CfgD.tcOk; rw [decide_eq_false (hA _)]; rfl, .fin⟩
        · have hin : i = t.highs.l.length := by simp at hc32; omega
          have hall : ∀ j, j < t.highs.l.length → tOk s.l s.S t.view t.by_.l t.highs.l j := fun j hj => hi4 j (by omega)
          have hpos : 0 < t.highs.l.length := by
            have h1 := hmy
            unfold CfgD.many CfgD.fits at h1
            simp at h1
            omega
          refine SC_exit rfl ?_
          refine SN_seq ?_
          refine SC_seq ?_
          refine SC_drawn (.cons 0 true (.cons 1 true (.cons 3 true (.cons 4 true (.cons 5 true (.cons 2 false (.cons 6 true (.cons 7 true (.cons 8 true (.cons 9 true (.cons 10 true (.cons 11 true (.cons 12 false (.cons 13 true (.cons 14 true (.nil)))))))))))))))) (by kernel_rfl) (by kernel_rfl) ?_
          first
            | refine SQ_pu rfl (RD_fieldAddr 2 Try.runUnderlying28 rfl rfl Try.sizeOf24 rfl) rfl ?_
            | refine SQ_rd rfl (RD_fieldAddrO 2 Try.runUnderlying28 rfl rfl Try.sizeOf24 rfl (by simp <;> omega)) Has.ro rfl ?_
          refine SQ_rd rfl (RD_load Try.isAgg24 rfl) (Has.ce rfl) rfl ?_
          first
            | refine SQ_pu rfl (RD_fieldAddr 3 Try.runUnderlying28 rfl rfl Try.sizeOf26 rfl) rfl ?_
            | refine SQ_rd rfl (RD_fieldAddrO 3 Try.runUnderlying28 rfl rfl Try.sizeOf26 rfl (by simp <;> omega)) Has.ro rfl ?_
          first
            | refine SQ_pu rfl (RD_fieldAddr0 Try.runUnderlying26 rfl rfl Try.sizeOf3 rfl) rfl ?_
            | refine SQ_rd rfl (RD_fieldAddrO 0 Try.runUnderlying26 rfl rfl Try.sizeOf3 rfl (by simp <;> omega)) Has.ro rfl ?_
          refine SQ_rd rfl (RD_load Try.isAgg3 rfl) (Has.ce rfl) rfl ?_
          refine SQ_call rfl Try.call49 (.cons rfl (.nil)) (ints_Max t.highs.a t.highs.n t.highs.c t.highs.l rfl hm (by omega) hpos) (lts rfl) ?_
          rintro _ L5 ⟨rfl, hL5⟩
          refine ⟨.lands hL5 (.h (Has.ce rfl) (.w rfl (.nil))), ?_⟩
          refine SQ.lands hL5 ?_
          refine SQ_pu rfl (RD_eql rfl rfl) rfl ?_
          refine SQ_pu rfl (RD_move rfl) rfl ?_
          refine SQ_guard (i := 8) rfl rfl rfl (fun hg9_7 => ?_) (fun hg9_7 => ?_)
          · refine SQ_pyes rfl rfl rfl (hg9_7) (RD_move rfl) rfl ?_
            refine SQ_yes rfl rfl rfl (hg9_7) (RD_loadA Try.isAgg23 Try.sizeOf23 rfl rfl) Has.wh rfl ?_
            first
              | refine SQ_pyes rfl rfl rfl (hg9_7) (RD_fieldAddr 3 Try.runUnderlying28 rfl rfl Try.sizeOf26 rfl) rfl ?_
              | refine SQ_yes rfl rfl rfl (hg9_7) (RD_fieldAddrO 3 Try.runUnderlying28 rfl rfl Try.sizeOf26 rfl (by simp <;> omega)) Has.ro rfl ?_
            refine SQ_yes rfl rfl rfl (hg9_7) (RD_loadA (vs := t.high.cells) Try.isAgg26 Try.sizeOf26 rfl rfl) (Has.ces (cs := t.cells) fun j v h => by rcases j with _ | _ | _ | j <;> simp [QcD.cells, TcD.cells] at h ⊢ <;> exact h) rfl ?_
            refine SQ_one (SA_call rfl (.mk rfl rfl (hg9_7)) Try.call8 (.cons rfl (.cons rfl (.cons rfl (.nil)))) (CallsK.at (cert_QcOk k ⟨l, s.S⟩ c t.high rfl hh (by omega) (by dsimp only; omega) hw)) (lts rfl) ?_)
            rintro _ L6 ⟨rfl, hL6⟩
            refine ⟨.lands hL6 (.w rfl (.w rfl (.h (Has.ce rfl) (.h (Has.ce rfl) (.nil))))), ?_⟩
            try dsimp only at hL6
            refine SQ.lands hL6 ?_
            refine SQ_pu rfl (RD_pick_t rfl (hg9_7) rfl) rfl ?_
            refine SQ_pu rfl (RD_assign rfl) rfl ?_
            refine SQ_nil ?_
            refine SN.le (l := [(6, _)]) ?_ (.cons rfl (.nil))
            refine SN_seq ?_
            refine SC_ret1 rfl rfl ?_
            obtain ⟨l2, hl2⟩ : ∃ l2, c.qcL l t.high.view t.high.block = l2 := ⟨_, rfl⟩
            have he : Ext l l2 := hl2 ▸ c.qcL_ext l _ _
            have hlen : l2.length ≤ l.length + 1 := hl2 ▸ c.qcL_len l _ _
            have hA : c.tcA l2 s.S t.view t.by_.l t.highs.l t.high.view := ⟨hvy, hmy, hle, fun j hj => (tOk_ext hI (hi2.trans he)).2 (hall j hj), by simpa using hg9_7⟩
            refine ⟨l2, hi2.trans he, by omega, fun _ h0 hf => ?_, ?_, ?_⟩
            · rw [← hl2]; unfold CfgD.qcL; rw [if_pos (by omega), h0, hf]; exact dput_mem _ _
            · unfold CfgD.tcOk; rw [decide_eq_true hA, ← hl2]; rfl
            · rw [← hl2]; exact .fin
          · refine SQ_no rfl rfl rfl (hg9_7) (lts rfl) ?_
            refine SQ_no rfl rfl rfl (hg9_7) (lts rfl) ?_
            refine SQ_no rfl rfl rfl (hg9_7) (lts rfl) ?_
            refine SQ_no rfl rfl rfl (hg9_7) (lts rfl) ?_
            refine SQ_no1 rfl rfl rfl (hg9_7) (lts rfl) ?_
            refine SQ_pu rfl (RD_pick_f rfl (hg9_7) rfl) rfl ?_
            refine SQ_pu rfl (RD_assign rfl) rfl ?_
            refine SQ_nil ?_
            refine SN.le (l := [(6, _)]) ?_ (.cons rfl (.nil))
            refine SN_seq ?_
            refine SC_ret1 rfl rfl ?_
            have hA : ∀ l, ¬ c.tcA l s.S t.view t.by_.l t.highs.l t.high.view := fun l h => by
              have := h.2.2.2.2
              simp at hg9_7
              exact hg9_7 this
            exact ⟨l, hi2, by omega, fun h => absurd h (hA _), by unfold CfgD.tcOk; rw [decide_eq_false (hA _)]; rfl, .fin⟩
    · refine SR_no rfl rfl (hg1_10) (lts rfl) ?_
      refine SR_no rfl rfl (hg1_10) (lts rfl) ?_
      refine SR_no rfl rfl (hg1_10) (lts rfl) ?_
      refine SR_no rfl rfl (hg1_10) (lts rfl) ?_
      refine SR_no rfl rfl (hg1_10) (lts rfl) ?_
      refine SR_no rfl rfl (hg1_10) (lts rfl) ?_
      refine SR_no rfl rfl (hg1_10) (lts rfl) ?_
      refine SR_pu (RD_pick_t rfl (hg1_10) rfl) rfl ?_
      refine SR_nil ?_
      refine SN.le (l := [(0, _), (4, _), (5, _), (27, _)]) ?_ (.cons rfl (.cons rfl (.cons rfl (.cons rfl (.nil)))))
      refine SN_seq ?_
      refine SC_cond_true rfl (rfl) ?_
      refine SC_seq ?_
      refine SC_region ?_
      refine SR_pu (RD_assign rfl) rfl ?_
      refine SR_nil ?_
      refine SN.le (l := [(6, _)]) ?_ (.cons rfl (.nil))
      refine SN_seq ?_
      refine SC_ret1 rfl rfl ?_
      have hA : ∀ l, ¬ c.tcA l s.S t.view t.by_.l t.highs.l t.high.view := fun l h => by
        have := h.2.1
        simp at hg1_10
        rw [hg1_10] at this
        cases this
      exact ⟨s.l, Ext.same, by omega, fun h => absurd h (hA _), by unfold CfgD.tcOk; rw [decide_eq_false (hA _)]; rfl, .fin⟩
  · refine SR_no rfl rfl (hg1_3) (lts rfl) ?_
    refine SR_no rfl rfl (hg1_3) (lts rfl) ?_
    refine SR_no rfl rfl (hg1_3) (lts rfl) ?_
    refine SR_no rfl rfl (hg1_3) (lts rfl) ?_
    refine SR_no rfl rfl (hg1_3) (lts rfl) ?_
    refine SR_pu (RD_pick_t rfl (hg1_3) rfl) rfl ?_
    refine SR_pu (RD_move rfl) rfl ?_
    refine SR_no rfl rfl (rfl) (lts rfl) ?_
    refine SR_no rfl rfl (rfl) (lts rfl) ?_
    refine SR_no rfl rfl (rfl) (lts rfl) ?_
    refine SR_no rfl rfl (rfl) (lts rfl) ?_
    refine SR_no rfl rfl (rfl) (lts rfl) ?_
    refine SR_no rfl rfl (rfl) (lts rfl) ?_
    refine SR_no rfl rfl (rfl) (lts rfl) ?_
    refine SR_pu (RD_pick_t rfl (rfl) rfl) rfl ?_
    refine SR_nil ?_
    refine SN.le (l := [(0, _), (4, _), (5, _), (27, _)]) ?_ (.cons rfl (.cons rfl (.cons rfl (.cons rfl (.nil)))))
    refine SN_seq ?_
    refine SC_cond_true rfl (rfl) ?_
    refine SC_seq ?_
    refine SC_region ?_
    refine SR_pu (RD_assign rfl) rfl ?_
    refine SR_nil ?_
    refine SN.le (l := [(6, _)]) ?_ (.cons rfl (.nil))
    refine SN_seq ?_
    refine SC_ret1 rfl rfl ?_
    have hA : ∀ l, ¬ c.tcA l s.S t.view t.by_.l t.highs.l t.high.view := fun l h => by
      have := h.1
      simp at hg1_3
      omega
    exact ⟨s.l, Ext.same, by omega, fun h => absurd h (hA _), by unfold CfgD.tcOk; rw [decide_eq_false (hA _)]; rfl, .fin⟩

end Go.Proofs.Ytmigjpmadhebfaa
