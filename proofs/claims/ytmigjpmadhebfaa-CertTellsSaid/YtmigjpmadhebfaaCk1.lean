/- The document's own answer on certificates. -/
import Derived.Test.YtmigjpmadhebfaaCe6
import Derived.Test.YtmigjpmadhebfaaWi2
namespace Go.Proofs.Ytmigjpmadhebfaa
open Go Go.Proofs
set_option maxRecDepth 100000
theorem qcOk_same {c : CfgD} {l l' : List (List UInt8)} {S : List (Int × List Int)} (h : Inv l S) (e : Ext l l') {view block : Int} {by_ : List Int} (hr : c.fits = true → view = 0 → rootB ∈ l) : c.qcOk l' S view block by_ = c.qcOk l S view block by_ := by
  by_cases hv : view < 1
  · unfold CfgD.qcOk
    rw [if_pos hv, if_pos hv]
    by_cases hf : c.fits = true
    · by_cases h0 : view = 0
      · rw [e.num (hr hf h0)]
      · rw [decide_eq_false h0]; simp
    · rw [show c.fits = false by simpa using hf]; rfl
  · exact qcOk_ext h e (by omega)
theorem qcL_root {c : CfgD} {l : List (List UInt8)} {view block : Int} (hf : c.fits = true) (hv : view = 0) : rootB ∈ c.qcL l view block := by
  unfold CfgD.qcL
  rw [if_pos (by omega), if_pos (by simp [hf, hv])]
  exact dput_mem _ _
theorem tcOk_same {c : CfgD} {l l' : List (List UInt8)} {S : List (Int × List Int)} (h : Inv l S) (e : Ext l l') {t : TcD} (hr : c.tcA l S t.view t.by_.l t.highs.l t.high.view → t.high.view = 0 → c.fits = true → rootB ∈ l) : c.tcOk l' S t = c.tcOk l S t := by
  unfold CfgD.tcOk
  rw [decide_eq_decide.2 (tcA_ext h e)]
  by_cases ht : c.tcA l S t.view t.by_.l t.highs.l t.high.view
  · rw [qcOk_same h e fun hf hv => hr ht hv hf]
  · rw [decide_eq_false ht]; rfl
theorem qcOk_nofits {c : CfgD} {l : List (List UInt8)} {S : List (Int × List Int)} {view block : Int} {by_ : List Int} (h : c.fits = false) : c.qcOk l S view block by_ = false := by
  unfold CfgD.qcOk CfgD.many
  rw [h]
  split <;> simp
theorem fits_f {c : CfgD} (h : c.fits = true) : 0 ≤ c.f ∧ 0 < c.n ∧ c.n % 3 = 1 ∧ c.n / 3 = c.f := by unfold CfgD.fits at h; simpa using h
theorem many_iff {c : CfgD} (hf : c.fits = true) (by_ : List Int) : c.many by_ = (decide (rises c.n by_) && decide (2 * c.f + 1 ≤ (by_.length : Int))) := by
  have := fits_f hf
  unfold CfgD.many
  rw [hf, Bool.true_and]
  congr 1
  exact decide_eq_decide.2 (by omega)

theorem ref_Int3 {W : World} {F : List HProp} [Abs F] (x : Int) :
    CallsK W Try.prog 51 #[.int .i64 x] (F) (fun v L => ∃ a c, v = .slice a 8 c ∧ Lands L (rowP 5 1 a 8 c ((bei x).map byteV) :: F)) := by
  refine CallsK_enter (n := 6) Try.func51 rfl rfl rfl ?_
  refine SC_seq ?_
  refine SC_region ?_
  refine SR_pu (RD_assign rfl) rfl ?_
  refine SR_nil ?_
  refine SN.le (l := [(0, _)]) ?_ (.cons rfl (.nil))
  refine SN_seq ?_
  refine SC_seq ?_
  refine SC_region ?_
  refine SR_pu (RD_move rfl) rfl ?_
  refine SR_pu (RD_convI Try.runUnderlying3 Try.runUnderlying49 rfl) rfl ?_
  refine SR_call Try.call52 (.cons rfl (.nil)) (ref_Num (IntKind.u64.wrap x) (by rw [IntKind.wrap_u64]; omega)) (lts rfl) ?_
  rintro _ L1 ⟨na, nc, rfl, hL1⟩
  rw [bei_wrap] at hL1
  refine SR.lands hL1 ?_
  refine SR_pu (RD_assign rfl) rfl ?_
  refine SR_nil ?_
  refine SN.le (l := [(2, _)]) ?_ (.cons rfl (.nil))
  refine SN_seq ?_
  refine SC_ret1 rfl rfl ?_
  exact ⟨na, nc, rfl, .fin⟩

theorem law15_Vote {W : World} {F : List HProp} [Abs F] (x y : Int) :
    CallsK W Try.prog 16 #[.int .i64 x, .int .i64 y] (F) (fun v L => ∃ a c, v = .slice a (voteB x y).length c ∧ Lands L (rowP 5 1 a (voteB x y).length c ((voteB x y).map byteV) :: F)) := by
  refine CallsK_enter (n := 14) Try.func16 rfl rfl rfl ?_
  refine SC_seq ?_
  refine SC_region ?_
  refine SR_pu (RD_assign rfl) rfl ?_
  refine SR_nil ?_
  refine SN.le (l := [(0, _), (1, _)]) ?_ (.cons rfl (.cons rfl (.nil)))
  refine SN_seq ?_
  refine SC_seq ?_
  refine SC_region ?_
  refine SR_ox (OX_lit1 Try.underlying39 Try.type5 rfl rfl rfl rfl (.cons rfl (.cons rfl (.cons rfl (.cons rfl (.nil))))) (.cons rfl (.cons rfl (.cons rfl (.cons rfl (.nil)))))) rfl ?_
  rintro _ _ ⟨b5, rfl, rfl⟩
  refine SR_ox (OX_mark Try.underlying39 Try.underlying5 rfl) rfl ?_
  rintro _ _ ⟨fz6, rfl, rfl⟩
  refine SR_call Try.call20 (.cons rfl (.nil)) (ref_Text (some ⟨b5, 0, none⟩) 4 4 [118, 111, 116, 101] (cs := [.int .u8 118, .int .u8 111, .int .u8 116, .int .u8 101]) rfl rfl (by omega)) (lts rfl) ?_
  rintro _ L1 ⟨ta, tc, rfl, hL1⟩
  refine SR.lands hL1 ?_
  refine SR_pu (RD_move rfl) rfl ?_
  refine SR_call Try.call51 (.cons rfl (.nil)) (ref_Int3 x) (lts rfl) ?_
  rintro _ L2 ⟨na2, nc2, rfl, hL2⟩
  refine SR.lands hL2 ?_
  refine SR_ox (OX_app 1 Try.underlying39 Try.underlying39 Try.type5 rfl rfl rfl rfl rfl (by first | rfl | simp; done | (simp; omega)) 1 rfl (by omega) (by omega)) rfl ?_
  rintro _ _ ⟨a10, c10, rfl, rfl⟩
  refine SR_pu (RD_move rfl) rfl ?_
  refine SR_call Try.call51 (.cons rfl (.nil)) (ref_Int3 y) (lts rfl) ?_
  rintro _ L3 ⟨na3, nc3, rfl, hL3⟩
  refine SR.lands hL3 ?_
  refine SR_ox (OX_app 1 Try.underlying39 Try.underlying39 Try.type5 rfl rfl rfl rfl rfl (by first | rfl | simp; done | (simp; omega)) 1 rfl (by omega) (by omega)) rfl ?_
  rintro _ _ ⟨a13, c13, rfl, rfl⟩
  refine SR_pu (RD_assign rfl) rfl ?_
  refine SR_nil ?_
  refine SN.le (l := [(4, _)]) ?_ (.cons rfl (.nil))
  refine SN_seq ?_
  refine SC_ret1 rfl rfl ?_
  have hlen : (voteB x y).length = 8 + 4 + 8 + 8 := by unfold voteB; rw [tagB_len]; rfl
  have hcs : (voteB x y).map byteV = (bei ((4 : Nat) : Int) ++ [118, 111, 116, 101]).map byteV ++ (bei x).map byteV ++ (bei y).map byteV := by simp [voteB, tagB]
  rw [hlen, hcs]
  exact ⟨_, _, rfl, .fin⟩

theorem law15_Out {W : World} {F : List HProp} [Abs F] (x y : Int) :
    CallsK W Try.prog 18 #[.int .i64 x, .int .i64 y] (F) (fun v L => ∃ a c, v = .slice a (outB x y).length c ∧ Lands L (rowP 5 1 a (outB x y).length c ((outB x y).map byteV) :: F)) := by
  refine CallsK_enter (n := 14) Try.func18 rfl rfl rfl ?_
  refine SC_seq ?_
  refine SC_region ?_
  refine SR_pu (RD_assign rfl) rfl ?_
  refine SR_nil ?_
  refine SN.le (l := [(0, _), (1, _)]) ?_ (.cons rfl (.cons rfl (.nil)))
  refine SN_seq ?_
  refine SC_seq ?_
  refine SC_region ?_
  refine SR_ox (OX_lit1 Try.underlying39 Try.type5 rfl rfl rfl rfl (.cons rfl (.cons rfl (.cons rfl (.nil)))) (.cons rfl (.cons rfl (.cons rfl (.nil))))) rfl ?_
  rintro _ _ ⟨b5, rfl, rfl⟩
  refine SR_ox (OX_mark Try.underlying39 Try.underlying5 rfl) rfl ?_
  rintro _ _ ⟨fz6, rfl, rfl⟩
  refine SR_call Try.call20 (.cons rfl (.nil)) (ref_Text (some ⟨b5, 0, none⟩) 3 3 [111, 117, 116] (cs := [.int .u8 111, .int .u8 117, .int .u8 116]) rfl rfl (by omega)) (lts rfl) ?_
  rintro _ L1 ⟨ta, tc, rfl, hL1⟩
  refine SR.lands hL1 ?_
  refine SR_pu (RD_move rfl) rfl ?_
  refine SR_call Try.call51 (.cons rfl (.nil)) (ref_Int3 x) (lts rfl) ?_
  rintro _ L2 ⟨na2, nc2, rfl, hL2⟩
  refine SR.lands hL2 ?_
  refine SR_ox (OX_app 1 Try.underlying39 Try.underlying39 Try.type5 rfl rfl rfl rfl rfl (by first | rfl | simp; done | (simp; omega)) 1 rfl (by omega) (by omega)) rfl ?_
  rintro _ _ ⟨a10, c10, rfl, rfl⟩
  refine SR_pu (RD_move rfl) rfl ?_
  refine SR_call Try.call51 (.cons rfl (.nil)) (ref_Int3 y) (lts rfl) ?_
  rintro _ L3 ⟨na3, nc3, rfl, hL3⟩
  refine SR.lands hL3 ?_
  refine SR_ox (OX_app 1 Try.underlying39 Try.underlying39 Try.type5 rfl rfl rfl rfl rfl (by first | rfl | simp; done | (simp; omega)) 1 rfl (by omega) (by omega)) rfl ?_
  rintro _ _ ⟨a13, c13, rfl, rfl⟩
  refine SR_pu (RD_assign rfl) rfl ?_
  refine SR_nil ?_
  refine SN.le (l := [(4, _)]) ?_ (.cons rfl (.nil))
  refine SN_seq ?_
  refine SC_ret1 rfl rfl ?_
  have hlen : (outB x y).length = 8 + 3 + 8 + 8 := by unfold outB; rw [tagB_len]; rfl
  have hcs : (outB x y).map byteV = (bei ((3 : Nat) : Int) ++ [111, 117, 116]).map byteV ++ (bei x).map byteV ++ (bei y).map byteV := by simp [outB, tagB]
  rw [hlen, hcs]
  exact ⟨_, _, rfl, .fin⟩

theorem law15_sane {W : World} {F : List HProp} [Abs F] (c : CfgD) (hw : c.n < 9223372036854775808) :
    CallsK W Try.prog 47 #[c.val] (F) (fun v L => v = .bool c.fits ∧ Lands L F) := by
  refine CallsK_enter (n := 22) Try.func47 rfl rfl rfl ?_
  refine SC_seq ?_
  refine SC_region ?_
  refine SR_ox (OX_box rfl rfl) rfl ?_
  rintro _ _ ⟨b1, rfl, rfl⟩
  refine SR_pu (RD_assign rfl) rfl ?_
  refine SR_nil ?_
  refine SN.le (l := [(1, _)]) ?_ (.cons rfl (.nil))
  refine SN_seq ?_
  refine SC_seq ?_
  refine SC_region ?_
  first
    | refine SR_pu (RD_fieldAddr 1 Try.runUnderlying23 rfl rfl Try.sizeOf3 rfl) rfl ?_
    | refine SR_rd (RD_fieldAddrO 1 Try.runUnderlying23 rfl rfl Try.sizeOf3 rfl (by simp <;> omega)) Has.ro rfl ?_
  refine SR_rd (RD_load Try.isAgg3 rfl) (Has.ce rfl) rfl ?_
  refine SR_pu (RD_geq rfl rfl) rfl ?_
  refine SR_pu (RD_move rfl) rfl ?_
  refine SR_guard rfl rfl (fun hg1_3 => ?_) (fun hg1_3 => ?_)
  · have hn1 := of_decide_eq_true hg1_3
    refine SR_yes rfl rfl (hg1_3) ?_
    first
      | refine SR_pu (RD_fieldAddr 1 Try.runUnderlying23 rfl rfl Try.sizeOf3 rfl) rfl ?_
      | refine SR_rd (RD_fieldAddrO 1 Try.runUnderlying23 rfl rfl Try.sizeOf3 rfl (by simp <;> omega)) Has.ro rfl ?_
    refine SR_yes rfl rfl (hg1_3) ?_
    refine SR_rd (RD_load Try.isAgg3 rfl) (Has.ce rfl) rfl ?_
    refine SR_yes rfl rfl (hg1_3) ?_
    refine SR_pu (RD_subi rfl rfl (by omega) (by omega)) rfl ?_
    refine SR_yes rfl rfl (hg1_3) ?_
    refine SR_pu (RD_remi rfl rfl (by omega) (by omega)) rfl ?_
    refine SR_yes rfl rfl (hg1_3) ?_
    refine SR_pu (RD_eql rfl rfl) rfl ?_
    refine SR_pu (RD_pick_t rfl (hg1_3) rfl) rfl ?_
    refine SR_pu (RD_move rfl) rfl ?_
    refine SR_guard rfl rfl (fun hg1_10 => ?_) (fun hg1_10 => ?_)
    · refine SR_yes rfl rfl (hg1_10) ?_
      first
        | refine SR_pu (RD_fieldAddr0 Try.runUnderlying23 rfl rfl Try.sizeOf3 rfl) rfl ?_
        | refine SR_rd (RD_fieldAddrO 0 Try.runUnderlying23 rfl rfl Try.sizeOf3 rfl (by simp <;> omega)) Has.ro rfl ?_
      refine SR_yes rfl rfl (hg1_10) ?_
      refine SR_rd (RD_load Try.isAgg3 rfl) (Has.ce rfl) rfl ?_
      refine SR_yes rfl rfl (hg1_10) ?_
      first
        | refine SR_pu (RD_fieldAddr 1 Try.runUnderlying23 rfl rfl Try.sizeOf3 rfl) rfl ?_
        | refine SR_rd (RD_fieldAddrO 1 Try.runUnderlying23 rfl rfl Try.sizeOf3 rfl (by simp <;> omega)) Has.ro rfl ?_
      refine SR_yes rfl rfl (hg1_10) ?_
      refine SR_rd (RD_load Try.isAgg3 rfl) (Has.ce rfl) rfl ?_
      refine SR_yes rfl rfl (hg1_10) ?_
      refine SR_pu (RD_subi rfl rfl (by omega) (by omega)) rfl ?_
      refine SR_yes rfl rfl (hg1_10) ?_
      refine SR_pu (RD_quo rfl rfl (by omega)) rfl ?_
      refine SR_yes rfl rfl (hg1_10) ?_
      refine SR_pu (RD_eql rfl rfl) rfl ?_
      refine SR_pu (RD_pick_t rfl (hg1_10) rfl) rfl ?_
      refine SR_pu (RD_assign rfl) rfl ?_
      refine SR_nil ?_
      refine SN.le (l := [(2, _)]) ?_ (.cons rfl (.nil))
      refine SN_seq ?_
      refine SC_ret1 rfl rfl ?_
      refine ⟨congrArg Value.bool ?_, .fin⟩
      unfold CfgD.fits
      have h2 := of_decide_eq_true hg1_10
      have e : IntKind.i64.wrap ((c.n - 1).tdiv 3) = (c.n - 1) / 3 := by rw [Int.tdiv_eq_ediv_of_nonneg (by omega), IntKind.wrap_i64]; omega
      rw [e]
      exact decide_eq_decide.2 (by omega)
    · refine SR_no rfl rfl (hg1_10) (lts rfl) ?_
      refine SR_no rfl rfl (hg1_10) (lts rfl) ?_
      refine SR_no rfl rfl (hg1_10) (lts rfl) ?_
      refine SR_no rfl rfl (hg1_10) (lts rfl) ?_
      refine SR_no rfl rfl (hg1_10) (lts rfl) ?_
      refine SR_no rfl rfl (hg1_10) (lts rfl) ?_
      refine SR_no rfl rfl (hg1_10) (lts rfl) ?_
      refine SR_pu (RD_pick_f rfl (hg1_10) rfl) rfl ?_
      refine SR_pu (RD_assign rfl) rfl ?_
      refine SR_nil ?_
      refine SN.le (l := [(2, _)]) ?_ (.cons rfl (.nil))
      refine SN_seq ?_
      refine SC_ret1 rfl rfl ?_
      refine ⟨congrArg Value.bool ?_, .fin⟩
      unfold CfgD.fits
      have h2 := of_decide_eq_false hg1_10
      exact (decide_eq_false (by omega)).symm
  · have hn1 := of_decide_eq_false hg1_3
    refine SR_no rfl rfl (hg1_3) (lts rfl) ?_
    refine SR_no rfl rfl (hg1_3) (lts rfl) ?_
    refine SR_no rfl rfl (hg1_3) (lts rfl) ?_
    refine SR_no rfl rfl (hg1_3) (lts rfl) ?_
    refine SR_no rfl rfl (hg1_3) (lts rfl) ?_
    refine SR_pu (RD_pick_f rfl (hg1_3) rfl) rfl ?_
    refine SR_pu (RD_move rfl) rfl ?_
    refine SR_no rfl rfl (rfl) (lts rfl) ?_
    refine SR_no rfl rfl (rfl) (lts rfl) ?_
    refine SR_no rfl rfl (rfl) (lts rfl) ?_
    refine SR_no rfl rfl (rfl) (lts rfl) ?_
    refine SR_no rfl rfl (rfl) (lts rfl) ?_
    refine SR_no rfl rfl (rfl) (lts rfl) ?_
    refine SR_no rfl rfl (rfl) (lts rfl) ?_
    refine SR_pu (RD_pick_f rfl (rfl) rfl) rfl ?_
    refine SR_pu (RD_assign rfl) rfl ?_
    refine SR_nil ?_
    refine SN.le (l := [(2, _)]) ?_ (.cons rfl (.nil))
    refine SN_seq ?_
    refine SC_ret1 rfl rfl ?_
    refine ⟨congrArg Value.bool ?_, .fin⟩
    unfold CfgD.fits
    exact (decide_eq_false (by omega)).symm

theorem law15_rise {W : World} {F : List HProp} [Abs F] (a : Option Addr) (n cc : Nat) (by_ : List Int) [HasRow F a (by_.map intV)] (hn : by_.length = n) (hb : n ≤ 100000000) (m need : Int) :
    CallsK W Try.prog 48 #[.slice a n cc, .int .i64 m, .int .i64 need] (F) (fun v L => v = .bool (decide (rises m by_) && decide (need ≤ (by_.length : Int))) ∧ Lands L F) := by
  refine CallsK_enter (n := 47) Try.func48 rfl rfl rfl ?_
  refine SC_seq ?_
  refine SC_region ?_
  refine SR_pu (RD_assign rfl) rfl ?_
  refine SR_nil ?_
  refine SN.le (l := [(0, _), (1, _), (2, _)]) ?_ (.cons rfl (.cons rfl (.cons rfl (.nil))))
  refine SN_seq ?_
  refine SC_seq ?_
  refine SC_seq ?_
  refine SC_region ?_
  refine SR_pu (RD_assign rfl) rfl ?_
  refine SR_nil ?_
  refine SN.le (l := [(0, _), (1, _), (2, _), (7, _)]) ?_ (.cons rfl (.cons rfl (.cons rfl (.cons rfl (.nil)))))
  refine SN_seq ?_
  refine SC_block ?_
  refine SC_ind (X := Nat) (fun i => i ≤ by_.length ∧ ∀ j, j < i → rOk m by_ j) (fun i => by_.length - i) (fun i => [(0, .slice a n cc), (1, .int .i64 m), (2, .int .i64 need), (7, .int .i64 (i : Nat))]) (fun i => F) (0) (⟨by omega, fun j hj => by omega⟩) (.cons rfl (.cons rfl (.cons rfl (.cons rfl (.nil))))) (.fin) ?_
  intro i hi ih
  obtain ⟨hi1, hi2⟩ := hi
  refine SC_seq ?_
  refine SC_seq ?_
  refine SC_region ?_
  refine SR_pu (RD_move rfl) rfl ?_
  refine SR_pu (RD_move rfl) rfl ?_
  refine SR_pu (RD_len Try.runUnderlying24 rfl) rfl ?_
  refine SR_pu (RD_lss rfl rfl) rfl ?_
  refine SR_nil ?_
  refine SN.le (l := [(0, _), (1, _), (2, _), (7, _), (11, _)]) ?_ (.cons rfl (.cons rfl (.cons rfl (.cons rfl (.cons rfl (.nil))))))
  refine SN_seq ?_
  refine SC_cond rfl (fun hc11 => ?_) (fun hc11 => ?_)
  · have hin : i < by_.length := by simp at hc11; omega
    obtain ⟨x, hx⟩ : ∃ x, by_[i]? = some x := ⟨_, List.getElem?_eq_getElem hin⟩
    have hxd : by_.getD i 0 = x := by simp [List.getD, hx]
    refine SC_skip ?_
    refine SN_seq ?_
    refine SC_seq ?_
    refine SC_block ?_
    refine SC_seq ?_
    refine SC_drawn (.cons 0 true (.cons 1 true (.cons 2 true (.cons 3 true (.cons 4 true (.cons 5 true (.cons 6 true (.cons 7 true (.cons 8 true (.cons 9 true (.cons 10 true (.cons 11 true (.cons 12 true (.cons 13 true (.cons 14 true (.cons 15 true (.cons 16 true (.cons 17 true (.cons 18 true (.cons 19 true (.cons 20 true (.cons 21 true (.cons 22 true (.cons 23 true (.cons 24 true (.cons 25 true (.cons 26 true (.cons 27 true (.cons 28 true (.nil)))))))))))))))))))))))))))))) (by kernel_rfl) (by kernel_rfl) ?_
    refine SQ_pu rfl (RD_move rfl) rfl ?_
    refine SQ_pu rfl (RD_move rfl) rfl ?_
    refine SQ_rd rfl (RD_ixO (i := (i : Nat)) (cs := by_.map intV) Try.runUnderlying24 Try.sizeOf3 rfl rfl (by simpa using hn) (by omega) (by omega)) Has.ro rfl ?_
    refine SQ_rd rfl (RD_loadO (v := intV x) (cs := by_.map intV) Try.isAgg3 rfl (by simp [hx])) Has.ro rfl ?_
    refine SQ_pu rfl (RD_lss rfl rfl) rfl ?_
    refine SQ_pu rfl (RD_move rfl) rfl ?_
    refine SQ_guard (i := 6) rfl rfl rfl (fun hg4_5 => ?_) (fun hg4_5 => ?_)
    · have hA := of_decide_eq_false hg4_5
      refine SQ_pyes rfl rfl rfl (hg4_5) (RD_move rfl) rfl ?_
      refine SQ_pyes rfl rfl rfl (hg4_5) (RD_move rfl) rfl ?_
      refine SQ_yes rfl rfl rfl (hg4_5) (RD_ixO (i := (i : Nat)) (cs := by_.map intV) Try.runUnderlying24 Try.sizeOf3 rfl rfl (by simpa using hn) (by omega) (by omega)) Has.ro rfl ?_
      refine SQ_yes rfl rfl rfl (hg4_5) (RD_loadO (v := intV x) (cs := by_.map intV) Try.isAgg3 rfl (by simp [hx])) Has.ro rfl ?_
      refine SQ_pyes rfl rfl rfl (hg4_5) (RD_move rfl) rfl ?_
      refine SQ_pyes rfl rfl rfl (hg4_5) (RD_geq rfl rfl) rfl ?_
      refine SQ_pu rfl (RD_pick_f rfl (hg4_5) rfl) rfl ?_
      refine SQ_pu rfl (RD_move rfl) rfl ?_
      refine SQ_guard (i := 14) rfl rfl rfl (fun hg4_13 => ?_) (fun hg4_13 => ?_)
      · have hB := of_decide_eq_false hg4_13
        refine SQ_pyes rfl rfl rfl (hg4_13) (RD_move rfl) rfl ?_
        refine SQ_pyes rfl rfl rfl (hg4_13) (RD_gtr rfl rfl) rfl ?_
        refine SQ_pyes rfl rfl rfl (hg4_13) (RD_move rfl) rfl ?_
        refine SQ_guard (i := 17) rfl rfl rfl (fun hg4_16 => ?_) (fun hg4_16 => ?_)
        · have hC := of_decide_eq_true hg4_16
          obtain ⟨y, hy⟩ : ∃ y, by_[i - 1]? = some y := ⟨_, List.getElem?_eq_getElem (by omega)⟩
          have hyd : by_.getD (i - 1) 0 = y := by simp [List.getD, hy]
          refine SQ_pyes rfl rfl rfl (hg4_16) (RD_move rfl) rfl ?_
          refine SQ_pyes rfl rfl rfl (hg4_16) (RD_move rfl) rfl ?_
          refine SQ_pyes rfl rfl rfl (hg4_16) (RD_subi rfl rfl (by omega) (by omega)) rfl ?_
          refine SQ_yes rfl rfl rfl (hg4_16) (RD_ixO (i := ((i - 1 : Nat) : Int)) (cs := by_.map intV) Try.runUnderlying24 Try.sizeOf3 rfl (congrArg some (ie (by omega))) (by simpa using hn) (by omega) (by omega)) Has.ro rfl ?_
          refine SQ_yes rfl rfl rfl (hg4_16) (RD_loadO (v := intV y) (cs := by_.map intV) Try.isAgg3 rfl (by simp [hy])) Has.ro rfl ?_
          refine SQ_pyes rfl rfl rfl (hg4_16) (RD_move rfl) rfl ?_
          refine SQ_pyes rfl rfl rfl (hg4_16) (RD_move rfl) rfl ?_
          refine SQ_yes rfl rfl rfl (hg4_16) (RD_ixO (i := (i : Nat)) (cs := by_.map intV) Try.runUnderlying24 Try.sizeOf3 rfl rfl (by simpa using hn) (by omega) (by omega)) Has.ro rfl ?_
          refine SQ_yes rfl rfl rfl (hg4_16) (RD_loadO (v := intV x) (cs := by_.map intV) Try.isAgg3 rfl (by simp [hx])) Has.ro rfl ?_
          refine SQ_pyes rfl rfl rfl (hg4_16) (RD_geq rfl rfl) rfl ?_
          refine SQ_pyes rfl rfl rfl (hg4_13) (RD_pick_t rfl (hg4_16) rfl) rfl ?_
          refine SQ_pu rfl (RD_pick_f rfl (hg4_13) rfl) rfl ?_
          refine SQ_nil ?_
          refine SN.le (l := [(0, _), (1, _), (2, _), (7, _), (42, _)]) ?_ (.cons rfl (.cons rfl (.cons rfl (.cons rfl (.cons rfl (.nil))))))
          refine SN_seq ?_
          refine SC_cond rfl (fun hc42 => ?_) (fun hc42 => ?_)
          · refine SC_seq ?_
            refine SC_region ?_
            refine SR_pu (RD_assign rfl) rfl ?_
            refine SR_nil ?_
            refine SN.le (l := [(6, _)]) ?_ (.cons rfl (.nil))
            refine SN_seq ?_
            refine SC_ret1 rfl rfl ?_
            have hnr : ¬ rises m by_ := fun h => by
              have h1 := h i hin
              unfold rOk at h1
              rw [hxd] at h1
              have h2 := h1.2.2 (by omega)
              rw [hyd] at h2
              have := of_decide_eq_true hc42
              omega
            exact ⟨by rw [decide_eq_false hnr]; rfl, .fin⟩
          · refine SC_skip ?_
            refine SN_block ?_
            refine SN_seq ?_
            refine SC_region ?_
            refine SR_pu (RD_move rfl) rfl ?_
            refine SR_pu (RD_addi rfl rfl (by omega) (by omega)) rfl ?_
            refine SR_pu (RD_assign rfl) rfl ?_
            refine SR_nil ?_
            refine SN.le (l := [(0, _), (1, _), (2, _), (7, _)]) ?_ (.cons rfl (.cons rfl (.cons rfl (.cons rfl (.nil)))))
            refine SC_again (ih (i + 1) (⟨by omega, fun j hj => by
              rcases Nat.lt_succ_iff_lt_or_eq.1 hj with h | h
              · exact hi2 j h
              · subst h
                unfold rOk
                rw [hxd]
                exact ⟨by omega, by omega, fun _ => by rw [hyd]; have := of_decide_eq_false hc42; omega⟩⟩) (by omega)) (.fin) (.cons rfl (.cons rfl (.cons rfl (.cons' rfl (ie (by omega)) (.nil)))))
        · have hC := of_decide_eq_false hg4_16
          refine SQ_no rfl rfl rfl (hg4_16) (lts rfl) ?_
          refine SQ_no rfl rfl rfl (hg4_16) (lts rfl) ?_
          refine SQ_no rfl rfl rfl (hg4_16) (lts rfl) ?_
          refine SQ_no rfl rfl rfl (hg4_16) (lts rfl) ?_
          refine SQ_no rfl rfl rfl (hg4_16) (lts rfl) ?_
          refine SQ_no rfl rfl rfl (hg4_16) (lts rfl) ?_
          refine SQ_no rfl rfl rfl (hg4_16) (lts rfl) ?_
          refine SQ_no rfl rfl rfl (hg4_16) (lts rfl) ?_
          refine SQ_no rfl rfl rfl (hg4_16) (lts rfl) ?_
          refine SQ_no rfl rfl rfl (hg4_16) (lts rfl) ?_
          refine SQ_pyes rfl rfl rfl (hg4_13) (RD_pick_f rfl (hg4_16) rfl) rfl ?_
          refine SQ_pu rfl (RD_pick_f rfl (hg4_13) rfl) rfl ?_
          refine SQ_nil ?_
          refine SN.le (l := [(0, _), (1, _), (2, _), (7, _), (42, _)]) ?_ (.cons rfl (.cons rfl (.cons rfl (.cons rfl (.cons rfl (.nil))))))
          refine SN_seq ?_
          refine SC_cond_false rfl (rfl) ?_
          refine SC_skip ?_
          refine SN_block ?_
          refine SN_seq ?_
          refine SC_region ?_
          refine SR_pu (RD_move rfl) rfl ?_
          refine SR_pu (RD_addi rfl rfl (by omega) (by omega)) rfl ?_
          refine SR_pu (RD_assign rfl) rfl ?_
          refine SR_nil ?_
          refine SN.le (l := [(0, _), (1, _), (2, _), (7, _)]) ?_ (.cons rfl (.cons rfl (.cons rfl (.cons rfl (.nil)))))
          refine SC_again (ih (i + 1) (⟨by omega, fun j hj => by
            rcases Nat.lt_succ_iff_lt_or_eq.1 hj with h | h
            · exact hi2 j h
            · subst h
              unfold rOk
              rw [hxd]
              exact ⟨by omega, by omega, fun h => by omega⟩⟩) (by omega)) (.fin) (.cons rfl (.cons rfl (.cons rfl (.cons' rfl (ie (by omega)) (.nil)))))
      · have hB := of_decide_eq_true hg4_13
        refine SQ_no rfl rfl rfl (hg4_13) (lts rfl) ?_
        refine SQ_no rfl rfl rfl (hg4_13) (lts rfl) ?_
        refine SQ_no rfl rfl rfl (hg4_13) (lts rfl) ?_
        refine SQ_nou rfl rfl rfl (lts rfl) ?_
        refine SQ_nou rfl rfl rfl (lts rfl) ?_
        refine SQ_nou rfl rfl rfl (lts rfl) ?_
        refine SQ_nou rfl rfl rfl (lts rfl) ?_
        refine SQ_nou rfl rfl rfl (lts rfl) ?_
        refine SQ_nou rfl rfl rfl (lts rfl) ?_
        refine SQ_nou rfl rfl rfl (lts rfl) ?_
        refine SQ_nou rfl rfl rfl (lts rfl) ?_
        refine SQ_nou rfl rfl rfl (lts rfl) ?_
        refine SQ_nou rfl rfl rfl (lts rfl) ?_
        refine SQ_no rfl rfl rfl (hg4_13) (lts rfl) ?_
        refine SQ_pu rfl (RD_pick_t rfl (hg4_13) rfl) rfl ?_
        refine SQ_nil ?_
        refine SN.le (l := [(0, _), (1, _), (2, _), (7, _), (42, _)]) ?_ (.cons rfl (.cons rfl (.cons rfl (.cons rfl (.cons rfl (.nil))))))
        refine SN_seq ?_
        refine SC_cond_true rfl (rfl) ?_
        refine SC_seq ?_
        refine SC_region ?_
        refine SR_pu (RD_assign rfl) rfl ?_
        refine SR_nil ?_
        refine SN.le (l := [(6, _)]) ?_ (.cons rfl (.nil))
        refine SN_seq ?_
        refine SC_ret1 rfl rfl ?_
        have hnr : ¬ rises m by_ := fun h => by
          have h1 := h i hin
          unfold rOk at h1
          rw [hxd] at h1
          omega
        exact ⟨by rw [decide_eq_false hnr]; rfl, .fin⟩
    · have hA := of_decide_eq_true hg4_5
      refine SQ_no rfl rfl rfl (hg4_5) (lts rfl) ?_
      refine SQ_no rfl rfl rfl (hg4_5) (lts rfl) ?_
      refine SQ_no rfl rfl rfl (hg4_5) (lts rfl) ?_
      refine SQ_no rfl rfl rfl (hg4_5) (lts rfl) ?_
      refine SQ_no rfl rfl rfl (hg4_5) (lts rfl) ?_
      refine SQ_no rfl rfl rfl (hg4_5) (lts rfl) ?_
      refine SQ_pu rfl (RD_pick_t rfl (hg4_5) rfl) rfl ?_
      refine SQ_pu rfl (RD_move rfl) rfl ?_
      refine SQ_no rfl rfl rfl (rfl) (lts rfl) ?_
      refine SQ_no rfl rfl rfl (rfl) (lts rfl) ?_
      refine SQ_no rfl rfl rfl (rfl) (lts rfl) ?_
      refine SQ_nou rfl rfl rfl (lts rfl) ?_
      refine SQ_nou rfl rfl rfl (lts rfl) ?_
      refine SQ_nou rfl rfl rfl (lts rfl) ?_
      refine SQ_nou rfl rfl rfl (lts rfl) ?_
      refine SQ_nou rfl rfl rfl (lts rfl) ?_
      refine SQ_nou rfl rfl rfl (lts rfl) ?_
      refine SQ_nou rfl rfl rfl (lts rfl) ?_
      refine SQ_nou rfl rfl rfl (lts rfl) ?_
      refine SQ_nou rfl rfl rfl (lts rfl) ?_
      refine SQ_nou rfl rfl rfl (lts rfl) ?_
      refine SQ_no rfl rfl rfl (rfl) (lts rfl) ?_
      refine SQ_pu rfl (RD_pick_t rfl (rfl) rfl) rfl ?_
      refine SQ_nil ?_
      refine SN.le (l := [(0, _), (1, _), (2, _), (7, _), (42, _)]) ?_ (.cons rfl (.cons rfl (.cons rfl (.cons rfl (.cons rfl (.nil))))))
      refine SN_seq ?_
      refine SC_cond_true rfl (rfl) ?_
      refine SC_seq ?_
      refine SC_region ?_
      refine SR_pu (RD_assign rfl) rfl ?_
      refine SR_nil ?_
      refine SN.le (l := [(6, _)]) ?_ (.cons rfl (.nil))
      refine SN_seq ?_
      refine SC_ret1 rfl rfl ?_
      have hnr : ¬ rises m by_ := fun h => by
        have h1 := h i hin
        unfold rOk at h1
        rw [hxd] at h1
        omega
      exact ⟨by rw [decide_eq_false hnr]; rfl, .fin⟩
  · have hin : i = by_.length := by simp at hc11; omega
    have hr : rises m by_ := fun j hj => hi2 j (by omega)
    refine SC_exit rfl ?_
    refine SN_seq ?_
    refine SC_seq ?_
    refine SC_region ?_
    refine SR_pu (RD_move rfl) rfl ?_
    refine SR_pu (RD_len Try.runUnderlying24 rfl) rfl ?_
    refine SR_pu (RD_move rfl) rfl ?_
    refine SR_pu (RD_geq rfl rfl) rfl ?_
    refine SR_pu (RD_assign rfl) rfl ?_
    refine SR_nil ?_
    refine SN.le (l := [(6, _)]) ?_ (.cons rfl (.nil))
    refine SN_seq ?_
    refine SC_ret1 rfl rfl ?_
    refine ⟨congrArg Value.bool ?_, .fin⟩
    rw [decide_eq_true hr, Bool.true_and]
    exact decide_eq_decide.2 (by omega)

theorem law15_qc_no {W : World} {F : List HProp} [Abs F] (k : WK) (s : WS) (hI : Inv s.l s.S) (c : CfgD) (q : QcD) [HasRow F q.by_.a (q.by_.l.map intV)] (hn : q.by_.l.length = q.by_.n) (hb : q.by_.n ≤ 100000) (hl : s.l.length ≤ 900000000) (hw : c.n < 9223372036854775808) (hfit : c.fits = false) :
    CallsK W Try.prog 9 #[.pointer (some ⟨k.p, 0, none⟩), c.val, q.val] (At worldI k s :: F) (fun v L => ∃ l', Ext s.l l' ∧ l'.length ≤ s.l.length + 1 ∧ (c.fits = true → q.view = 0 → rootB ∈ l') ∧ v = .bool (c.qcOk l' s.S q.view q.block q.by_.l) ∧ Lands L (At worldI k ⟨l', s.S⟩ :: F)) := by
  refine CallsK_enter (n := 70) Try.func9 rfl rfl rfl ?_
  refine SC_seq ?_
  refine SC_region ?_
  refine SR_ox (OX_box rfl rfl) rfl ?_
  rintro _ _ ⟨b4, rfl, rfl⟩
  refine SR_ox (OX_box rfl rfl) rfl ?_
  rintro _ _ ⟨b5, rfl, rfl⟩
  refine SR_pu (RD_assign rfl) rfl ?_
  refine SR_nil ?_
  refine SN.le (l := [(0, _), (4, _), (5, _)]) ?_ (.cons rfl (.cons rfl (.cons rfl (.nil))))
  refine SN_seq ?_
  refine SC_seq ?_
  refine SC_seq ?_
  refine SC_region ?_
  refine SR_rd (RD_loadA (vs := c.cells) Try.isAgg23 Try.sizeOf23 rfl rfl) Has.wh rfl ?_
  refine SR_call Try.call47 (.cons rfl (.nil)) (law15_sane c hw) (lts rfl) ?_
  rintro _ L1 ⟨rfl, hL1⟩
  rw [hfit]
  refine SR.lands hL1 ?_
  refine SR_pu (RD_not rfl) rfl ?_
  refine SR_nil ?_
  refine SN.le (l := [(0, _), (4, _), (5, _), (11, _)]) ?_ (.cons rfl (.cons rfl (.cons rfl (.cons rfl (.nil)))))
  refine SN_seq ?_
  refine SC_cond_true rfl (rfl) ?_
  refine SC_seq ?_
  refine SC_region ?_
  refine SR_pu (RD_assign rfl) rfl ?_
  refine SR_nil ?_
  refine SN.le (l := [(6, _)]) ?_ (.cons rfl (.nil))
  refine SN_seq ?_
  refine SC_ret1 rfl rfl ?_
  exact ⟨s.l, Ext.same, by omega, fun h => absurd h (by simp), by rw [qcOk_nofits hfit], .fin⟩

theorem law15_qc_root {W : World} {F : List HProp} [Abs F] (k : WK) (s : WS) (hI : Inv s.l s.S) (c : CfgD) (q : QcD) [HasRow F q.by_.a (q.by_.l.map intV)] (hn : q.by_.l.length = q.by_.n) (hb : q.by_.n ≤ 100000) (hl : s.l.length ≤ 900000000) (hw : c.n < 9223372036854775808) (hfit : c.fits = true) (hv : q.view = 0) :
    CallsK W Try.prog 9 #[.pointer (some ⟨k.p, 0, none⟩), c.val, q.val] (At worldI k s :: F) (fun v L => ∃ l', Ext s.l l' ∧ l'.length ≤ s.l.length + 1 ∧ (c.fits = true → q.view = 0 → rootB ∈ l') ∧ v = .bool (c.qcOk l' s.S q.view q.block q.by_.l) ∧ Lands L (At worldI k ⟨l', s.S⟩ :: F)) := by
  refine CallsK_enter (n := 70) Try.func9 rfl rfl rfl ?_
  obtain ⟨l1, hl1⟩ : ∃ l1, dput s.l rootB = l1 := ⟨_, rfl⟩
  obtain ⟨d, hd⟩ : ∃ d, dnum l1 rootB = d := ⟨_, rfl⟩
  have hm : rootB ∈ l1 := by rw [← hl1]; exact dput_mem _ _
  have hx : Ext s.l l1 := by rw [← hl1]; exact Ext.put _ _
  have hle : l1.length ≤ s.l.length + 1 := by rw [← hl1]; exact dput_len _ _
  refine SC_seq ?_
  refine SC_region ?_
  refine SR_ox (OX_box rfl rfl) rfl ?_
  rintro _ _ ⟨b4, rfl, rfl⟩
  refine SR_ox (OX_box rfl rfl) rfl ?_
  rintro _ _ ⟨b5, rfl, rfl⟩
  refine SR_pu (RD_assign rfl) rfl ?_
  refine SR_nil ?_
  refine SN.le (l := [(0, _), (4, _), (5, _)]) ?_ (.cons rfl (.cons rfl (.cons rfl (.nil))))
  refine SN_seq ?_
  refine SC_seq ?_
  refine SC_seq ?_
  refine SC_region ?_
  refine SR_rd (RD_loadA (vs := c.cells) Try.isAgg23 Try.sizeOf23 rfl rfl) Has.wh rfl ?_
  refine SR_call Try.call47 (.cons rfl (.nil)) (law15_sane c hw) (lts rfl) ?_
  rintro _ L1 ⟨rfl, hL1⟩
  rw [hfit]
  refine SR.lands hL1 ?_
  refine SR_pu (RD_not rfl) rfl ?_
  refine SR_nil ?_
  refine SN.le (l := [(0, _), (4, _), (5, _), (11, _)]) ?_ (.cons rfl (.cons rfl (.cons rfl (.cons rfl (.nil)))))
  refine SN_seq ?_
  refine SC_cond_false rfl (rfl) ?_
  refine SC_skip ?_
  refine SN_seq ?_
  refine SC_seq ?_
  refine SC_seq ?_
  refine SC_region ?_
  first
    | refine SR_pu (RD_fieldAddr0 Try.runUnderlying26 rfl rfl Try.sizeOf3 rfl) rfl ?_
    | refine SR_rd (RD_fieldAddrO 0 Try.runUnderlying26 rfl rfl Try.sizeOf3 rfl (by simp <;> omega)) Has.ro rfl ?_
  refine SR_rd (RD_load Try.isAgg3 rfl) (Has.ce rfl) rfl ?_
  refine SR_pu (RD_eql rfl rfl) rfl ?_
  refine SR_nil ?_
  refine SN.le (l := [(0, _), (4, _), (5, _), (14, _)]) ?_ (.cons rfl (.cons rfl (.cons rfl (.cons rfl (.nil)))))
  refine SN_seq ?_
  refine SC_cond_true rfl (decide_eq_true hv) ?_
  refine SC_seq ?_
  refine SC_drawn (.cons 0 true (.cons 1 true (.cons 2 true (.alts [3, 4] (fun i => bif Nat.beq i 3 then (.cons 4 false (.cons 5 false (.cons 6 false (.cons 7 false (.cons 8 true (.cons 9 true (.cons 10 true (.cons 11 true (.cons 12 true (.cons 13 true (.cons 14 true (.cons 15 true (.nil))))))))))))) else (.alts [3, 5] (fun i => bif Nat.beq i 3 then (.cons 5 false (.cons 6 false (.cons 7 false (.cons 8 true (.cons 9 true (.cons 10 true (.cons 11 true (.cons 12 true (.cons 13 true (.cons 14 true (.cons 15 true (.nil)))))))))))) else (.cons 3 false (.cons 6 false (.cons 7 false (.cons 8 true (.cons 9 true (.cons 10 true (.cons 11 true (.cons 12 true (.cons 13 true (.cons 14 true (.cons 15 true (.nil))))))))))))))))))) (by kernel_rfl) (by kernel_rfl) ?_
  first
    | refine SQ_pu rfl (RD_fieldAddr 1 Try.runUnderlying26 rfl rfl Try.sizeOf3 rfl) rfl ?_
    | refine SQ_rd rfl (RD_fieldAddrO 1 Try.runUnderlying26 rfl rfl Try.sizeOf3 rfl (by simp <;> omega)) Has.ro rfl ?_
  refine SQ_rd rfl (RD_load Try.isAgg3 rfl) (Has.ce rfl) rfl ?_
  refine SQ_pu rfl (RD_move rfl) rfl ?_
  refine SQ_two ?_ ?_
  · refine SA_call rfl .free Try.call14 (.cons rfl (.nil)) (CallsK.at (w_Terms k s)) (lts rfl) ?_
    rintro _ L2 ⟨rfl, hL2⟩
    refine ⟨.lands hL2 (.h (Has.ce rfl) (.nil)), ?_⟩
    refine SQ.lands hL2 ?_
    refine SQ_ox rfl (OX_lit1 Try.underlying39 Try.type5 rfl rfl rfl rfl (.cons rfl (.cons rfl (.cons rfl (.cons rfl (.nil))))) (.cons rfl (.cons rfl (.cons rfl (.cons rfl (.nil)))))) rfl ?_
    rintro _ _ ⟨b19, rfl, rfl⟩
    refine ⟨.h (Has.ce rfl) (.nil), ?_⟩
    refine SQ_ox rfl (OX_mark Try.underlying39 Try.underlying5 rfl) rfl ?_
    rintro _ _ ⟨fz20, rfl, rfl⟩
    refine ⟨.h (Has.ce rfl) (.nil), ?_⟩
    refine SQ_call rfl Try.call20 (.cons rfl (.nil)) (ref_Text (some ⟨b19, 0, none⟩) 4 4 [114, 111, 111, 116] (cs := [.int .u8 114, .int .u8 111, .int .u8 111, .int .u8 116]) rfl rfl (by omega)) (lts rfl) ?_
    rintro _ L3 ⟨ta, tc, rfl, hL3⟩
    refine ⟨.lands hL3 (.h (Has.ce rfl) (.nil)), ?_⟩
    refine SQ.lands hL3 ?_
    refine SQ_call rfl Try.call15 (.cons rfl (.cons rfl (.nil))) (CallsK.at (w_Digest k s _ _ _ rootB (by simp [rootB, tagB]) (by unfold rootB; rw [tagB_len]; rfl) (by omega) l1 d hl1 hd)) (lts rfl) ?_
    rintro _ L4 ⟨rfl, hL4⟩
    refine ⟨.lands hL4 (.h (Has.ce rfl) (.nil)), ?_⟩
    refine SQ.lands hL4 ?_
    refine SQ_pu rfl (RD_eql rfl rfl) rfl ?_
    refine SQ_pu rfl (RD_move rfl) rfl ?_
    refine SQ_guard (i := 10) rfl rfl rfl (fun hg4_9 => ?_) (fun hg4_9 => ?_)
    · first
        | refine SQ_pyes rfl rfl rfl (hg4_9) (RD_fieldAddr 2 Try.runUnderlying26 rfl rfl Try.sizeOf24 rfl) rfl ?_
        | refine SQ_yes rfl rfl rfl (hg4_9) (RD_fieldAddrO 2 Try.runUnderlying26 rfl rfl Try.sizeOf24 rfl (by simp <;> omega)) Has.ro rfl ?_
      refine SQ_yes rfl rfl rfl (hg4_9) (RD_load Try.isAgg24 rfl) (Has.ce rfl) rfl ?_
      refine SQ_pyes rfl rfl rfl (hg4_9) (RD_len Try.runUnderlying24 rfl) rfl ?_
      refine SQ_pyes rfl rfl rfl (hg4_9) (RD_eql rfl rfl) rfl ?_
      refine SQ_pu rfl (RD_pick_t rfl (hg4_9) rfl) rfl ?_
      refine SQ_pu rfl (RD_assign rfl) rfl ?_
      refine SQ_nil ?_
      refine SN.le (l := [(6, _)]) ?_ (.cons rfl (.nil))
      refine SN_seq ?_
      refine SC_ret1 rfl rfl ?_
      refine ⟨l1, hx, hle, fun _ _ => hm, congrArg Value.bool ?_, .fin⟩
      unfold CfgD.qcOk
      rw [if_pos (by omega), hfit, decide_eq_true hv, hd]
      rw [show decide (q.block = (d : Nat)) = true from hg4_9]
      exact decide_eq_decide.2 (by rw [hn]; omega)
    · refine SQ_no rfl rfl rfl (hg4_9) (lts rfl) ?_
      refine SQ_no rfl rfl rfl (hg4_9) (lts rfl) ?_
      refine SQ_no rfl rfl rfl (hg4_9) (lts rfl) ?_
      refine SQ_no rfl rfl rfl (hg4_9) (lts rfl) ?_
      refine SQ_pu rfl (RD_pick_f rfl (hg4_9) rfl) rfl ?_
      refine SQ_pu rfl (RD_assign rfl) rfl ?_
      refine SQ_nil ?_
      refine SN.le (l := [(6, _)]) ?_ (.cons rfl (.nil))
      refine SN_seq ?_
      refine SC_ret1 rfl rfl ?_
      refine ⟨l1, hx, hle, fun _ _ => hm, congrArg Value.bool ?_, .fin⟩
      unfold CfgD.qcOk
      rw [if_pos (by omega), hfit, decide_eq_true hv, hd]
      rw [show decide (q.block = (d : Nat)) = false from hg4_9]
      rfl
  · refine SA_ox rfl .free (OX_lit1 Try.underlying39 Try.type5 rfl rfl rfl rfl (.cons rfl (.cons rfl (.cons rfl (.cons rfl (.nil))))) (.cons rfl (.cons rfl (.cons rfl (.cons rfl (.nil)))))) rfl ?_
    rintro _ _ ⟨b19, rfl, rfl⟩
    refine ⟨.h (Has.ce rfl) (.nil), ?_⟩
    refine SQ_two ?_ ?_
    · refine SA_call rfl .free Try.call14 (.cons rfl (.nil)) (CallsK.at (w_Terms k s)) (lts rfl) ?_
      rintro _ L2 ⟨rfl, hL2⟩
      refine ⟨.lands hL2 (.h (Has.ce rfl) (.nil)), ?_⟩
      refine SQ.lands hL2 ?_
      refine SQ_ox rfl (OX_mark Try.underlying39 Try.underlying5 rfl) rfl ?_
      rintro _ _ ⟨fz20, rfl, rfl⟩
      refine ⟨.h (Has.ce rfl) (.nil), ?_⟩
      refine SQ_call rfl Try.call20 (.cons rfl (.nil)) (ref_Text (some ⟨b19, 0, none⟩) 4 4 [114, 111, 111, 116] (cs := [.int .u8 114, .int .u8 111, .int .u8 111, .int .u8 116]) rfl rfl (by omega)) (lts rfl) ?_
      rintro _ L3 ⟨ta, tc, rfl, hL3⟩
      refine ⟨.lands hL3 (.h (Has.ce rfl) (.nil)), ?_⟩
      refine SQ.lands hL3 ?_
      refine SQ_call rfl Try.call15 (.cons rfl (.cons rfl (.nil))) (CallsK.at (w_Digest k s _ _ _ rootB (by simp [rootB, tagB]) (by unfold rootB; rw [tagB_len]; rfl) (by omega) l1 d hl1 hd)) (lts rfl) ?_
      rintro _ L4 ⟨rfl, hL4⟩
      refine ⟨.lands hL4 (.h (Has.ce rfl) (.nil)), ?_⟩
      refine SQ.lands hL4 ?_
      refine SQ_pu rfl (RD_eql rfl rfl) rfl ?_
      refine SQ_pu rfl (RD_move rfl) rfl ?_
      refine SQ_guard (i := 10) rfl rfl rfl (fun hg4_9 => ?_) (fun hg4_9 => ?_)
      · first
          | refine SQ_pyes rfl rfl rfl (hg4_9) (RD_fieldAddr 2 Try.runUnderlying26 rfl rfl Try.sizeOf24 rfl) rfl ?_
          | refine SQ_yes rfl rfl rfl (hg4_9) (RD_fieldAddrO 2 Try.runUnderlying26 rfl rfl Try.sizeOf24 rfl (by simp <;> omega)) Has.ro rfl ?_
        refine SQ_yes rfl rfl rfl (hg4_9) (RD_load Try.isAgg24 rfl) (Has.ce rfl) rfl ?_
        refine SQ_pyes rfl rfl rfl (hg4_9) (RD_len Try.runUnderlying24 rfl) rfl ?_
        refine SQ_pyes rfl rfl rfl (hg4_9) (RD_eql rfl rfl) rfl ?_
        refine SQ_pu rfl (RD_pick_t rfl (hg4_9) rfl) rfl ?_
        refine SQ_pu rfl (RD_assign rfl) rfl ?_
        refine SQ_nil ?_
        refine SN.le (l := [(6, _)]) ?_ (.cons rfl (.nil))
        refine SN_seq ?_
        refine SC_ret1 rfl rfl ?_
        refine ⟨l1, hx, hle, fun _ _ => hm, congrArg Value.bool ?_, .fin⟩
        unfold CfgD.qcOk
        rw [if_pos (by omega), hfit, decide_eq_true hv, hd]
        rw [show decide (q.block = (d : Nat)) = true from hg4_9]
        exact decide_eq_decide.2 (by rw [hn]; omega)
      · refine SQ_no rfl rfl rfl (hg4_9) (lts rfl) ?_
        refine SQ_no rfl rfl rfl (hg4_9) (lts rfl) ?_
        refine SQ_no rfl rfl rfl (hg4_9) (lts rfl) ?_
        refine SQ_no rfl rfl rfl (hg4_9) (lts rfl) ?_
        refine SQ_pu rfl (RD_pick_f rfl (hg4_9) rfl) rfl ?_
        refine SQ_pu rfl (RD_assign rfl) rfl ?_
        refine SQ_nil ?_
        refine SN.le (l := [(6, _)]) ?_ (.cons rfl (.nil))
        refine SN_seq ?_
        refine SC_ret1 rfl rfl ?_
        refine ⟨l1, hx, hle, fun _ _ => hm, congrArg Value.bool ?_, .fin⟩
        unfold CfgD.qcOk
        rw [if_pos (by omega), hfit, decide_eq_true hv, hd]
        rw [show decide (q.block = (d : Nat)) = false from hg4_9]
        rfl
    · refine SA_ox rfl .free (OX_mark Try.underlying39 Try.underlying5 rfl) rfl ?_
      rintro _ _ ⟨fz20, rfl, rfl⟩
      refine ⟨.h (Has.ce rfl) (.nil), ?_⟩
      refine SQ_call rfl Try.call14 (.cons rfl (.nil)) (CallsK.at (w_Terms k s)) (lts rfl) ?_
      rintro _ L2 ⟨rfl, hL2⟩
      refine ⟨.lands hL2 (.h (Has.ce rfl) (.nil)), ?_⟩
      refine SQ.lands hL2 ?_
      refine SQ_call rfl Try.call20 (.cons rfl (.nil)) (ref_Text (some ⟨b19, 0, none⟩) 4 4 [114, 111, 111, 116] (cs := [.int .u8 114, .int .u8 111, .int .u8 111, .int .u8 116]) rfl rfl (by omega)) (lts rfl) ?_
      rintro _ L3 ⟨ta, tc, rfl, hL3⟩
      refine ⟨.lands hL3 (.h (Has.ce rfl) (.nil)), ?_⟩
      refine SQ.lands hL3 ?_
      refine SQ_call rfl Try.call15 (.cons rfl (.cons rfl (.nil))) (CallsK.at (w_Digest k s _ _ _ rootB (by simp [rootB, tagB]) (by unfold rootB; rw [tagB_len]; rfl) (by omega) l1 d hl1 hd)) (lts rfl) ?_
      rintro _ L4 ⟨rfl, hL4⟩
      refine ⟨.lands hL4 (.h (Has.ce rfl) (.nil)), ?_⟩
      refine SQ.lands hL4 ?_
      refine SQ_pu rfl (RD_eql rfl rfl) rfl ?_
      refine SQ_pu rfl (RD_move rfl) rfl ?_
      refine SQ_guard (i := 10) rfl rfl rfl (fun hg4_9 => ?_) (fun hg4_9 => ?_)
      · first
          | refine SQ_pyes rfl rfl rfl (hg4_9) (RD_fieldAddr 2 Try.runUnderlying26 rfl rfl Try.sizeOf24 rfl) rfl ?_
          | refine SQ_yes rfl rfl rfl (hg4_9) (RD_fieldAddrO 2 Try.runUnderlying26 rfl rfl Try.sizeOf24 rfl (by simp <;> omega)) Has.ro rfl ?_
        refine SQ_yes rfl rfl rfl (hg4_9) (RD_load Try.isAgg24 rfl) (Has.ce rfl) rfl ?_
        refine SQ_pyes rfl rfl rfl (hg4_9) (RD_len Try.runUnderlying24 rfl) rfl ?_
        refine SQ_pyes rfl rfl rfl (hg4_9) (RD_eql rfl rfl) rfl ?_
        refine SQ_pu rfl (RD_pick_t rfl (hg4_9) rfl) rfl ?_
        refine SQ_pu rfl (RD_assign rfl) rfl ?_
        refine SQ_nil ?_
        refine SN.le (l := [(6, _)]) ?_ (.cons rfl (.nil))
        refine SN_seq ?_
        refine SC_ret1 rfl rfl ?_
        refine ⟨l1, hx, hle, fun _ _ => hm, congrArg Value.bool ?_, .fin⟩
        unfold CfgD.qcOk
        rw [if_pos (by omega), hfit, decide_eq_true hv, hd]
        rw [show decide (q.block = (d : Nat)) = true from hg4_9]
        exact decide_eq_decide.2 (by rw [hn]; omega)
      · refine SQ_no rfl rfl rfl (hg4_9) (lts rfl) ?_
        refine SQ_no rfl rfl rfl (hg4_9) (lts rfl) ?_
        refine SQ_no rfl rfl rfl (hg4_9) (lts rfl) ?_
        refine SQ_no rfl rfl rfl (hg4_9) (lts rfl) ?_
        refine SQ_pu rfl (RD_pick_f rfl (hg4_9) rfl) rfl ?_
        refine SQ_pu rfl (RD_assign rfl) rfl ?_
        refine SQ_nil ?_
        refine SN.le (l := [(6, _)]) ?_ (.cons rfl (.nil))
        refine SN_seq ?_
        refine SC_ret1 rfl rfl ?_
        refine ⟨l1, hx, hle, fun _ _ => hm, congrArg Value.bool ?_, .fin⟩
        unfold CfgD.qcOk
        rw [if_pos (by omega), hfit, decide_eq_true hv, hd]
        rw [show decide (q.block = (d : Nat)) = false from hg4_9]
        rfl

theorem law15_qc_many {W : World} {F : List HProp} [Abs F] (k : WK) (s : WS) (hI : Inv s.l s.S) (c : CfgD) (q : QcD) [HasRow F q.by_.a (q.by_.l.map intV)] (hn : q.by_.l.length = q.by_.n) (hb : q.by_.n ≤ 100000) (hl : s.l.length ≤ 900000000) (hw : c.n < 9223372036854775808) (hfit : c.fits = true) (hv : ¬ q.view = 0) :
    CallsK W Try.prog 9 #[.pointer (some ⟨k.p, 0, none⟩), c.val, q.val] (At worldI k s :: F) (fun v L => ∃ l', Ext s.l l' ∧ l'.length ≤ s.l.length + 1 ∧ (c.fits = true → q.view = 0 → rootB ∈ l') ∧ v = .bool (c.qcOk l' s.S q.view q.block q.by_.l) ∧ Lands L (At worldI k ⟨l', s.S⟩ :: F)) := by
  refine CallsK_enter (n := 70) Try.func9 rfl rfl rfl ?_
  have hff := fits_f hfit
  refine SC_seq ?_
  refine SC_region ?_
  refine SR_ox (OX_box rfl rfl) rfl ?_
  rintro _ _ ⟨b4, rfl, rfl⟩
  refine SR_ox (OX_box rfl rfl) rfl ?_
  rintro _ _ ⟨b5, rfl, rfl⟩
  refine SR_pu (RD_assign rfl) rfl ?_
  refine SR_nil ?_
  refine SN.le (l := [(0, _), (4, _), (5, _)]) ?_ (.cons rfl (.cons rfl (.cons rfl (.nil))))
  refine SN_seq ?_
  refine SC_seq ?_
  refine SC_seq ?_
  refine SC_region ?_
  refine SR_rd (RD_loadA (vs := c.cells) Try.isAgg23 Try.sizeOf23 rfl rfl) Has.wh rfl ?_
  refine SR_call Try.call47 (.cons rfl (.nil)) (law15_sane c hw) (lts rfl) ?_
  rintro _ L1 ⟨rfl, hL1⟩
  rw [hfit]
  refine SR.lands hL1 ?_
  refine SR_pu (RD_not rfl) rfl ?_
  refine SR_nil ?_
  refine SN.le (l := [(0, _), (4, _), (5, _), (11, _)]) ?_ (.cons rfl (.cons rfl (.cons rfl (.cons rfl (.nil)))))
  refine SN_seq ?_
  refine SC_cond_false rfl (rfl) ?_
  refine SC_skip ?_
  refine SN_seq ?_
  refine SC_seq ?_
  refine SC_seq ?_
  refine SC_region ?_
  first
    | refine SR_pu (RD_fieldAddr0 Try.runUnderlying26 rfl rfl Try.sizeOf3 rfl) rfl ?_
    | refine SR_rd (RD_fieldAddrO 0 Try.runUnderlying26 rfl rfl Try.sizeOf3 rfl (by simp <;> omega)) Has.ro rfl ?_
  refine SR_rd (RD_load Try.isAgg3 rfl) (Has.ce rfl) rfl ?_
  refine SR_pu (RD_eql rfl rfl) rfl ?_
  refine SR_nil ?_
  refine SN.le (l := [(0, _), (4, _), (5, _), (14, _)]) ?_ (.cons rfl (.cons rfl (.cons rfl (.cons rfl (.nil)))))
  refine SN_seq ?_
  refine SC_cond_false rfl (decide_eq_false hv) ?_
  refine SC_skip ?_
  refine SN_seq ?_
  refine SC_seq ?_
  refine SC_seq ?_
  refine SC_region ?_
  first
    | refine SR_pu (RD_fieldAddr0 Try.runUnderlying26 rfl rfl Try.sizeOf3 rfl) rfl ?_
    | refine SR_rd (RD_fieldAddrO 0 Try.runUnderlying26 rfl rfl Try.sizeOf3 rfl (by simp <;> omega)) Has.ro rfl ?_
  refine SR_rd (RD_load Try.isAgg3 rfl) (Has.ce rfl) rfl ?_
  refine SR_pu (RD_lss rfl rfl) rfl ?_
  refine SR_pu (RD_move rfl) rfl ?_
  refine SR_guard rfl rfl (fun hg5_3 => ?_) (fun hg5_3 => ?_)
  · have hA := of_decide_eq_false hg5_3
    refine SR_yes rfl rfl (hg5_3) ?_
    first
      | refine SR_pu (RD_fieldAddr 2 Try.runUnderlying26 rfl rfl Try.sizeOf24 rfl) rfl ?_
      | refine SR_rd (RD_fieldAddrO 2 Try.runUnderlying26 rfl rfl Try.sizeOf24 rfl (by simp <;> omega)) Has.ro rfl ?_
    refine SR_yes rfl rfl (hg5_3) ?_
    refine SR_rd (RD_load Try.isAgg24 rfl) (Has.ce rfl) rfl ?_
    refine SR_yes rfl rfl (hg5_3) ?_
    first
      | refine SR_pu (RD_fieldAddr 1 Try.runUnderlying23 rfl rfl Try.sizeOf3 rfl) rfl ?_
      | refine SR_rd (RD_fieldAddrO 1 Try.runUnderlying23 rfl rfl Try.sizeOf3 rfl (by simp <;> omega)) Has.ro rfl ?_
    refine SR_yes rfl rfl (hg5_3) ?_
    refine SR_rd (RD_load Try.isAgg3 rfl) (Has.ce rfl) rfl ?_
    refine SR_yes rfl rfl (hg5_3) ?_
    first
      | refine SR_pu (RD_fieldAddr0 Try.runUnderlying23 rfl rfl Try.sizeOf3 rfl) rfl ?_
      | refine SR_rd (RD_fieldAddrO 0 Try.runUnderlying23 rfl rfl Try.sizeOf3 rfl (by simp <;> omega)) Has.ro rfl ?_
    refine SR_yes rfl rfl (hg5_3) ?_
    refine SR_rd (RD_load Try.isAgg3 rfl) (Has.ce rfl) rfl ?_
    refine SR_yes rfl rfl (hg5_3) ?_
    refine SR_pu (RD_muli rfl rfl (by omega) (by omega)) rfl ?_
    refine SR_yes rfl rfl (hg5_3) ?_
    refine SR_pu (RD_addi rfl rfl (by omega) (by omega)) rfl ?_
    refine SR_yes rfl rfl (hg5_3) ?_
    refine SR_call Try.call48 (.cons rfl (.cons rfl (.cons rfl (.nil)))) (law15_rise q.by_.a q.by_.n q.by_.c q.by_.l hn (by omega) c.n (2 * c.f + 1)) (lts rfl) ?_
    rintro _ L2 ⟨rfl, hL2⟩
    refine SR.lands hL2 ?_
    refine SR_yes rfl rfl (hg5_3) ?_
    refine SR_pu (RD_not rfl) rfl ?_
    refine SR_pu (RD_pick_f rfl (hg5_3) rfl) rfl ?_
    refine SR_nil ?_
    refine SN.le (l := [(0, _), (5, _), (44, _)]) ?_ (.cons rfl (.cons rfl (.cons rfl (.nil))))
    refine SN_seq ?_
    refine SC_cond rfl (fun hc44 => ?_) (fun hc44 => ?_)
    · refine SC_seq ?_
      refine SC_region ?_
      refine SR_pu (RD_assign rfl) rfl ?_
      refine SR_nil ?_
      refine SN.le (l := [(6, _)]) ?_ (.cons rfl (.nil))
      refine SN_seq ?_
      refine SC_ret1 rfl rfl ?_
      have hri : (decide (rises c.n q.by_.l) && decide (2 * c.f + 1 ≤ (q.by_.l.length : Int))) = false := by
        cases hB : (decide (rises c.n q.by_.l) && decide (2 * c.f + 1 ≤ (q.by_.l.length : Int))) with
        | true => rw [hB] at hc44; simp at hc44
        | false => rfl
      have hmany : c.many q.by_.l = false := by rw [many_iff hfit]; exact hri
      exact ⟨s.l, Ext.same, by omega, fun _ h => by omega, by unfold CfgD.qcOk; rw [if_neg (by omega), hmany]; rfl, .fin⟩
    · have hri : (decide (rises c.n q.by_.l) && decide (2 * c.f + 1 ≤ (q.by_.l.length : Int))) = true := by simpa using hc44
      have hmany : c.many q.by_.l = true := by rw [many_iff hfit]; exact hri
      have hv1 : 1 ≤ q.view := by omega
      obtain ⟨l1, hl1⟩ : ∃ l1, dput s.l (voteB q.view q.block) = l1 := ⟨_, rfl⟩
      obtain ⟨d, hd⟩ : ∃ d, dnum l1 (voteB q.view q.block) = d := ⟨_, rfl⟩
      have hx1 : Ext s.l l1 := by rw [← hl1]; exact Ext.put _ _
      have hle : l1.length ≤ s.l.length + 1 := by rw [← hl1]; exact dput_len _ _
      have hqc : c.qcOk l1 s.S q.view q.block q.by_.l = q.by_.l.all fun w => decide (w ∈ signers s.S (d : Nat)) := by unfold CfgD.qcOk sg; rw [if_neg (by omega), hmany, hd]; rfl
      refine SC_skip ?_
      refine SN_seq ?_
      refine SC_seq ?_
      refine SC_drawn (.cons 0 true (.cons 2 true (.cons 3 true (.cons 4 true (.cons 5 true (.cons 1 false (.cons 6 false (.cons 7 false (.cons 8 true (.nil)))))))))) (by kernel_rfl) (by kernel_rfl) ?_
      refine SQ_pu rfl (RD_move rfl) rfl ?_
      first
        | refine SQ_pu rfl (RD_fieldAddr0 Try.runUnderlying26 rfl rfl Try.sizeOf3 rfl) rfl ?_
        | refine SQ_rd rfl (RD_fieldAddrO 0 Try.runUnderlying26 rfl rfl Try.sizeOf3 rfl (by simp <;> omega)) Has.ro rfl ?_
      refine SQ_rd rfl (RD_load Try.isAgg3 rfl) (Has.ce rfl) rfl ?_
      first
        | refine SQ_pu rfl (RD_fieldAddr 1 Try.runUnderlying26 rfl rfl Try.sizeOf3 rfl) rfl ?_
        | refine SQ_rd rfl (RD_fieldAddrO 1 Try.runUnderlying26 rfl rfl Try.sizeOf3 rfl (by simp <;> omega)) Has.ro rfl ?_
      refine SQ_rd rfl (RD_load Try.isAgg3 rfl) (Has.ce rfl) rfl ?_
      refine SQ_call rfl Try.call14 (.cons rfl (.nil)) (CallsK.at (w_Terms k s)) (lts rfl) ?_
      rintro _ L3 ⟨rfl, hL3⟩
      refine ⟨.lands hL3 (.h (Has.ce rfl) (.h (Has.ce rfl) (.nil))), ?_⟩
      refine SQ.lands hL3 ?_
      refine SQ_call rfl Try.call16 (.cons rfl (.cons rfl (.nil))) (law15_Vote q.view q.block) (lts rfl) ?_
      rintro _ L4 ⟨va, vc, rfl, hL4⟩
      refine ⟨.lands hL4 (.w rfl (.w rfl (.nil))), ?_⟩
      refine SQ.lands hL4 ?_
      refine SQ_call rfl Try.call15 (.cons rfl (.cons rfl (.nil))) (CallsK.at (w_Digest k s va _ vc (voteB q.view q.block) rfl rfl (by omega) l1 d hl1 hd)) (lts rfl) ?_
      rintro _ L5 ⟨rfl, hL5⟩
      refine ⟨.lands hL5 (.h (Has.ce rfl) (.h (Has.ce rfl) (.nil))), ?_⟩
      refine SQ.lands hL5 ?_
      refine SQ_pu rfl (RD_assign rfl) rfl ?_
      refine SQ_nil ?_
      refine SN.le (l := [(0, _), (5, _), (7, _)]) ?_ (.cons rfl (.cons rfl (.cons rfl (.nil))))
      refine SN_seq ?_
      refine SC_seq ?_
      refine SC_seq ?_
      refine SC_region ?_
      refine SR_pu (RD_assign rfl) rfl ?_
      refine SR_nil ?_
      refine SN.le (l := [(0, _), (5, _), (7, _), (8, _)]) ?_ (.cons rfl (.cons rfl (.cons rfl (.cons rfl (.nil)))))
      refine SN_seq ?_
      refine SC_block ?_
      refine SC_ind (X := Nat) (fun i => i ≤ q.by_.n ∧ ∀ j x, j < i → q.by_.l[j]? = some x → x ∈ signers s.S (d : Nat)) (fun i => q.by_.n - i) (fun i => [(0, .pointer (some ⟨k.p, 0, none⟩)), (5, .pointer (some ⟨b5, 0, none⟩)), (7, .int .i64 (d : Nat)), (8, .int .i64 (i : Nat))]) (fun i => pt b5 (.cells q.cells.toArray 26) :: At worldI k ⟨l1, s.S⟩ :: F) (0) (⟨by omega, fun j x hj => by omega⟩) (.cons rfl (.cons rfl (.cons rfl (.cons rfl (.nil))))) (.fin) ?_
      intro i hi ih
      obtain ⟨hi1, hi2⟩ := hi
      refine SC_seq ?_
      refine SC_seq ?_
      refine SC_region ?_
      refine SR_pu (RD_move rfl) rfl ?_
      first
        | refine SR_pu (RD_fieldAddr 2 Try.runUnderlying26 rfl rfl Try.sizeOf24 rfl) rfl ?_
        | refine SR_rd (RD_fieldAddrO 2 Try.runUnderlying26 rfl rfl Try.sizeOf24 rfl (by simp <;> omega)) Has.ro rfl ?_
      refine SR_rd (RD_load Try.isAgg24 rfl) (Has.ce rfl) rfl ?_
      refine SR_pu (RD_len Try.runUnderlying24 rfl) rfl ?_
      refine SR_pu (RD_lss rfl rfl) rfl ?_
      refine SR_nil ?_
      refine SN.le (l := [(0, _), (5, _), (7, _), (8, _), (57, _)]) ?_ (.cons rfl (.cons rfl (.cons rfl (.cons rfl (.cons rfl (.nil))))))
      refine SN_seq ?_
      refine SC_cond rfl (fun hc57 => ?_) (fun hc57 => ?_)
      · have hin : i < q.by_.n := by simp at hc57; omega
        obtain ⟨x, hx⟩ : ∃ x, q.by_.l[i]? = some x := ⟨_, List.getElem?_eq_getElem (by omega)⟩
        refine SC_skip ?_
        refine SN_seq ?_
        refine SC_seq ?_
        refine SC_block ?_
        refine SC_seq ?_
        refine SC_drawn (.cons 0 true (.cons 2 true (.cons 3 true (.cons 4 true (.cons 5 true (.cons 6 true (.cons 7 true (.cons 1 false (.cons 8 false (.cons 9 true (.nil))))))))))) (by kernel_rfl) (by kernel_rfl) ?_
        refine SQ_pu rfl (RD_move rfl) rfl ?_
        first
          | refine SQ_pu rfl (RD_fieldAddr 2 Try.runUnderlying26 rfl rfl Try.sizeOf24 rfl) rfl ?_
          | refine SQ_rd rfl (RD_fieldAddrO 2 Try.runUnderlying26 rfl rfl Try.sizeOf24 rfl (by simp <;> omega)) Has.ro rfl ?_
        refine SQ_rd rfl (RD_load Try.isAgg24 rfl) (Has.ce rfl) rfl ?_
        refine SQ_pu rfl (RD_move rfl) rfl ?_
        refine SQ_rd rfl (RD_ixO (i := (i : Nat)) (cs := q.by_.l.map intV) Try.runUnderlying24 Try.sizeOf3 rfl rfl (by simpa using hn) (by omega) (by omega)) Has.ro rfl ?_
        refine SQ_rd rfl (RD_loadO (v := intV x) (cs := q.by_.l.map intV) Try.isAgg3 rfl (by simp [hx])) Has.ro rfl ?_
        refine SQ_pu rfl (RD_move rfl) rfl ?_
        refine SQ_call rfl Try.call22 (.cons rfl (.nil)) (CallsK.at (w_Signs k ⟨l1, s.S⟩)) (lts rfl) ?_
        rintro _ L6 ⟨rfl, hL6⟩
        refine ⟨.lands hL6 (.h Has.ro (.h Has.ro (.h (Has.ce rfl) (.nil)))), ?_⟩
        refine SQ.lands hL6 ?_
        refine SQ_call rfl Try.call46 (.cons rfl (.cons rfl (.cons rfl (.nil)))) (CallsK.at (w_Has k ⟨l1, s.S⟩ x (d : Nat))) (lts rfl) ?_
        rintro _ L7 ⟨rfl, hL7⟩
        refine ⟨.lands hL7 (.w rfl (.h Has.ro (.h (Has.ce rfl) (.nil)))), ?_⟩
        refine SQ.lands hL7 ?_
        refine SQ_pu rfl (RD_not rfl) rfl ?_
        refine SQ_nil ?_
        refine SN.le (l := [(0, _), (5, _), (7, _), (8, _), (69, _)]) ?_ (.cons rfl (.cons rfl (.cons rfl (.cons rfl (.cons rfl (.nil))))))
        refine SN_seq ?_
        refine SC_cond rfl (fun hc69 => ?_) (fun hc69 => ?_)
        · have hno : x ∉ signers s.S (d : Nat) := by simpa using hc69
          refine SC_seq ?_
          refine SC_region ?_
          refine SR_pu (RD_assign rfl) rfl ?_
          refine SR_nil ?_
          refine SN.le (l := [(6, _)]) ?_ (.cons rfl (.nil))
          refine SN_seq ?_
          refine SC_ret1 rfl rfl ?_
          refine ⟨l1, hx1, hle, fun _ h => by omega, ?_, .fin⟩
          rw [hqc]
          exact congrArg Value.bool (by symm; rw [List.all_eq_false]; exact ⟨x, List.mem_of_getElem? hx, by simpa using hno⟩)
        · have hyes : x ∈ signers s.S (d : Nat) := by simpa using hc69
          refine SC_skip ?_
          refine SN_block ?_
          refine SN_seq ?_
          refine SC_region ?_
          refine SR_pu (RD_move rfl) rfl ?_
          refine SR_pu (RD_addi rfl rfl (by omega) (by omega)) rfl ?_
          refine SR_pu (RD_assign rfl) rfl ?_
          refine SR_nil ?_
          refine SN.le (l := [(0, _), (5, _), (7, _), (8, _)]) ?_ (.cons rfl (.cons rfl (.cons rfl (.cons rfl (.nil)))))
          refine SC_again (ih (i + 1) (⟨by omega, fun j y hj hy => by
            rcases Nat.lt_succ_iff_lt_or_eq.1 hj with h | h
            · exact hi2 j y h hy
            · subst h; rw [hx] at hy; cases hy; exact hyes⟩) (by omega)) (.fin) (.cons rfl (.cons rfl (.cons rfl (.cons' rfl (ie (by omega)) (.nil)))))
      · have hin : i = q.by_.n := by simp at hc57; omega
        refine SC_exit rfl ?_
        refine SN_seq ?_
        refine SC_seq ?_
        refine SC_region ?_
        refine SR_pu (RD_assign rfl) rfl ?_
        refine SR_nil ?_
        refine SN.le (l := [(6, _)]) ?_ (.cons rfl (.nil))
        refine SN_seq ?_
        refine SC_ret1 rfl rfl ?_
        refine ⟨l1, hx1, hle, fun _ h => by omega, ?_, .fin⟩
        rw [hqc]
        exact congrArg Value.bool (by symm; rw [List.all_eq_true]; intro y hy; obtain ⟨j, hj⟩ := List.getElem?_of_mem hy; have := (List.getElem?_eq_some_iff.1 hj).1; exact decide_eq_true (hi2 j y (by omega) hj))
  · have hA := of_decide_eq_true hg5_3
    refine SR_no rfl rfl (hg5_3) (lts rfl) ?_
    refine SR_no rfl rfl (hg5_3) (lts rfl) ?_
    refine SR_no rfl rfl (hg5_3) (lts rfl) ?_
    refine SR_no rfl rfl (hg5_3) (lts rfl) ?_
    refine SR_no rfl rfl (hg5_3) (lts rfl) ?_
    refine SR_no rfl rfl (hg5_3) (lts rfl) ?_
    refine SR_no rfl rfl (hg5_3) (lts rfl) ?_
    refine SR_no rfl rfl (hg5_3) (lts rfl) ?_
    refine SR_no rfl rfl (hg5_3) (lts rfl) ?_
    refine SR_no rfl rfl (hg5_3) (lts rfl) ?_
    refine SR_pu (RD_pick_t rfl (hg5_3) rfl) rfl ?_
    refine SR_nil ?_
    refine SN.le (l := [(0, _), (5, _), (44, _)]) ?_ (.cons rfl (.cons rfl (.cons rfl (.nil))))
    refine SN_seq ?_
    refine SC_cond_true rfl (rfl) ?_
    refine SC_seq ?_
    refine SC_region ?_
    refine SR_pu (RD_assign rfl) rfl ?_
    refine SR_nil ?_
    refine SN.le (l := [(6, _)]) ?_ (.cons rfl (.nil))
    refine SN_seq ?_
    refine SC_ret1 rfl rfl ?_
    exact ⟨s.l, Ext.same, by omega, fun _ h => by omega, by unfold CfgD.qcOk; rw [if_pos (by omega), decide_eq_false (show ¬ q.view = 0 by omega)]; simp, .fin⟩

theorem law15_qc {W : World} {F : List HProp} [Abs F] (k : WK) (s : WS) (hI : Inv s.l s.S) (c : CfgD) (q : QcD) [HasRow F q.by_.a (q.by_.l.map intV)] (hn : q.by_.l.length = q.by_.n) (hb : q.by_.n ≤ 100000) (hl : s.l.length ≤ 900000000) (hw : c.n < 9223372036854775808) : CallsK W Try.prog 9 #[.pointer (some ⟨k.p, 0, none⟩), c.val, q.val] (At worldI k s :: F) (fun v L => ∃ l', Ext s.l l' ∧ l'.length ≤ s.l.length + 1 ∧ (c.fits = true → q.view = 0 → rootB ∈ l') ∧ v = .bool (c.qcOk l' s.S q.view q.block q.by_.l) ∧ Lands L (At worldI k ⟨l', s.S⟩ :: F)) := by
  cases hfit : c.fits with
  | false => exact law15_qc_no k s hI c q hn hb hl hw hfit |>.imp fun v L h => by rw [hfit] at h; exact h
  | true =>
    by_cases hv : q.view = 0
    · exact law15_qc_root k s hI c q hn hb hl hw hfit hv |>.imp fun v L h => by rw [hfit] at h; exact h
    · exact law15_qc_many k s hI c q hn hb hl hw hfit hv |>.imp fun v L h => by rw [hfit] at h; exact h

end Go.Proofs.Ytmigjpmadhebfaa
