/- Certificates: is one Ok. -/
import Derived.Test.YtmigjpmadhebfaaCe3
namespace Go.Proofs.Ytmigjpmadhebfaa
open Go Go.Proofs
set_option maxRecDepth 100000
theorem CallsK.ppat {κ σ : Type} {W : World} {P : Program} {f : FuncId} {args : Array Value} {L R1 R2 R : List HProp} {KK : Value → List HProp → Prop} {b b' : Nat} {o o' : Obj} {I : κ → σ → HProp} {key : κ} {s : σ} [t : TakePt L b o R1] [u : TakePt R1 b' o' R2] [w : TakeAt R2 I key s R] (g : CallsK W P f args (pt b o :: pt b' o' :: At I key s :: R) KK) : CallsK W P f args L KK :=
  g.pre fun m H => Den_tail (fun m2 h2 => Den_tail (fun m3 h3 => Den_perm w.perm m3 h3) (Den_perm u.perm m2 h2)) (Den_perm t.perm m H)

theorem qc_clo {W : World} {F : List HProp} [Abs F] (k : WK) (s : WS) (w : Int) (x y : Nat) (d : Int) :
    CallsK W Try.prog 45 #[.int .i64 w, .pointer (some ⟨x, 0, none⟩), .pointer (some ⟨y, 0, none⟩)] (pt x (.cells [.pointer (some ⟨k.p, 0, none⟩)].toArray 30) :: pt y (.cells [.int .i64 d].toArray 3) :: At worldI k s :: F) (fun v L => v = .bool (!decide (w ∈ signers s.S d)) ∧ Lands L (pt x (.cells [.pointer (some ⟨k.p, 0, none⟩)].toArray 30) :: pt y (.cells [.int .i64 d].toArray 3) :: At worldI k s :: F)) := by
  refine CallsK_enter (n := 11) Try.func45 rfl rfl rfl ?_
  refine SC_seq ?_
  refine SC_region ?_
  refine SR_pu (RD_assign rfl) rfl ?_
  refine SR_nil ?_
  refine SN.le (l := [(0, _), (1, _), (2, _)]) ?_ (.cons rfl (.cons rfl (.cons rfl (.nil))))
  refine SN_seq ?_
  refine SC_seq ?_
  refine SC_drawn (.cons 0 true (.cons 2 true (.cons 3 true (.cons 1 false (.cons 4 false (.cons 5 true (.cons 6 true (.nil)))))))) (by kernel_rfl) (by kernel_rfl) ?_
  refine SQ_rd rfl (RD_load Try.isAgg30 rfl) (Has.ce rfl) rfl ?_
  refine SQ_pu rfl (RD_move rfl) rfl ?_
  refine SQ_rd rfl (RD_load Try.isAgg3 rfl) (Has.ce rfl) rfl ?_
  refine SQ_call rfl Try.call22 (.cons rfl (.nil)) (CallsK.at (w_Signs k s)) (lts rfl) ?_
  rintro _ L1 ⟨rfl, hL1⟩
  refine ⟨.lands hL1 (.h (Has.ce rfl) (.w rfl (.nil))), ?_⟩
  refine SQ.lands hL1 ?_
  refine SQ_call rfl Try.call46 (.cons rfl (.cons rfl (.cons rfl (.nil)))) (CallsK.at (w_Has k s w d)) (lts rfl) ?_
  rintro _ L2 ⟨rfl, hL2⟩
  refine ⟨.lands hL2 (.w rfl (.h (Has.ce rfl) (.nil))), ?_⟩
  refine SQ.lands hL2 ?_
  refine SQ_pu rfl (RD_not rfl) rfl ?_
  refine SQ_pu rfl (RD_assign rfl) rfl ?_
  refine SQ_nil ?_
  refine SN.le (l := [(4, _)]) ?_ (.cons rfl (.nil))
  refine SN_seq ?_
  refine SC_ret1 rfl rfl ?_
  exact ⟨rfl, .fin⟩

theorem qc_Index {W : World} {F : List HProp} [Abs F] (k : WK) (s : WS) (x y : Nat) (d : Int) (a : Option Addr) (n c : Nat) (by_ : List Int) {cs : List Value} [HasRow F a cs] (hcs : cs = by_.map intV) (hn : by_.length = n) (hb : n ≤ 100000000) :
    CallsK W Try.prog 71 #[.slice a n c, .func (.func 45) #[] [.pointer (some ⟨x, 0, none⟩), .pointer (some ⟨y, 0, none⟩)].toArray] (pt x (.cells [.pointer (some ⟨k.p, 0, none⟩)].toArray 30) :: pt y (.cells [.int .i64 d].toArray 3) :: At worldI k s :: F) (fun v L => (∃ z : Int, v = .int .i64 z ∧ (0 ≤ z ↔ ∃ w ∈ by_, w ∉ signers s.S d)) ∧ Lands L (pt x (.cells [.pointer (some ⟨k.p, 0, none⟩)].toArray 30) :: pt y (.cells [.int .i64 d].toArray 3) :: At worldI k s :: F)) := by
  refine CallsK_enter (n := 19) Try.func71 rfl rfl rfl ?_
  subst hcs
  refine SC_seq ?_
  refine SC_region ?_
  refine SR_pu (RD_assign rfl) rfl ?_
  refine SR_nil ?_
  refine SN.le (l := [(0, _), (1, _)]) ?_ (.cons rfl (.cons rfl (.nil)))
  refine SN_seq ?_
  refine SC_seq ?_
  refine SC_seq ?_
  refine SC_region ?_
  refine SR_pu (RD_move rfl) rfl ?_
  refine SR_pu (RD_len Try.runUnderlying24 rfl) rfl ?_
  refine SR_pu (RD_move rfl) rfl ?_
  refine SR_nil ?_
  refine SN.le (l := [(0, _), (1, _), (7, _), (8, _)]) ?_ (.cons rfl (.cons rfl (.cons rfl (.cons rfl (.nil)))))
  refine SN_seq ?_
  refine SC_block ?_
  refine SC_ind (X := Nat) (fun i => i ≤ by_.length ∧ ∀ j z, j < i → by_[j]? = some z → z ∈ signers s.S d) (fun i => by_.length - i) (fun i => [(0, .slice a n c), (1, .func (.func 45) #[] [.pointer (some ⟨x, 0, none⟩), .pointer (some ⟨y, 0, none⟩)].toArray), (7, .int .i64 (n : Nat)), (8, .int .i64 (i : Nat))]) (fun i => pt x (.cells [.pointer (some ⟨k.p, 0, none⟩)].toArray 30) :: pt y (.cells [.int .i64 d].toArray 3) :: At worldI k s :: F) (0) (⟨by omega, fun j z hj => by omega⟩) (.cons rfl (.cons rfl (.cons rfl (.cons rfl (.nil))))) (.fin) ?_
  intro i hi ih
  obtain ⟨hi1, hi2⟩ := hi
  refine SC_seq ?_
  refine SC_region ?_
  refine SR_pu (RD_lss rfl rfl) rfl ?_
  refine SR_nil ?_
  refine SN.le (l := [(0, _), (1, _), (7, _), (8, _), (9, _)]) ?_ (.cons rfl (.cons rfl (.cons rfl (.cons rfl (.cons rfl (.nil))))))
  refine SN_seq ?_
  refine SC_seq ?_
  refine SC_cond rfl (fun hc9 => ?_) (fun hc9 => ?_)
  · have hin : i < by_.length := by simp at hc9; omega
    obtain ⟨z, hz⟩ : ∃ z, by_[i]? = some z := ⟨_, List.getElem?_eq_getElem hin⟩
    refine SC_skip ?_
    refine SN_seq ?_
    refine SC_seq ?_
    refine SC_block ?_
    refine SC_seq ?_
    refine SC_region ?_
    refine SR_pu (RD_move rfl) rfl ?_
    refine SR_pu (RD_assign rfl) rfl ?_
    refine SR_nil ?_
    refine SN.le (l := [(0, _), (1, _), (5, _), (7, _), (8, _)]) ?_ (.cons rfl (.cons rfl (.cons rfl (.cons rfl (.cons rfl (.nil))))))
    refine SN_seq ?_
    refine SC_seq ?_
    refine SC_region ?_
    refine SR_pu (RD_move rfl) rfl ?_
    refine SR_pu (RD_move rfl) rfl ?_
    refine SR_pu (RD_move rfl) rfl ?_
    refine SR_rd (RD_ixO Try.runUnderlying24 Try.sizeOf3 rfl rfl (by first | assumption | (simp; done) | (simp; omega)) (by omega) (by omega)) Has.ro rfl ?_
    refine SR_rd (RD_loadO (v := intV z) (cs := by_.map intV) Try.isAgg3 rfl (by simp [hz])) Has.ro rfl ?_
    refine SR_callv rfl Try.call45 (.cons rfl (.nil)) (CallsK.ppat (qc_clo k s z x y d)) (lts rfl) ?_
    rintro _ L1 ⟨rfl, hL1⟩
    refine SR.lands hL1 ?_
    refine SR_nil ?_
    refine SN.le (l := [(0, _), (1, _), (5, _), (7, _), (8, _), (16, _)]) ?_ (.cons rfl (.cons rfl (.cons rfl (.cons rfl (.cons rfl (.cons rfl (.nil)))))))
    refine SN_seq ?_
    refine SC_cond rfl (fun hc16 => ?_) (fun hc16 => ?_)
    · have hnz : z ∉ signers s.S d := by simpa using hc16
      refine SC_seq ?_
      refine SC_region ?_
      refine SR_pu (RD_move rfl) rfl ?_
      refine SR_pu (RD_assign rfl) rfl ?_
      refine SR_nil ?_
      refine SN.le (l := [(4, _)]) ?_ (.cons rfl (.nil))
      refine SN_seq ?_
      refine SC_ret1 rfl rfl ?_
      exact ⟨⟨(i : Nat), rfl, ⟨fun _ => ⟨z, List.mem_of_getElem? hz, hnz⟩, fun _ => by omega⟩⟩, .fin⟩
    · have hzz : z ∈ signers s.S d := by simpa using hc16
      refine SC_skip ?_
      refine SN_block ?_
      refine SN_seq ?_
      refine SC_region ?_
      refine SR_pu (RD_addi rfl rfl (by omega) (by omega)) rfl ?_
      refine SR_pu (RD_move rfl) rfl ?_
      refine SR_nil ?_
      refine SN.le (l := [(0, _), (1, _), (7, _), (8, _)]) ?_ (.cons rfl (.cons rfl (.cons rfl (.cons rfl (.nil)))))
      refine SC_again (ih (i + 1) (⟨by omega, fun j u hj hu => by
        rcases Nat.lt_succ_iff_lt_or_eq.1 hj with h | h
        · exact hi2 j u h hu
        · subst h; rw [hz] at hu; cases hu; exact hzz⟩) (by omega)) (.fin) (.cons rfl (.cons rfl (.cons rfl (.cons' rfl (ie (by omega)) (.nil)))))
  · have hin : i = by_.length := by simp at hc9; omega
    have hall : ∀ z ∈ by_, z ∈ signers s.S d := fun z hz => by
      obtain ⟨j, hj, e⟩ := List.getElem_of_mem hz
      exact hi2 j z (by omega) (by rw [List.getElem?_eq_getElem hj, e])
    refine SC_exit rfl ?_
    refine SN_seq ?_
    refine SC_seq ?_
    refine SC_region ?_
    refine SR_pu (RD_assign rfl) rfl ?_
    refine SR_nil ?_
    refine SN.le (l := [(4, _)]) ?_ (.cons rfl (.nil))
    refine SN_seq ?_
    refine SC_ret1 rfl rfl ?_
    exact ⟨⟨-1, rfl, ⟨fun h => by omega, fun ⟨w, h1, h2⟩ => absurd (hall w h1) h2⟩⟩, .fin⟩

theorem qc_Contains {W : World} {F : List HProp} [Abs F] (k : WK) (s : WS) (x y : Nat) (d : Int) (a : Option Addr) (n c : Nat) (by_ : List Int) {cs : List Value} [HasRow F a cs] (hcs : cs = by_.map intV) (hn : by_.length = n) (hb : n ≤ 100000000) :
    CallsK W Try.prog 44 #[.slice a n c, .func (.func 45) #[] [.pointer (some ⟨x, 0, none⟩), .pointer (some ⟨y, 0, none⟩)].toArray] (pt x (.cells [.pointer (some ⟨k.p, 0, none⟩)].toArray 30) :: pt y (.cells [.int .i64 d].toArray 3) :: At worldI k s :: F) (fun v L => v = .bool (!(by_.all fun w => decide (w ∈ signers s.S d))) ∧ Lands L (pt x (.cells [.pointer (some ⟨k.p, 0, none⟩)].toArray 30) :: pt y (.cells [.int .i64 d].toArray 3) :: At worldI k s :: F)) := by
  refine CallsK_enter (n := 9) Try.func44 rfl rfl rfl ?_
  refine SC_seq ?_
  refine SC_region ?_
  refine SR_pu (RD_assign rfl) rfl ?_
  refine SR_nil ?_
  refine SN.le (l := [(0, _), (1, _)]) ?_ (.cons rfl (.cons rfl (.nil)))
  refine SN_seq ?_
  refine SC_seq ?_
  refine SC_region ?_
  refine SR_pu (RD_move rfl) rfl ?_
  refine SR_pu (RD_move rfl) rfl ?_
  refine SR_call Try.call71 (.cons rfl (.cons rfl (.nil))) (CallsK.ppat (qc_Index k s x y d a n c by_ hcs hn hb)) (lts rfl) ?_
  rintro _ L1 ⟨⟨z, rfl, hz⟩, hL1⟩
  refine SR.lands hL1 ?_
  refine SR_pu (RD_geq rfl rfl) rfl ?_
  refine SR_pu (RD_assign rfl) rfl ?_
  refine SR_nil ?_
  refine SN.le (l := [(4, _)]) ?_ (.cons rfl (.nil))
  refine SN_seq ?_
  refine SC_ret1 rfl rfl ?_
  refine ⟨?_, .fin⟩
  congr 1
  by_cases h : 0 ≤ z
  · have h2 := hz.1 h
    obtain ⟨w, h3, h4⟩ := h2
    have : (by_.all fun w => decide (w ∈ signers s.S d)) = false := by
      rw [List.all_eq_false]; exact ⟨w, h3, by simpa using h4⟩
    rw [this]; simp [h]
  · have h2 : ¬ ∃ w ∈ by_, w ∉ signers s.S d := fun e => h (hz.2 e)
    have : (by_.all fun w => decide (w ∈ signers s.S d)) = true := by
      rw [List.all_eq_true]; intro w hw; exact decide_eq_true (Classical.byContradiction fun e => h2 ⟨w, hw, e⟩)
    rw [this]; simp [h]

theorem cert_QcOk {W : World} {F : List HProp} [Abs F] (k : WK) (s : WS) (c : CfgD) (q : QcD) {cs : List Value} [HasRow F q.by_.a cs] (hcs : cs = q.by_.l.map intV) (hn : q.by_.l.length = q.by_.n) (hb : q.by_.n ≤ 100000000) (hl : s.l.length ≤ 1000000000) (hw : c.n < 9223372036854775808) :
    CallsK W Try.prog 8 #[.pointer (some ⟨k.p, 0, none⟩), c.val, q.val] (At worldI k s :: F) (fun v L => v = .bool (c.qcOk (c.qcL s.l q.view q.block) s.S q.view q.block q.by_.l) ∧ Lands L (At worldI k ⟨c.qcL s.l q.view q.block, s.S⟩ :: F)) := by
  refine CallsK_enter (n := 48) Try.func8 rfl rfl rfl ?_
  subst hcs
  refine SC_seq ?_
  refine SC_region ?_
  refine SR_ox (OX_box rfl rfl) rfl ?_
  rintro _ _ ⟨b3, rfl, rfl⟩
  refine SR_ox (OX_box rfl rfl) rfl ?_
  rintro _ _ ⟨b4, rfl, rfl⟩
  refine SR_ox (OX_box rfl rfl) rfl ?_
  rintro _ _ ⟨b5, rfl, rfl⟩
  refine SR_pu (RD_assign rfl) rfl ?_
  refine SR_nil ?_
  refine SN.le (l := [(3, _), (4, _), (5, _)]) ?_ (.cons rfl (.cons rfl (.cons rfl (.nil))))
  refine SN_seq ?_
  refine SC_seq ?_
  refine SC_seq ?_
  refine SC_region ?_
  first
    | refine SR_pu (RD_fieldAddr0 Try.runUnderlying26 rfl rfl Try.sizeOf3 rfl) rfl ?_
    | refine SR_rd (RD_fieldAddrO 0 Try.runUnderlying26 rfl rfl Try.sizeOf3 rfl (by simp <;> omega)) Has.ro rfl ?_
  refine SR_rd (RD_load Try.isAgg3 rfl) (Has.ce rfl) rfl ?_
  refine SR_pu (RD_lss rfl rfl) rfl ?_
  refine SR_nil ?_
  refine SN.le (l := [(3, _), (4, _), (5, _), (10, _)]) ?_ (.cons rfl (.cons rfl (.cons rfl (.cons rfl (.nil)))))
  refine SN_seq ?_
  refine SC_cond rfl (fun hc10 => ?_) (fun hc10 => ?_)
  · have hv : q.view < 1 := by simpa using hc10
    refine SC_seq ?_
    refine SC_drawn (.cons 0 true (.cons 1 false (.cons 2 true (.cons 3 true (.cons 4 true (.cons 5 true (.cons 6 true (.cons 7 true (.cons 8 true (.cons 9 true (.cons 10 true (.cons 11 false (.cons 12 true (.cons 13 true (.cons 14 true (.cons 15 true (.cons 16 true (.cons 17 true (.cons 18 true (.cons 19 true (.cons 20 true (.nil)))))))))))))))))))))) (by kernel_rfl) (by kernel_rfl) ?_
    refine SQ_rd rfl (RD_loadA Try.isAgg23 Try.sizeOf23 rfl rfl) Has.wh rfl ?_
    refine SQ_call rfl Try.call42 (.cons rfl (.nil)) (cert_Fits c hw) (lts rfl) ?_
    rintro _ L1 ⟨rfl, hL1⟩
    refine ⟨.lands hL1 (.w rfl (.nil)), ?_⟩
    refine SQ.lands hL1 ?_
    refine SQ_pu rfl (RD_move rfl) rfl ?_
    refine SQ_guard (i := 3) rfl rfl rfl (fun hg2_2 => ?_) (fun hg2_2 => ?_)
    · first
        | refine SQ_pyes rfl rfl rfl (hg2_2) (RD_fieldAddr0 Try.runUnderlying26 rfl rfl Try.sizeOf3 rfl) rfl ?_
        | refine SQ_yes rfl rfl rfl (hg2_2) (RD_fieldAddrO 0 Try.runUnderlying26 rfl rfl Try.sizeOf3 rfl (by simp <;> omega)) Has.ro rfl ?_
      refine SQ_yes rfl rfl rfl (hg2_2) (RD_load Try.isAgg3 rfl) (Has.ce rfl) rfl ?_
      refine SQ_pyes rfl rfl rfl (hg2_2) (RD_eql rfl rfl) rfl ?_
      refine SQ_pu rfl (RD_pick_t rfl (hg2_2) rfl) rfl ?_
      refine SQ_pu rfl (RD_move rfl) rfl ?_
      refine SQ_guard (i := 8) rfl rfl rfl (fun hg2_7 => ?_) (fun hg2_7 => ?_)
      · first
          | refine SQ_pyes rfl rfl rfl (hg2_7) (RD_fieldAddr 1 Try.runUnderlying26 rfl rfl Try.sizeOf3 rfl) rfl ?_
          | refine SQ_yes rfl rfl rfl (hg2_7) (RD_fieldAddrO 1 Try.runUnderlying26 rfl rfl Try.sizeOf3 rfl (by simp <;> omega)) Has.ro rfl ?_
        refine SQ_yes rfl rfl rfl (hg2_7) (RD_load Try.isAgg3 rfl) (Has.ce rfl) rfl ?_
        refine SQ_yes rfl rfl rfl (hg2_7) (RD_load Try.isAgg30 rfl) (Has.ce rfl) rfl ?_
        refine SQ_one (SA_call rfl (.mk rfl rfl (hg2_7)) Try.call19 (.cons rfl (.nil)) (CallsK.at (cert_Root k s hl _ _ rfl rfl)) (lts rfl) ?_)
        rintro _ L2 ⟨rfl, hL2⟩
        refine ⟨.lands hL2 (.w rfl (.h (Has.ce rfl) (.h (Has.ce rfl) (.h Has.wh (.nil))))), ?_⟩
        refine SQ.lands hL2 ?_
        refine SQ_pyes rfl rfl rfl (hg2_7) (RD_eql rfl rfl) rfl ?_
        refine SQ_pu rfl (RD_pick_t rfl (hg2_7) rfl) rfl ?_
        refine SQ_pu rfl (RD_move rfl) rfl ?_
        refine SQ_guard (i := 15) rfl rfl rfl (fun hg2_14 => ?_) (fun hg2_14 => ?_)
        · first
            | refine SQ_pyes rfl rfl rfl (hg2_14) (RD_fieldAddr 2 Try.runUnderlying26 rfl rfl Try.sizeOf24 rfl) rfl ?_
            | refine SQ_yes rfl rfl rfl (hg2_14) (RD_fieldAddrO 2 Try.runUnderlying26 rfl rfl Try.sizeOf24 rfl (by simp <;> omega)) Has.ro rfl ?_
          refine SQ_yes rfl rfl rfl (hg2_14) (RD_load Try.isAgg24 rfl) (Has.ce rfl) rfl ?_
          refine SQ_pyes rfl rfl rfl (hg2_14) (RD_len Try.runUnderlying24 rfl) rfl ?_
          refine SQ_pyes rfl rfl rfl (hg2_14) (RD_eql rfl rfl) rfl ?_
          refine SQ_pu rfl (RD_pick_t rfl (hg2_14) rfl) rfl ?_
          refine SQ_pu rfl (RD_assign rfl) rfl ?_
          refine SQ_nil ?_
          refine SN.le (l := [(6, _)]) ?_ (.cons rfl (.nil))
          refine SN_seq ?_
          refine SC_ret1 rfl rfl ?_
          rw [show c.qcL s.l q.view q.block = (if c.fits && decide (q.view = 0) then dput s.l rootB else s.l) from if_pos hv]
          unfold CfgD.qcOk
          rw [if_pos hv]
          first
            | (rw [hg2_2, hg2_7]; simp only [Bool.not_true, Bool.and_true, Bool.true_and, Bool.and_false, Bool.false_and, if_true, if_false, Bool.false_eq_true, Bool.and_self]; exact ⟨by rw [hg2_14]; simp [hn], .fin⟩)
            | (rw [hg2_2, hg2_7]; simp only [Bool.not_true, Bool.and_true, Bool.true_and, Bool.and_false, Bool.false_and, if_true, if_false, Bool.false_eq_true, Bool.and_self]; exact ⟨by first | rfl | simp, .fin⟩)
            | (rw [hg2_2]; simp only [Bool.not_true, Bool.and_true, Bool.true_and, Bool.and_false, Bool.false_and, if_true, if_false, Bool.false_eq_true, Bool.and_self]; exact ⟨by first | rfl | simp, .fin⟩)
        · refine SQ_no rfl rfl rfl (hg2_14) (lts rfl) ?_
          refine SQ_no rfl rfl rfl (hg2_14) (lts rfl) ?_
          refine SQ_no rfl rfl rfl (hg2_14) (lts rfl) ?_
          refine SQ_no rfl rfl rfl (hg2_14) (lts rfl) ?_
          refine SQ_pu rfl (RD_pick_f rfl (hg2_14) rfl) rfl ?_
          refine SQ_pu rfl (RD_assign rfl) rfl ?_
          refine SQ_nil ?_
          refine SN.le (l := [(6, _)]) ?_ (.cons rfl (.nil))
          refine SN_seq ?_
          refine SC_ret1 rfl rfl ?_
          rw [show c.qcL s.l q.view q.block = (if c.fits && decide (q.view = 0) then dput s.l rootB else s.l) from if_pos hv]
          unfold CfgD.qcOk
          rw [if_pos hv]
          first
            | (rw [hg2_2, hg2_7]; simp only [Bool.not_true, Bool.and_true, Bool.true_and, Bool.and_false, Bool.false_and, if_true, if_false, Bool.false_eq_true, Bool.and_self]; exact ⟨by rw [hg2_14]; simp [hn], .fin⟩)
            | (rw [hg2_2, hg2_7]; simp only [Bool.not_true, Bool.and_true, Bool.true_and, Bool.and_false, Bool.false_and, if_true, if_false, Bool.false_eq_true, Bool.and_self]; exact ⟨by first | rfl | simp, .fin⟩)
            | (rw [hg2_2]; simp only [Bool.not_true, Bool.and_true, Bool.true_and, Bool.and_false, Bool.false_and, if_true, if_false, Bool.false_eq_true, Bool.and_self]; exact ⟨by first | rfl | simp, .fin⟩)
      · refine SQ_no rfl rfl rfl (hg2_7) (lts rfl) ?_
        refine SQ_no rfl rfl rfl (hg2_7) (lts rfl) ?_
        refine SQ_no rfl rfl rfl (hg2_7) (lts rfl) ?_
        refine SQ_no1 rfl rfl rfl (hg2_7) (lts rfl) ?_
        refine SQ_no rfl rfl rfl (hg2_7) (lts rfl) ?_
        refine SQ_pu rfl (RD_pick_f rfl (hg2_7) rfl) rfl ?_
        refine SQ_pu rfl (RD_move rfl) rfl ?_
        refine SQ_no rfl rfl rfl (rfl) (lts rfl) ?_
        refine SQ_no rfl rfl rfl (rfl) (lts rfl) ?_
        refine SQ_no rfl rfl rfl (rfl) (lts rfl) ?_
        refine SQ_no rfl rfl rfl (rfl) (lts rfl) ?_
        refine SQ_pu rfl (RD_pick_f rfl (rfl) rfl) rfl ?_
        refine SQ_pu rfl (RD_assign rfl) rfl ?_
        refine SQ_nil ?_
        refine SN.le (l := [(6, _)]) ?_ (.cons rfl (.nil))
        refine SN_seq ?_
        refine SC_ret1 rfl rfl ?_
        rw [show c.qcL s.l q.view q.block = (if c.fits && decide (q.view = 0) then dput s.l rootB else s.l) from if_pos hv]
        unfold CfgD.qcOk
        rw [if_pos hv]
        first
          | (rw [hg2_2, hg2_7]; simp only [Bool.not_true, Bool.and_true, Bool.true_and, Bool.and_false, Bool.false_and, if_true, if_false, Bool.false_eq_true, Bool.and_self]; exact ⟨by rw [hg2_14]; simp [hn], .fin⟩)
          | (rw [hg2_2, hg2_7]; simp only [Bool.not_true, Bool.and_true, Bool.true_and, Bool.and_false, Bool.false_and, if_true, if_false, Bool.false_eq_true, Bool.and_self]; exact ⟨by first | rfl | simp, .fin⟩)
          | (rw [hg2_2]; simp only [Bool.not_true, Bool.and_true, Bool.true_and, Bool.and_false, Bool.false_and, if_true, if_false, Bool.false_eq_true, Bool.and_self]; exact ⟨by first | rfl | simp, .fin⟩)
    · refine SQ_no rfl rfl rfl (hg2_2) (lts rfl) ?_
      refine SQ_no rfl rfl rfl (hg2_2) (lts rfl) ?_
      refine SQ_no rfl rfl rfl (hg2_2) (lts rfl) ?_
      refine SQ_pu rfl (RD_pick_f rfl (hg2_2) rfl) rfl ?_
      refine SQ_pu rfl (RD_move rfl) rfl ?_
      refine SQ_no rfl rfl rfl (rfl) (lts rfl) ?_
      refine SQ_no rfl rfl rfl (rfl) (lts rfl) ?_
      refine SQ_no rfl rfl rfl (rfl) (lts rfl) ?_
      refine SQ_no1 rfl rfl rfl (rfl) (lts rfl) ?_
      refine SQ_no rfl rfl rfl (rfl) (lts rfl) ?_
      refine SQ_pu rfl (RD_pick_f rfl (rfl) rfl) rfl ?_
      refine SQ_pu rfl (RD_move rfl) rfl ?_
      refine SQ_no rfl rfl rfl (rfl) (lts rfl) ?_
      refine SQ_no rfl rfl rfl (rfl) (lts rfl) ?_
      refine SQ_no rfl rfl rfl (rfl) (lts rfl) ?_
      refine SQ_no rfl rfl rfl (rfl) (lts rfl) ?_
      refine SQ_pu rfl (RD_pick_f rfl (rfl) rfl) rfl ?_
      refine SQ_pu rfl (RD_assign rfl) rfl ?_
      refine SQ_nil ?_
      refine SN.le (l := [(6, _)]) ?_ (.cons rfl (.nil))
      refine SN_seq ?_
      refine SC_ret1 rfl rfl ?_
      rw [show c.qcL s.l q.view q.block = (if c.fits && decide (q.view = 0) then dput s.l rootB else s.l) from if_pos hv]
      unfold CfgD.qcOk
      rw [if_pos hv]
      first
        | (rw [hg2_2, hg2_7]; simp only [Bool.not_true, Bool.and_true, Bool.true_and, Bool.and_false, Bool.false_and, if_true, if_false, Bool.false_eq_true, Bool.and_self]; exact ⟨by rw [hg2_14]; simp [hn], .fin⟩)
        | (rw [hg2_2, hg2_7]; simp only [Bool.not_true, Bool.and_true, Bool.true_and, Bool.and_false, Bool.false_and, if_true, if_false, Bool.false_eq_true, Bool.and_self]; exact ⟨by first | rfl | simp, .fin⟩)
        | (rw [hg2_2]; simp only [Bool.not_true, Bool.and_true, Bool.true_and, Bool.and_false, Bool.false_and, if_true, if_false, Bool.false_eq_true, Bool.and_self]; exact ⟨by first | rfl | simp, .fin⟩)
  · have hv : ¬ q.view < 1 := by simpa using hc10
    refine SC_skip ?_
    refine SN_seq ?_
    refine SC_seq ?_
    refine SC_region ?_
    refine SR_rd (RD_load Try.isAgg30 rfl) (Has.ce rfl) rfl ?_
    first
      | refine SR_pu (RD_fieldAddr0 Try.runUnderlying26 rfl rfl Try.sizeOf3 rfl) rfl ?_
      | refine SR_rd (RD_fieldAddrO 0 Try.runUnderlying26 rfl rfl Try.sizeOf3 rfl (by simp <;> omega)) Has.ro rfl ?_
    refine SR_rd (RD_load Try.isAgg3 rfl) (Has.ce rfl) rfl ?_
    first
      | refine SR_pu (RD_fieldAddr 1 Try.runUnderlying26 rfl rfl Try.sizeOf3 rfl) rfl ?_
      | refine SR_rd (RD_fieldAddrO 1 Try.runUnderlying26 rfl rfl Try.sizeOf3 rfl (by simp <;> omega)) Has.ro rfl ?_
    refine SR_rd (RD_load Try.isAgg3 rfl) (Has.ce rfl) rfl ?_
    refine SR_call Try.call13 (.cons rfl (.cons rfl (.cons rfl (.nil)))) (CallsK.at (cert_Vote k s q.view q.block hl _ _ rfl rfl)) (lts rfl) ?_
    rintro _ L3 ⟨rfl, hL3⟩
    refine SR.lands hL3 ?_
    refine SR_ox (OX_alloc Try.zeroValue3 rfl) rfl ?_
    rintro _ _ ⟨b7, rfl, rfl⟩
    refine SR_ox0 (OX_st Try.sizeOf3 rfl rfl) ?_
    rintro _ _ rfl
    refine SR_nil ?_
    refine SN.le (l := [(3, _), (4, _), (5, _), (7, _)]) ?_ (.cons rfl (.cons rfl (.cons rfl (.cons rfl (.nil)))))
    refine SN_seq ?_
    refine SC_seq ?_
    refine SC_region ?_
    refine SR_rd (RD_loadA Try.isAgg23 Try.sizeOf23 rfl rfl) Has.wh rfl ?_
    first
      | refine SR_pu (RD_fieldAddr 2 Try.runUnderlying26 rfl rfl Try.sizeOf24 rfl) rfl ?_
      | refine SR_rd (RD_fieldAddrO 2 Try.runUnderlying26 rfl rfl Try.sizeOf24 rfl (by simp <;> omega)) Has.ro rfl ?_
    refine SR_rd (RD_load Try.isAgg24 rfl) (Has.ce rfl) rfl ?_
    refine SR_call Try.call43 (.cons rfl (.cons rfl (.nil))) (cert_many c q.by_.a q.by_.n q.by_.c q.by_.l rfl hn hb hw) (lts rfl) ?_
    rintro _ L4 ⟨rfl, hL4⟩
    refine SR.lands hL4 ?_
    refine SR_pu (RD_move rfl) rfl ?_
    refine SR_guard rfl rfl (fun hg4_4 => ?_) (fun hg4_4 => ?_)
    · refine SR_yes rfl rfl (hg4_4) ?_
      first
        | refine SR_pu (RD_fieldAddr 2 Try.runUnderlying26 rfl rfl Try.sizeOf24 rfl) rfl ?_
        | refine SR_rd (RD_fieldAddrO 2 Try.runUnderlying26 rfl rfl Try.sizeOf24 rfl (by simp <;> omega)) Has.ro rfl ?_
      refine SR_yes rfl rfl (hg4_4) ?_
      refine SR_rd (RD_load Try.isAgg24 rfl) (Has.ce rfl) rfl ?_
      refine SR_yes rfl rfl (hg4_4) ?_
      refine SR_pu (RD_makeFunc (.cons rfl (.cons rfl (.nil)))) rfl ?_
      refine SR_yes rfl rfl (hg4_4) ?_
      refine SR_call Try.call44 (.cons rfl (.cons rfl (.nil))) (CallsK.ppat (qc_Contains k _ _ _ _ q.by_.a q.by_.n q.by_.c q.by_.l rfl hn hb)) (lts rfl) ?_
      rintro _ L5 ⟨rfl, hL5⟩
      refine SR.lands hL5 ?_
      refine SR_yes rfl rfl (hg4_4) ?_
      refine SR_pu (RD_not rfl) rfl ?_
      refine SR_pu (RD_pick_t rfl (hg4_4) rfl) rfl ?_
      refine SR_pu (RD_assign rfl) rfl ?_
      refine SR_nil ?_
      refine SN.le (l := [(6, _)]) ?_ (.cons rfl (.nil))
      refine SN_seq ?_
      refine SC_ret1 rfl rfl ?_
      rw [show c.qcL s.l q.view q.block = dput s.l (voteB q.view q.block) from if_neg hv]
      unfold CfgD.qcOk
      rw [if_neg hv, hg4_4]
      refine ⟨?_, .fin⟩
      first | (simp; done) | (rw [Bool.not_not, Bool.true_and]; exact congrArg Value.bool (congrArg (List.all q.by_.l) (funext fun w => decide_eq_decide.2 Iff.rfl)))
    · refine SR_no rfl rfl (hg4_4) (lts rfl) ?_
      refine SR_no rfl rfl (hg4_4) (lts rfl) ?_
      refine SR_no rfl rfl (hg4_4) (lts rfl) ?_
      refine SR_no rfl rfl (hg4_4) (lts rfl) ?_
      refine SR_no rfl rfl (hg4_4) (lts rfl) ?_
      refine SR_pu (RD_pick_f rfl (hg4_4) rfl) rfl ?_
      refine SR_pu (RD_assign rfl) rfl ?_
      refine SR_nil ?_
      refine SN.le (l := [(6, _)]) ?_ (.cons rfl (.nil))
      refine SN_seq ?_
      refine SC_ret1 rfl rfl ?_
      rw [show c.qcL s.l q.view q.block = dput s.l (voteB q.view q.block) from if_neg hv]
      unfold CfgD.qcOk
      rw [if_neg hv, hg4_4]
      refine ⟨?_, .fin⟩
      first | (simp; done) | (rw [Bool.not_not, Bool.true_and]; exact congrArg Value.bool (congrArg (List.all q.by_.l) (funext fun w => decide_eq_decide.2 Iff.rfl)))

end Go.Proofs.Ytmigjpmadhebfaa
