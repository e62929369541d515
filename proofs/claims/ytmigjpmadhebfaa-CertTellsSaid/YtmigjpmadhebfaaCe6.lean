/- Certificates: what the document fixes. -/
import Derived.Test.YtmigjpmadhebfaaCe5
namespace Go.Proofs.Ytmigjpmadhebfaa
open Go Go.Proofs
set_option maxRecDepth 100000
theorem qcOk_ext {c : CfgD} {l l' : List (List UInt8)} {S : List (Int × List Int)} (h : Inv l S) (e : Ext l l') {view block : Int} (hv : 1 ≤ view) {by_ : List Int} : c.qcOk l' S view block by_ = c.qcOk l S view block by_ := by
  unfold CfgD.qcOk
  rw [if_neg (by omega), if_neg (by omega), sg_ext h e]
theorem tcOk_ext {c : CfgD} {l l' : List (List UInt8)} {S : List (Int × List Int)} (h : Inv l S) (e : Ext l l') {t : TcD} (hv : 1 ≤ t.high.view) : c.tcOk l' S t = c.tcOk l S t := by
  unfold CfgD.tcOk
  rw [qcOk_ext h e hv, decide_eq_decide.2 (tcA_ext h e)]
def awSg : Nat → List (Int × List Int)
  | 0 => []
  | 1 => [(1, [0]), (2, [0])]
  | 2 => [(1, [0, 1]), (2, [0, 1])]
  | _ => [(1, [0, 1, 2]), (2, [0, 1, 2])]
def awAr : Nat → List (List UInt8)
  | 0 => []
  | _ => [voteB 2 9, outB 3 2]
theorem aw1 : ∀ i, i < 3 → dnum (dput (awAr i) (voteB 2 9)) (voteB 2 9) = 1 := by decide +kernel
theorem aw2 : ∀ i, i < 3 → dnum (dput (dput (awAr i) (voteB 2 9)) (outB 3 2)) (outB 3 2) = 2 := by decide +kernel
theorem aw3 : ∀ i, i < 3 → dput (dput (awAr i) (voteB 2 9)) (outB 3 2) = awAr (i + 1) := by decide +kernel
theorem aw4 : ∀ i, i < 3 → addTo (addTo (awSg i) (i : Int) ((1 : Nat) : Int)) (i : Int) ((2 : Nat) : Int) = awSg (i + 1) := by decide +kernel
theorem cert_QcOk' {W : World} {F : List HProp} [Abs F] (k : WK) (s : WS) (c : CfgD) (q : QcD) {cs : List Value} [HasRow F q.by_.a cs] (hcs : cs = q.by_.l.map intV) (hn : q.by_.l.length = q.by_.n) (hb : q.by_.n ≤ 100000000) (hl : s.l.length ≤ 1000000000) (hw : c.n < 9223372036854775808) (l' : List (List UInt8)) (v : Bool) (h1 : c.qcL s.l q.view q.block = l') (h2 : c.qcOk l' s.S q.view q.block q.by_.l = v) :
    CallsK W Try.prog 8 #[.pointer (some ⟨k.p, 0, none⟩), c.val, q.val] (At worldI k s :: F) (fun u L => u = .bool v ∧ Lands L (At worldI k ⟨l', s.S⟩ :: F)) := by
  subst h1; subst h2
  exact cert_QcOk k s c q hcs hn hb hl hw
theorem cert_TcOk' {W : World} {F : List HProp} [Abs F] (k : WK) (s : WS) (hI : Inv s.l s.S) (c : CfgD) (t : TcD) {cs ds es : List Value} [HasRow F t.by_.a cs] [HasRow F t.highs.a ds] [HasRow F t.high.by_.a es] (hcs : cs = t.by_.l.map intV) (hds : ds = t.highs.l.map intV) (hes : es = t.high.by_.l.map intV) (hn : t.by_.l.length = t.by_.n) (hm : t.highs.l.length = t.highs.n) (hh : t.high.by_.l.length = t.high.by_.n) (hb : t.by_.n ≤ 1000000) (hbm : t.highs.n ≤ 1000000) (hbh : t.high.by_.n ≤ 1000000) (hl : s.l.length ≤ 900000000) (hw : c.n < 9223372036854775808)
    (v : Bool) (h1 : 1 ≤ t.high.view) (h2 : c.tcOk s.l s.S t = v) :
    CallsK W Try.prog 10 #[.pointer (some ⟨k.p, 0, none⟩), c.val, t.val] (At worldI k s :: F) (fun u L => u = .bool v ∧ ∃ l', Ext s.l l' ∧ l'.length ≤ s.l.length + t.highs.n + 1 ∧ Lands L (At worldI k ⟨l', s.S⟩ :: F)) := by
  refine CallsK.imp (cert_TcOk k s hI c t hcs hds hes hn hm hh hb hbm hbh hl hw) ?_
  rintro _ _ ⟨l', he, hlen, _, rfl, hL⟩
  exact ⟨by rw [tcOk_ext hI he h1, h2], l', he, hlen, hL⟩

def awC : CfgD := ⟨1, 4, 0, 0, 0, 0, 0, 0⟩
def awA : List (List UInt8) := [voteB 2 9, outB 3 2, rootB]
theorem awInv : Inv awA (awSg 3) := fun k hk => by
  have hl : awA.length = 3 := rfl
  by_cases h1 : k = 1
  · omega
  · by_cases h2 : k = 2
    · omega
    · exact absurd (by simp [awSg, signers, h1, h2]) hk

theorem cert_awake {W : World} {F : List HProp} [Abs F] :
    CallsK W Try.prog 6 #[] (F) (fun v L => v = .bool true ∧ Lands L F) := by
  refine CallsK_enter (n := 91) Try.func6 rfl rfl rfl ?_
  refine SC_seq ?_
  refine SC_region ?_
  refine SR_pu (RD_assign rfl) rfl ?_
  refine SR_nil ?_
  refine SN.le (l := []) ?_ (.nil)
  refine SN_seq ?_
  refine SC_seq ?_
  refine SC_region ?_
  refine SR_call Try.call7 (.cons rfl (.nil)) (enve_New 1) (lts rfl) ?_
  rintro _ L0 ⟨k, rfl, hL0⟩
  refine SR.lands hL0 ?_
  refine SR_pu (RD_assign rfl) rfl ?_
  refine SR_nil ?_
  refine SN.le (l := [(1, _)]) ?_ (.cons rfl (.nil))
  refine SN_seq ?_
  refine SC_seq ?_
  refine SC_region ?_
  refine SR_pu (RD_build (.cons rfl (.cons rfl (.nil))) built23_0_1) rfl ?_
  refine SR_ox (OX_alloc Try.zeroValue23 rfl) rfl ?_
  rintro _ _ ⟨b2, rfl, rfl⟩
  refine SR_ox0 (OX_stA Try.sizeOf23 rfl rfl rfl rfl) ?_
  rintro _ _ rfl
  refine SR_nil ?_
  refine SN.le (l := [(1, _), (2, _)]) ?_ (.cons rfl (.cons rfl (.nil)))
  refine SN_seq ?_
  refine SC_seq ?_
  refine SC_seq ?_
  refine SC_region ?_
  refine SR_pu (RD_move rfl) rfl ?_
  refine SR_pu (RD_eqlP Try.underlying30 rfl rfl) rfl ?_
  refine SR_nil ?_
  refine SN.le (l := [(1, _), (2, _), (10, _)]) ?_ (.cons rfl (.cons rfl (.cons rfl (.nil))))
  refine SN_seq ?_
  refine SC_cond_false rfl (rfl) ?_
  refine SC_skip ?_
  refine SN_seq ?_
  refine SC_seq ?_
  refine SC_seq ?_
  refine SC_region ?_
  refine SR_pu (RD_assign rfl) rfl ?_
  refine SR_nil ?_
  refine SN.le (l := [(1, _), (2, _), (3, _)]) ?_ (.cons rfl (.cons rfl (.cons rfl (.nil))))
  refine SN_seq ?_
  refine SC_block ?_
  refine SC_ind (X := Nat) (fun i => i ≤ 3) (fun i => 3 - i) (fun i => [(1, .pointer (some ⟨k.p, 0, none⟩)), (2, .pointer (some ⟨b2, 0, none⟩)), (3, .int .i64 (i : Nat))]) (fun i => At worldI k ⟨awAr i, awSg i⟩ :: pt b2 (.cells [.int .i64 1, .int .i64 4, .int .i64 0, .int .i64 0, .int .i64 0, .int .i64 0, .int .i64 0, .int .i64 0].toArray 23) :: F) (0) (by decide) (.cons rfl (.cons rfl (.cons rfl (.nil)))) ((show Lands _ (At worldI k ⟨[], []⟩ :: pt b2 (.cells [.int .i64 1, .int .i64 4, .int .i64 0, .int .i64 0, .int .i64 0, .int .i64 0, .int .i64 0, .int .i64 0].toArray 23) :: F) from .fin)) ?_
  intro i hi ih
  refine SC_seq ?_
  refine SC_seq ?_
  refine SC_region ?_
  refine SR_pu (RD_move rfl) rfl ?_
  refine SR_pu (RD_lss rfl rfl) rfl ?_
  refine SR_nil ?_
  refine SN.le (l := [(1, _), (2, _), (3, _), (12, _)]) ?_ (.cons rfl (.cons rfl (.cons rfl (.cons rfl (.nil)))))
  refine SN_seq ?_
  refine SC_cond rfl (fun hc12 => ?_) (fun hc12 => ?_)
  · have hin : i < 3 := by simp at hc12; omega
    refine SC_skip ?_
    refine SN_seq ?_
    refine SC_seq ?_
    refine SC_block ?_
    refine SC_seq ?_
    refine SC_region ?_
    refine SR_pu (RD_move rfl) rfl ?_
    refine SR_call Try.call22 (.cons rfl (.nil)) (CallsK.at (w_Signs k _)) (lts rfl) ?_
    rintro _ L1 ⟨rfl, hL1⟩
    refine SR.lands hL1 ?_
    refine SR_pu (RD_move rfl) rfl ?_
    refine SR_pu (RD_move rfl) rfl ?_
    refine SR_call Try.call13 (.cons rfl (.cons rfl (.cons rfl (.nil)))) (CallsK.at (cert_Vote k ⟨awAr i, awSg i⟩ 2 9 (by dsimp only; rcases i with _ | i <;> simp [awAr]) _ 1 rfl (aw1 i hin))) (lts rfl) ?_
    rintro _ L2 ⟨rfl, hL2⟩
    try dsimp only at hL2
    refine SR.lands hL2 ?_
    refine SR_call Try.call23 (.cons rfl (.cons rfl (.cons rfl (.nil)))) (CallsK.at (w_Sign k _ (i : Int) _)) (lts rfl) ?_
    rintro _ L4 ⟨rfl, hL4⟩
    try dsimp only at hL4
    refine SR.lands hL4 ?_
    refine SR_nil ?_
    refine SN.le (l := [(1, _), (2, _), (3, _)]) ?_ (.cons rfl (.cons rfl (.cons rfl (.nil))))
    refine SN_seq ?_
    refine SC_region ?_
    refine SR_pu (RD_move rfl) rfl ?_
    refine SR_call Try.call22 (.cons rfl (.nil)) (CallsK.at (w_Signs k _)) (lts rfl) ?_
    rintro _ L1 ⟨rfl, hL1⟩
    refine SR.lands hL1 ?_
    refine SR_pu (RD_move rfl) rfl ?_
    refine SR_pu (RD_move rfl) rfl ?_
    refine SR_call Try.call17 (.cons rfl (.cons rfl (.cons rfl (.nil)))) (CallsK.at (cert_Out k ⟨dput (awAr i) (voteB 2 9), addTo (awSg i) (i : Int) ((1 : Nat) : Int)⟩ 3 2 (by have := dput_len (awAr i) (voteB 2 9); dsimp only; rcases i with _ | i <;> simp [awAr] at this ⊢ <;> omega) _ 2 rfl (aw2 i hin))) (lts rfl) ?_
    rintro _ L3 ⟨rfl, hL3⟩
    try dsimp only at hL3
    refine SR.lands hL3 ?_
    refine SR_call Try.call23 (.cons rfl (.cons rfl (.cons rfl (.nil)))) (CallsK.at (w_Sign k _ (i : Int) _)) (lts rfl) ?_
    rintro _ L4 ⟨rfl, hL4⟩
    try dsimp only at hL4
    refine SR.lands hL4 ?_
    refine SR_nil ?_
    refine SN.le (l := [(1, _), (2, _), (3, _)]) ?_ (.cons rfl (.cons rfl (.cons rfl (.nil))))
    refine SN_block ?_
    refine SN_seq ?_
    refine SC_region ?_
    refine SR_pu (RD_move rfl) rfl ?_
    refine SR_pu (RD_addi rfl rfl (by omega) (by omega)) rfl ?_
    refine SR_pu (RD_assign rfl) rfl ?_
    refine SR_nil ?_
    refine SN.le (l := [(1, _), (2, _), (3, _)]) ?_ (.cons rfl (.cons rfl (.cons rfl (.nil))))
    refine SC_again (ih (i + 1) (by omega) (by omega)) (by rw [← aw3 i hin, ← aw4 i hin]; exact .fin) (.cons rfl (.cons rfl (.cons' rfl (ie (by omega)) (.nil))))
  · have hin : i = 3 := by simp at hc12; omega
    subst hin
    refine SC_exit rfl ?_
    refine SN_seq ?_
    refine SC_seq ?_
    refine SC_region ?_
    refine SR_ox (OX_lit1 Try.underlying24 Try.type3 rfl rfl rfl rfl (.cons rfl (.cons rfl (.cons rfl (.nil)))) (.cons rfl (.cons rfl (.cons rfl (.nil))))) rfl ?_
    rintro _ _ ⟨b27, rfl, rfl⟩
    refine SR_pu (RD_build (.cons rfl (.cons rfl (.cons rfl (.nil)))) built26_0_1_2) rfl ?_
    refine SR_ox (OX_alloc Try.zeroValue26 rfl) rfl ?_
    rintro _ _ ⟨b4, rfl, rfl⟩
    refine SR_ox0 (OX_stA Try.sizeOf26 rfl rfl rfl rfl) ?_
    rintro _ _ rfl
    refine SR_nil ?_
    refine SN.le (l := [(1, _), (2, _), (4, _)]) ?_ (.cons rfl (.cons rfl (.cons rfl (.nil))))
    refine SN_seq ?_
    refine SC_seq ?_
    refine SC_region ?_
    refine SR_pu (RD_move rfl) rfl ?_
    refine SR_call Try.call19 (.cons rfl (.nil)) (CallsK.at (cert_Root k ⟨awAr 3, awSg 3⟩ (by decide) awA 3 (by decide +kernel) (by decide +kernel))) (lts rfl) ?_
    rintro _ L5 ⟨rfl, hL5⟩
    try dsimp only at hL5
    refine SR.lands hL5 ?_
    refine SR_pu (RD_build (.cons rfl (.nil)) built26_1) rfl ?_
    refine SR_ox (OX_alloc Try.zeroValue26 rfl) rfl ?_
    rintro _ _ ⟨b5, rfl, rfl⟩
    refine SR_ox0 (OX_stA Try.sizeOf26 rfl rfl rfl rfl) ?_
    rintro _ _ rfl
    refine SR_nil ?_
    refine SN.le (l := [(1, _), (2, _), (4, _), (5, _)]) ?_ (.cons rfl (.cons rfl (.cons rfl (.cons rfl (.nil)))))
    refine SN_seq ?_
    refine SC_seq ?_
    refine SC_region ?_
    refine SR_ox (OX_lit1 Try.underlying24 Try.type3 rfl rfl rfl rfl (.cons rfl (.cons rfl (.cons rfl (.nil)))) (.cons rfl (.cons rfl (.cons rfl (.nil))))) rfl ?_
    rintro _ _ ⟨b32, rfl, rfl⟩
    refine SR_ox (OX_lit1 Try.underlying24 Try.type3 rfl rfl rfl rfl (.cons rfl (.cons rfl (.cons rfl (.nil)))) (.cons rfl (.cons rfl (.cons rfl (.nil))))) rfl ?_
    rintro _ _ ⟨b33, rfl, rfl⟩
    refine SR_rd (RD_loadA Try.isAgg26 Try.sizeOf26 rfl rfl) Has.wh rfl ?_
    refine SR_pu (RD_build (.cons rfl (.cons rfl (.cons rfl (.cons rfl (.nil))))) built28_0_1_2_3) rfl ?_
    refine SR_ox (OX_alloc Try.zeroValue28 rfl) rfl ?_
    rintro _ _ ⟨b6, rfl, rfl⟩
    refine SR_ox0 (OX_stA Try.sizeOf28 rfl rfl rfl rfl) ?_
    rintro _ _ rfl
    refine SR_nil ?_
    refine SN.le (l := [(1, _), (2, _), (4, _), (5, _), (6, _)]) ?_ (.cons rfl (.cons rfl (.cons rfl (.cons rfl (.cons rfl (.nil))))))
    refine SN_seq ?_
    refine SC_seq ?_
    refine SC_region ?_
    refine SR_rd (RD_loadA Try.isAgg23 Try.sizeOf23 rfl rfl) Has.wh rfl ?_
    refine SR_call Try.call12 (.cons rfl (.nil)) (cert_Quorum ⟨1, 4, 0, 0, 0, 0, 0, 0⟩) (lts rfl) ?_
    rintro _ L6 ⟨rfl, hL6⟩
    refine SR.lands hL6 ?_
    refine SR_pu (RD_eql rfl rfl) rfl ?_
    refine SR_pu (RD_move rfl) rfl ?_
    refine SR_yes rfl rfl (by decide +kernel) ?_
    refine SR_pu (RD_move rfl) rfl ?_
    refine SR_yes rfl rfl (by decide +kernel) ?_
    refine SR_rd (RD_loadA Try.isAgg23 Try.sizeOf23 rfl rfl) Has.wh rfl ?_
    refine SR_yes rfl rfl (by decide +kernel) ?_
    refine SR_rd (RD_loadA Try.isAgg26 Try.sizeOf26 rfl rfl) Has.wh rfl ?_
    refine SR_yes rfl rfl (by decide +kernel) ?_
    refine SR_call Try.call8 (.cons rfl (.cons rfl (.cons rfl (.nil)))) (CallsK.at (cert_QcOk' k ⟨awA, (awSg 3)⟩ ⟨1, 4, 0, 0, 0, 0, 0, 0⟩ ⟨2, 9, ⟨some ⟨b27, 0, none⟩, 3, 3, [0, 1, 2]⟩⟩ rfl rfl (by simp) (by decide) (by decide) awA true (show CfgD.qcL ⟨1, 4, 0, 0, 0, 0, 0, 0⟩ awA 2 9 = awA from by decide +kernel) (show CfgD.qcOk ⟨1, 4, 0, 0, 0, 0, 0, 0⟩ awA (awSg 3) 2 9 [0, 1, 2] = true from by decide +kernel))) (lts rfl) ?_
    rintro _ L21 ⟨rfl, hL21⟩
    try dsimp only at hL21
    refine SR.lands hL21 ?_
    refine SR_pu (RD_pick_t rfl (by decide +kernel) rfl) rfl ?_
    refine SR_pu (RD_move rfl) rfl ?_
    refine SR_yes rfl rfl (by first | rfl | exact decide_eq_true (by omega) | exact decide_eq_false (by omega) | decide | (simp; done) | (simp; omega)) ?_
    refine SR_pu (RD_move rfl) rfl ?_
    refine SR_yes rfl rfl (by first | rfl | exact decide_eq_true (by omega) | exact decide_eq_false (by omega) | decide | (simp; done) | (simp; omega)) ?_
    refine SR_rd (RD_loadA Try.isAgg23 Try.sizeOf23 rfl rfl) Has.wh rfl ?_
    refine SR_yes rfl rfl (by first | rfl | exact decide_eq_true (by omega) | exact decide_eq_false (by omega) | decide | (simp; done) | (simp; omega)) ?_
    refine SR_rd (RD_loadA Try.isAgg26 Try.sizeOf26 rfl rfl) Has.wh rfl ?_
    refine SR_yes rfl rfl (by first | rfl | exact decide_eq_true (by omega) | exact decide_eq_false (by omega) | decide | (simp; done) | (simp; omega)) ?_
    refine SR_call Try.call8 (.cons rfl (.cons rfl (.cons rfl (.nil)))) (CallsK.at (cert_QcOk' k ⟨awA, (awSg 3)⟩ ⟨1, 4, 0, 0, 0, 0, 0, 0⟩ ⟨0, 3, ⟨none, 0, 0, []⟩⟩ rfl rfl (by simp) (by decide) (by decide) awA true (show CfgD.qcL ⟨1, 4, 0, 0, 0, 0, 0, 0⟩ awA 0 3 = awA from by decide +kernel) (show CfgD.qcOk ⟨1, 4, 0, 0, 0, 0, 0, 0⟩ awA (awSg 3) 0 3 [] = true from by decide +kernel))) (lts rfl) ?_
    rintro _ L22 ⟨rfl, hL22⟩
    try dsimp only at hL22
    refine SR.lands hL22 ?_
    refine SR_pu (RD_pick_t rfl (by first | rfl | exact decide_eq_true (by omega) | exact decide_eq_false (by omega) | decide | (simp; done) | (simp; omega)) rfl) rfl ?_
    refine SR_pu (RD_move rfl) rfl ?_
    refine SR_yes rfl rfl (by first | rfl | exact decide_eq_true (by omega) | exact decide_eq_false (by omega) | decide | (simp; done) | (simp; omega)) ?_
    refine SR_pu (RD_move rfl) rfl ?_
    refine SR_yes rfl rfl (by first | rfl | exact decide_eq_true (by omega) | exact decide_eq_false (by omega) | decide | (simp; done) | (simp; omega)) ?_
    refine SR_rd (RD_loadA Try.isAgg23 Try.sizeOf23 rfl rfl) Has.wh rfl ?_
    refine SR_yes rfl rfl (by first | rfl | exact decide_eq_true (by omega) | exact decide_eq_false (by omega) | decide | (simp; done) | (simp; omega)) ?_
    refine SR_ox (OX_lit1 Try.underlying24 Try.type3 rfl rfl rfl rfl (.cons rfl (.cons rfl (.nil))) (.cons rfl (.cons rfl (.nil)))) rfl ?_
    rintro _ _ ⟨b54, rfl, rfl⟩
    refine SR_yes rfl rfl (by first | rfl | exact decide_eq_true (by omega) | exact decide_eq_false (by omega) | decide | (simp; done) | (simp; omega)) ?_
    refine SR_pu (RD_build (.cons rfl (.cons rfl (.cons rfl (.nil)))) built26_0_1_2) rfl ?_
    refine SR_yes rfl rfl (by first | rfl | exact decide_eq_true (by omega) | exact decide_eq_false (by omega) | decide | (simp; done) | (simp; omega)) ?_
    refine SR_call Try.call8 (.cons rfl (.cons rfl (.cons rfl (.nil)))) (CallsK.at (cert_QcOk' k ⟨awA, (awSg 3)⟩ ⟨1, 4, 0, 0, 0, 0, 0, 0⟩ ⟨2, 9, ⟨some ⟨b54, 0, none⟩, 2, 2, [0, 1]⟩⟩ rfl rfl (by simp) (by decide) (by decide) awA false (show CfgD.qcL ⟨1, 4, 0, 0, 0, 0, 0, 0⟩ awA 2 9 = awA from by decide +kernel) (show CfgD.qcOk ⟨1, 4, 0, 0, 0, 0, 0, 0⟩ awA (awSg 3) 2 9 [0, 1] = false from by decide +kernel))) (lts rfl) ?_
    rintro _ L23 ⟨rfl, hL23⟩
    try dsimp only at hL23
    refine SR.lands hL23 ?_
    refine SR_yes rfl rfl (by first | rfl | exact decide_eq_true (by omega) | exact decide_eq_false (by omega) | decide | (simp; done) | (simp; omega)) ?_
    refine SR_pu (RD_not rfl) rfl ?_
    refine SR_pu (RD_pick_t rfl (by first | rfl | exact decide_eq_true (by omega) | exact decide_eq_false (by omega) | decide | (simp; done) | (simp; omega)) rfl) rfl ?_
    refine SR_pu (RD_move rfl) rfl ?_
    refine SR_yes rfl rfl (by first | rfl | exact decide_eq_true (by omega) | exact decide_eq_false (by omega) | decide | (simp; done) | (simp; omega)) ?_
    refine SR_pu (RD_move rfl) rfl ?_
    refine SR_yes rfl rfl (by first | rfl | exact decide_eq_true (by omega) | exact decide_eq_false (by omega) | decide | (simp; done) | (simp; omega)) ?_
    refine SR_rd (RD_loadA Try.isAgg23 Try.sizeOf23 rfl rfl) Has.wh rfl ?_
    refine SR_yes rfl rfl (by first | rfl | exact decide_eq_true (by omega) | exact decide_eq_false (by omega) | decide | (simp; done) | (simp; omega)) ?_
    refine SR_ox (OX_lit1 Try.underlying24 Try.type3 rfl rfl rfl rfl (.cons rfl (.cons rfl (.cons rfl (.nil)))) (.cons rfl (.cons rfl (.cons rfl (.nil))))) rfl ?_
    rintro _ _ ⟨b62, rfl, rfl⟩
    refine SR_yes rfl rfl (by first | rfl | exact decide_eq_true (by omega) | exact decide_eq_false (by omega) | decide | (simp; done) | (simp; omega)) ?_
    refine SR_pu (RD_build (.cons rfl (.cons rfl (.cons rfl (.nil)))) built26_0_1_2) rfl ?_
    refine SR_yes rfl rfl (by first | rfl | exact decide_eq_true (by omega) | exact decide_eq_false (by omega) | decide | (simp; done) | (simp; omega)) ?_
    refine SR_call Try.call8 (.cons rfl (.cons rfl (.cons rfl (.nil)))) (CallsK.at (cert_QcOk' k ⟨awA, (awSg 3)⟩ ⟨1, 4, 0, 0, 0, 0, 0, 0⟩ ⟨2, 9, ⟨some ⟨b62, 0, none⟩, 3, 3, [0, 1, 3]⟩⟩ rfl rfl (by simp) (by decide) (by decide) awA false (show CfgD.qcL ⟨1, 4, 0, 0, 0, 0, 0, 0⟩ awA 2 9 = awA from by decide +kernel) (show CfgD.qcOk ⟨1, 4, 0, 0, 0, 0, 0, 0⟩ awA (awSg 3) 2 9 [0, 1, 3] = false from by decide +kernel))) (lts rfl) ?_
    rintro _ L24 ⟨rfl, hL24⟩
    try dsimp only at hL24
    refine SR.lands hL24 ?_
    refine SR_yes rfl rfl (by first | rfl | exact decide_eq_true (by omega) | exact decide_eq_false (by omega) | decide | (simp; done) | (simp; omega)) ?_
    refine SR_pu (RD_not rfl) rfl ?_
    refine SR_pu (RD_pick_t rfl (by first | rfl | exact decide_eq_true (by omega) | exact decide_eq_false (by omega) | decide | (simp; done) | (simp; omega)) rfl) rfl ?_
    refine SR_pu (RD_move rfl) rfl ?_
    refine SR_yes rfl rfl (by first | rfl | exact decide_eq_true (by omega) | exact decide_eq_false (by omega) | decide | (simp; done) | (simp; omega)) ?_
    refine SR_pu (RD_move rfl) rfl ?_
    refine SR_yes rfl rfl (by first | rfl | exact decide_eq_true (by omega) | exact decide_eq_false (by omega) | decide | (simp; done) | (simp; omega)) ?_
    refine SR_pu (RD_build (.cons rfl (.cons rfl (.nil))) built23_0_1) rfl ?_
    refine SR_yes rfl rfl (by first | rfl | exact decide_eq_true (by omega) | exact decide_eq_false (by omega) | decide | (simp; done) | (simp; omega)) ?_
    refine SR_rd (RD_loadA Try.isAgg26 Try.sizeOf26 rfl rfl) Has.wh rfl ?_
    refine SR_yes rfl rfl (by first | rfl | exact decide_eq_true (by omega) | exact decide_eq_false (by omega) | decide | (simp; done) | (simp; omega)) ?_
    refine SR_call Try.call8 (.cons rfl (.cons rfl (.cons rfl (.nil)))) (CallsK.at (cert_QcOk' k ⟨awA, (awSg 3)⟩ ⟨1, 5, 0, 0, 0, 0, 0, 0⟩ ⟨0, 3, ⟨none, 0, 0, []⟩⟩ rfl rfl (by simp) (by decide) (by decide) awA false (show CfgD.qcL ⟨1, 5, 0, 0, 0, 0, 0, 0⟩ awA 0 3 = awA from by decide +kernel) (show CfgD.qcOk ⟨1, 5, 0, 0, 0, 0, 0, 0⟩ awA (awSg 3) 0 3 [] = false from by decide +kernel))) (lts rfl) ?_
    rintro _ L25 ⟨rfl, hL25⟩
    try dsimp only at hL25
    refine SR.lands hL25 ?_
    refine SR_yes rfl rfl (by first | rfl | exact decide_eq_true (by omega) | exact decide_eq_false (by omega) | decide | (simp; done) | (simp; omega)) ?_
    refine SR_pu (RD_not rfl) rfl ?_
    refine SR_pu (RD_pick_t rfl (by first | rfl | exact decide_eq_true (by omega) | exact decide_eq_false (by omega) | decide | (simp; done) | (simp; omega)) rfl) rfl ?_
    refine SR_pu (RD_move rfl) rfl ?_
    refine SR_yes rfl rfl (by first | rfl | exact decide_eq_true (by omega) | exact decide_eq_false (by omega) | decide | (simp; done) | (simp; omega)) ?_
    refine SR_pu (RD_move rfl) rfl ?_
    refine SR_yes rfl rfl (by first | rfl | exact decide_eq_true (by omega) | exact decide_eq_false (by omega) | decide | (simp; done) | (simp; omega)) ?_
    refine SR_rd (RD_loadA Try.isAgg23 Try.sizeOf23 rfl rfl) Has.wh rfl ?_
    refine SR_yes rfl rfl (by first | rfl | exact decide_eq_true (by omega) | exact decide_eq_false (by omega) | decide | (simp; done) | (simp; omega)) ?_
    refine SR_rd (RD_loadA Try.isAgg28 Try.sizeOf28 rfl rfl) Has.wh rfl ?_
    refine SR_yes rfl rfl (by first | rfl | exact decide_eq_true (by omega) | exact decide_eq_false (by omega) | decide | (simp; done) | (simp; omega)) ?_
    refine SR_call Try.call10 (.cons rfl (.cons rfl (.cons rfl (.nil)))) (CallsK.at (cert_TcOk' k ⟨awA, awSg 3⟩ awInv ⟨1, 4, 0, 0, 0, 0, 0, 0⟩ ⟨3, ⟨some ⟨b32, 0, none⟩, 3, 3, [0, 1, 2]⟩, ⟨some ⟨b33, 0, none⟩, 3, 3, [2, 2, 2]⟩, ⟨2, 9, ⟨some ⟨b27, 0, none⟩, 3, 3, [0, 1, 2]⟩⟩⟩ rfl rfl rfl rfl rfl rfl (by simp) (by simp) (by simp) (by decide) (by decide) true (by simp) (show CfgD.tcOk ⟨1, 4, 0, 0, 0, 0, 0, 0⟩ awA (awSg 3) ⟨3, ⟨none, 3, 3, [0, 1, 2]⟩, ⟨none, 3, 3, [2, 2, 2]⟩, ⟨2, 9, ⟨none, 3, 3, [0, 1, 2]⟩⟩⟩ = true from by decide +kernel))) (lts rfl) ?_
    rintro _ L26 ⟨rfl, l26, he26, hlen26, hL26⟩
    try dsimp only at hL26 hlen26 he26
    refine SR.lands hL26 ?_
    refine SR_pu (RD_pick_t rfl (by first | rfl | exact decide_eq_true (by omega) | exact decide_eq_false (by omega) | decide | (simp; done) | (simp; omega)) rfl) rfl ?_
    refine SR_pu (RD_move rfl) rfl ?_
    refine SR_yes rfl rfl (by first | rfl | exact decide_eq_true (by omega) | exact decide_eq_false (by omega) | decide | (simp; done) | (simp; omega)) ?_
    refine SR_pu (RD_move rfl) rfl ?_
    refine SR_yes rfl rfl (by first | rfl | exact decide_eq_true (by omega) | exact decide_eq_false (by omega) | decide | (simp; done) | (simp; omega)) ?_
    refine SR_rd (RD_loadA Try.isAgg23 Try.sizeOf23 rfl rfl) Has.wh rfl ?_
    refine SR_yes rfl rfl (by first | rfl | exact decide_eq_true (by omega) | exact decide_eq_false (by omega) | decide | (simp; done) | (simp; omega)) ?_
    first
      | refine SR_pu (RD_fieldAddr 1 Try.runUnderlying28 rfl rfl Try.sizeOf24 rfl) rfl ?_
      | refine SR_rd (RD_fieldAddrO 1 Try.runUnderlying28 rfl rfl Try.sizeOf24 rfl (by simp <;> omega)) Has.ro rfl ?_
    refine SR_yes rfl rfl (by first | rfl | exact decide_eq_true (by omega) | exact decide_eq_false (by omega) | decide | (simp; done) | (simp; omega)) ?_
    refine SR_rd (RD_load Try.isAgg24 rfl) (Has.ce rfl) rfl ?_
    refine SR_yes rfl rfl (by first | rfl | exact decide_eq_true (by omega) | exact decide_eq_false (by omega) | decide | (simp; done) | (simp; omega)) ?_
    refine SR_ox (OX_lit1 Try.underlying24 Try.type3 rfl rfl rfl rfl (.cons rfl (.cons rfl (.cons rfl (.nil)))) (.cons rfl (.cons rfl (.cons rfl (.nil))))) rfl ?_
    rintro _ _ ⟨b85, rfl, rfl⟩
    refine SR_yes rfl rfl (by first | rfl | exact decide_eq_true (by omega) | exact decide_eq_false (by omega) | decide | (simp; done) | (simp; omega)) ?_
    refine SR_rd (RD_loadA Try.isAgg26 Try.sizeOf26 rfl rfl) Has.wh rfl ?_
    refine SR_yes rfl rfl (by first | rfl | exact decide_eq_true (by omega) | exact decide_eq_false (by omega) | decide | (simp; done) | (simp; omega)) ?_
    refine SR_pu (RD_build (.cons rfl (.cons rfl (.cons rfl (.cons rfl (.nil))))) built28_0_1_2_3) rfl ?_
    refine SR_yes rfl rfl (by first | rfl | exact decide_eq_true (by omega) | exact decide_eq_false (by omega) | decide | (simp; done) | (simp; omega)) ?_
    refine SR_call Try.call10 (.cons rfl (.cons rfl (.cons rfl (.nil)))) (CallsK.at (cert_TcOk' k ⟨l26, awSg 3⟩ (awInv.ext he26) ⟨1, 4, 0, 0, 0, 0, 0, 0⟩ ⟨3, ⟨some ⟨b32, 0, none⟩, 3, 3, [0, 1, 2]⟩, ⟨some ⟨b85, 0, none⟩, 3, 3, [2, 2, 1]⟩, ⟨2, 9, ⟨some ⟨b27, 0, none⟩, 3, 3, [0, 1, 2]⟩⟩⟩ rfl rfl rfl rfl rfl rfl (by simp) (by simp) (by simp) (by show l26.length ≤ 900000000; have : awA.length = 3 := rfl; omega) (by decide) false (by simp) ((tcOk_ext awInv he26 (by simp)).trans (show CfgD.tcOk ⟨1, 4, 0, 0, 0, 0, 0, 0⟩ awA (awSg 3) ⟨3, ⟨none, 3, 3, [0, 1, 2]⟩, ⟨none, 3, 3, [2, 2, 1]⟩, ⟨2, 9, ⟨none, 3, 3, [0, 1, 2]⟩⟩⟩ = false from by decide +kernel)))) (lts rfl) ?_
    rintro _ L27 ⟨rfl, l27, he27, hlen27, hL27⟩
    try dsimp only at hL27 hlen27 he27
    refine SR.lands hL27 ?_
    refine SR_yes rfl rfl (by first | rfl | exact decide_eq_true (by omega) | exact decide_eq_false (by omega) | decide | (simp; done) | (simp; omega)) ?_
    refine SR_pu (RD_not rfl) rfl ?_
    refine SR_pu (RD_pick_t rfl (by first | rfl | exact decide_eq_true (by omega) | exact decide_eq_false (by omega) | decide | (simp; done) | (simp; omega)) rfl) rfl ?_
    refine SR_pu (RD_assign rfl) rfl ?_
    refine SR_nil ?_
    refine SN.le (l := [(0, _)]) ?_ (.cons rfl (.nil))
    refine SN_seq ?_
    refine SC_ret1 rfl rfl ?_
    exact ⟨rfl, .fin⟩

end Go.Proofs.Ytmigjpmadhebfaa
