/- Certificates: what the document fixes. -/
import Derived.Test.YtnifaajdiolbjaaCe5
namespace Go.Proofs.Ytnifaajdiolbjaa
open Go Go.Proofs
set_option maxRecDepth 100000
theorem qcOk_ext {c : CfgD} {l l' : List (List UInt8)} {S : List (Int × List Int)} (h : Inv l S) (e : Ext l l') {view block : Int} (hv : 1 ≤ view) {by_ : List Int} : c.qcOk l' S view block by_ = c.qcOk l S view block by_ := by
  unfold CfgD.qcOk
  rw [if_neg (by omega), if_neg (by omega), sg_ext h e]
theorem tcOk_ext {c : CfgD} {l l' : List (List UInt8)} {S : List (Int × List Int)} (h : Inv l S) (e : Ext l l') {t : TcD} (hv : 1 ≤ t.high.view) : c.tcOk l' S t = c.tcOk l S t := by
  unfold CfgD.tcOk
  rw [qcOk_ext h e hv, decide_eq_decide.2 (tcA_ext h e)]
def awSg : Nat → List (Int × List Int)
  | 0 => []
  | 1 => [(1, [0]), (2, [0])]
  | 2 => [(1, [0, 1]), (2, [0, 1])]
  | _ => [(1, [0, 1, 2]), (2, [0, 1, 2])]
def awAr : Nat → List (List UInt8)
  | 0 => []
  | _ => [voteB 2 9, outB 3 2]
theorem aw1 : ∀ i, i < 3 → dnum (dput (awAr i) (voteB 2 9)) (voteB 2 9) = 1 := by decide +kernel
theorem aw2 : ∀ i, i < 3 → dnum (dput (dput (awAr i) (voteB 2 9)) (outB 3 2)) (outB 3 2) = 2 := by decide +kernel
theorem aw3 : ∀ i, i < 3 → dput (dput (awAr i) (voteB 2 9)) (outB 3 2) = awAr (i + 1) := by decide +kernel
theorem aw4 : ∀ i, i < 3 → addTo (addTo (awSg i) (i : Int) ((1 : Nat) : Int)) (i : Int) ((2 : Nat) : Int) = awSg (i + 1) := by decide +kernel
theorem cert_QcOk' {W : World} {F : List HProp} [Abs F] (k : WK) (s : WS) (c : CfgD) (q : QcD) {cs : List Value} [HasRow F q.by_.a cs] (hcs : cs = q.by_.l.map intV) (hn : q.by_.l.length = q.by_.n) (hb : q.by_.n ≤ 100000000) (hl : s.l.length ≤ 1000000000) (hw : c.n < 9223372036854775808) (l' : List (List UInt8)) (v : Bool) (h1 : c.qcL s.l q.view q.block = l') (h2 : c.qcOk l' s.S q.view q.block q.by_.l = v) :
    CallsK W Try.prog 27 #[.pointer (some ⟨k.p, 0, none⟩), c.val, q.val] (At worldI k s :: F) (fun u L => u = .bool v ∧ Lands L (At worldI k ⟨l', s.S⟩ :: F)) := by
  subst h1; subst h2
  exact cert_QcOk k s c q hcs hn hb hl hw
def awC : CfgD := ⟨1, 4, 0, 0, 0, 0, 0, 0⟩
def awA : List (List UInt8) := [voteB 2 9, outB 3 2, rootB]
theorem awInv : Inv awA (awSg 3) := fun k hk => by
  have hl : awA.length = 3 := rfl
  by_cases h1 : k = 1
  · omega
  · by_cases h2 : k = 2
    · omega
    · exact absurd (by simp [awSg, signers, h1, h2]) hk

