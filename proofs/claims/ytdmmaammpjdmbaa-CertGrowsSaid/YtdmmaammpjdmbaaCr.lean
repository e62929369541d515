/- Certificates that grow: what the rows come to. -/
import Derived.Test.YtdmmaammpjdmbaaCq
namespace Go.Proofs.Ytdmmaammpjdmbaa
open Go Go.Proofs
set_option maxRecDepth 100000
/-- All below i but one. -/
def bL (s i : Nat) : List Int := ((List.range i).filter (fun j : Nat => j ≠ s)).map (fun j : Nat => (j : Int))
theorem bL_skip (i : Nat) : bL i (i + 1) = bL i i := by simp [bL, List.range_succ]
theorem bL_put {s i : Nat} (h : i ≠ s) : bL s (i + 1) = bL s i ++ [(i : Int)] := by simp [bL, List.range_succ, h]
theorem bL_le (s i : Nat) : (bL s i).length ≤ i := by
  unfold bL; rw [List.length_map]
  have := List.length_filter_le (fun j => decide (j ≠ s)) (List.range i)
  simpa using this
def grL : Nat → List (List UInt8)
  | 0 => []
  | _ + 1 => [voteB 3 8]
def grS : Nat → List (Int × List Int)
  | 0 => []
  | i + 1 => [(1, (List.range (i + 1)).map fun j : Nat => (j : Int))]
theorem gr1 (i : Nat) : dput (grL i) (voteB 3 8) = grL (i + 1) := by
  cases i with
  | zero => simp [grL, dput]
  | succ i => simp [grL, dput]
theorem gr2 (i : Nat) : dnum (grL (i + 1)) (voteB 3 8) = 1 := by simp [grL, dnum]
theorem gr3 (i : Nat) : addTo (grS i) (i : Int) ((1 : Nat) : Int) = grS (i + 1) := by
  cases i with
  | zero => simp [grS, addTo, List.range_succ]
  | succ i =>
    have : ¬ ((i + 1 : Nat) : Int) ∈ (List.range (i + 1)).map fun j : Nat => (j : Int) := by
      simp only [List.mem_map, List.mem_range]
      rintro ⟨a, h1, h2⟩; omega
    simp only [grS, addTo]
    rw [if_pos (by decide)]
    simp only [putW]
    rw [if_neg this, List.range_succ (n := i + 1)]
    simp
def grC (g : Nat) : CfgD := ⟨(g : Int), 3 * (g : Int) + 1, 0, 0, 0, 0, 0, 0⟩
theorem gr_qc (c : CfgD) (S : List (Int × List Int)) (by_ : List Int) : c.qcOk [voteB 3 8] S 3 8 by_ = (c.many by_ && by_.all fun w => decide (w ∈ signers S 1)) := by
  unfold CfgD.qcOk
  rw [if_neg (by decide)]
  have : sg [voteB 3 8] S (voteB 3 8) = signers S 1 := by unfold sg; simp [dnum]
  rw [this]
theorem gr_len : ∀ g, g < 4 → ∀ s, s < 3 * g + 1 → (bL s (3 * g + 1)).length = 3 * g := by decide +kernel
theorem gr_take0 : ∀ g, g < 4 → 1 ≤ g → ∀ s, s < 3 * g + 1 → ∀ n, n < 3 * g + 1 → ((grC g).many ((bL s (3 * g + 1)).take n) && ((bL s (3 * g + 1)).take n).all fun w => decide (w ∈ signers (grS (3 * g + 1)) 1)) = decide (2 * g + 1 ≤ n) := by decide +kernel
theorem gr_twice0 : ∀ g, g < 4 → 1 ≤ g → ∀ s, s < 3 * g + 1 → ∀ k, k < 3 * g - 1 → (grC g).many ((bL s (3 * g + 1)).set (k + 1) ((bL s (3 * g + 1)).getD k 0)) = false := by decide +kernel
theorem gr_turn0 : ∀ g, g < 4 → 1 ≤ g → ∀ s, s < 3 * g + 1 → ∀ k, k < 3 * g - 1 → (grC g).many (((bL s (3 * g + 1)).set k ((bL s (3 * g + 1)).getD (k + 1) 0)).set (k + 1) ((bL s (3 * g + 1)).getD k 0)) = false := by decide +kernel
theorem gr_far0 : ∀ g, g < 4 → 1 ≤ g → ∀ s, s < 3 * g + 1 → (grC g).many (bL s (3 * g + 1) ++ [3 * (g : Int) + 1]) = false := by decide +kernel
theorem gr_nine : dput [voteB 3 8] (voteB 3 9) = [voteB 3 8, voteB 3 9] := by decide +kernel
theorem gr_nine1 : dnum [voteB 3 8, voteB 3 9] (voteB 3 9) = 2 := by decide +kernel
theorem qc_nomany {c : CfgD} {l : List (List UInt8)} {S : List (Int × List Int)} {by_ : List Int} {block : Int} (h : c.many by_ = false) : c.qcOk l S 3 block by_ = false := by
  unfold CfgD.qcOk; rw [if_neg (by decide), h]; rfl
theorem gr_nine0 {c : CfgD} {i : Nat} {by_ : List Int} (h : 0 < by_.length) : c.qcOk [voteB 3 8, voteB 3 9] (grS (i + 1)) 3 9 by_ = false := by
  unfold CfgD.qcOk
  rw [if_neg (by decide)]
  have : sg [voteB 3 8, voteB 3 9] (grS (i + 1)) (voteB 3 9) = [] := by unfold sg; rw [gr_nine1]; simp [grS, signers]
  rw [this]
  cases by_ with
  | nil => simp at h
  | cons x r => simp
theorem cert_QcOk_take {W : World} {F : List HProp} [Abs F] (k : WK) (s : WS) (c : CfgD) (q : QcD) {cs : List Value} [HasRow F q.by_.a cs] (hcs : cs.take q.by_.n = q.by_.l.map intV) (hn : q.by_.l.length = q.by_.n) (hb : q.by_.n ≤ 100000000) (hl : s.l.length ≤ 1000000000) (hw : c.n < 9223372036854775808) (l' : List (List UInt8)) (v : Bool) (h1 : c.qcL s.l q.view q.block = l') (h2 : c.qcOk l' s.S q.view q.block q.by_.l = v) :
    CallsK W Try.prog 22 #[.pointer (some ⟨k.p, 0, none⟩), c.val, q.val] (At worldI k s :: F) (fun u L => u = .bool v ∧ Lands L (At worldI k ⟨l', s.S⟩ :: F)) := by
  haveI : HasRow F q.by_.a (q.by_.l.map intV) := hasRow_take _ hcs.symm
  exact cert_QcOk' k s c q rfl hn hb hl hw l' v h1 h2
end Go.Proofs.Ytdmmaammpjdmbaa
