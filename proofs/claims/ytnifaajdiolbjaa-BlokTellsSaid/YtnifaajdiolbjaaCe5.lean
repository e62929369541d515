/- Certificates: is a view given up; what the document fixes. -/
import Derived.Test.YtnifaajdiolbjaaCe4
namespace Go.Proofs.Ytnifaajdiolbjaa
open Go Go.Proofs
set_option maxRecDepth 100000
/-- The greatest of a row. -/
def most (l : List Int) : Int := l.tail.foldl max (l.headD 0)
theorem most_take {l : List Int} {i : Nat} {x : Int} (hi : 0 < i) (h : l[i]? = some x) : most (l.take (i + 1)) = max (most (l.take i)) x := by
  cases l with
  | nil => simp at h
  | cons y r =>
    cases i with
    | zero => omega
    | succ j =>
      simp only [List.getElem?_cons_succ] at h
      unfold most
      simp only [List.take_succ_cons, List.tail_cons, List.headD_cons]
      rw [List.take_add_one, h]
      simp
def tOk (l : List (List UInt8)) (S : List (Int × List Int)) (view : Int) (by_ hs : List Int) (j : Nat) : Prop := 0 ≤ hs.getD j 0 ∧ hs.getD j 0 < view ∧ by_.getD j 0 ∈ sg l S (outB view (hs.getD j 0))
instance decTOk (l : List (List UInt8)) (S : List (Int × List Int)) (view : Int) (by_ hs : List Int) (j : Nat) : Decidable (tOk l S view by_ hs j) := by unfold tOk; infer_instance
def CfgD.tcA (c : CfgD) (l : List (List UInt8)) (S : List (Int × List Int)) (view : Int) (by_ hs : List Int) (hv : Int) : Prop := 1 ≤ view ∧ c.many by_ = true ∧ hs.length = by_.length ∧ (∀ j, j < hs.length → tOk l S view by_ hs j) ∧ most hs = hv
instance decTcA (c : CfgD) (l : List (List UInt8)) (S : List (Int × List Int)) (view : Int) (by_ hs : List Int) (hv : Int) : Decidable (c.tcA l S view by_ hs hv) := by unfold CfgD.tcA; infer_instance
/-- What its verdict is in an arena. -/
def CfgD.tcOk (c : CfgD) (l : List (List UInt8)) (S : List (Int × List Int)) (t : TcD) : Bool := decide (c.tcA l S t.view t.by_.l t.highs.l t.high.view) && c.qcOk l S t.high.view t.high.block t.high.by_.l
theorem tOk_ext {l l' : List (List UInt8)} {S : List (Int × List Int)} (h : Inv l S) (e : Ext l l') {view : Int} {by_ hs : List Int} {j : Nat} : tOk l' S view by_ hs j ↔ tOk l S view by_ hs j := by unfold tOk; rw [sg_ext h e]
theorem tcA_ext {c : CfgD} {l l' : List (List UInt8)} {S : List (Int × List Int)} (h : Inv l S) (e : Ext l l') {view : Int} {by_ hs : List Int} {hv : Int} : c.tcA l' S view by_ hs hv ↔ c.tcA l S view by_ hs hv := by
  unfold CfgD.tcA; simp only [tOk_ext h e]

