/- What each struct literal of the program comes to (printed by gen_bd.py). -/
import Derived.Test.YtmhldhlldlmdgaaProg
import Derived.Laws.Tables
import Derived.KernelRfl
namespace Go.Proofs.Ytmhldhlldlmdgaa
open Go Go.Proofs

theorem built38  : Try.prog.built 38 [] = some #[.slice none 0 0] := by kernel_rfl
theorem built43_1 {x1 : Option Nat} : Try.prog.built 43 [(1, .map x1)] = some #[.slice none 0 0, .map x1] := by kernel_rfl
