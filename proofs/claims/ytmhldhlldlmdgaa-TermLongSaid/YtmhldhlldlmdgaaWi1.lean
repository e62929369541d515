/- The writer's and the reader's functions. -/
import Derived.Test.YtmhldhlldlmdgaaOb1
namespace Go.Proofs.Ytmhldhlldlmdgaa
open Go Go.Proofs
set_option maxRecDepth 100000

/-- What a reader answers when asked for a number, and what is left. -/
def rdNum (s : List UInt8 × Bool) : Nat × (List UInt8 × Bool) := if s.2 = true ∨ s.1.length < 8 then (0, (s.1, true)) else (unbe (s.1.take 8), (s.1.drop 8, false))
theorem rdNum_lt (s : List UInt8 × Bool) : (rdNum s).1 < 18446744073709551616 := by
  unfold rdNum; split
  · show 0 < _; omega
  · rename_i h
    have := unbe_lt 8 (s.1.take 8) (by simp; omega)
    simpa using this
theorem rdNum_len (s : List UInt8 × Bool) : (rdNum s).2.1.length ≤ s.1.length := by unfold rdNum; split <;> simp

/-- .. for a text. -/
def rdText (s : List UInt8 × Bool) : List UInt8 × (List UInt8 × Bool) := let r := rdNum s; if r.2.2 = true ∨ r.2.1.length < r.1 then ([], (r.2.1, true)) else (r.2.1.take r.1, (r.2.1.drop r.1, false))

