/-
  No cell of these rows narrows 'for every input' (looked for: loops, veiled, ifaces, maps, wideKeys, modest, calm, conditions, laid).
  DERIVED. THE GIVEN ROWS OF THIS SEAT. 3 by the template 'for every input the law returns true; each argument reads behind the call as it read before'; 0 by the template 'total and deterministic' (their statements: YtmigjpmadhebfaaTotals.lean).
  GIVEN WITH THE SEED: the statements are not yours to turn. If you find one false, say at which input.
  Laid BY PROGRAM, IN A SANDBOX (cutbox-rows.mjs): the forced cells as the released guide's own fill.sh prints them over the translation 10d63069eafc4c61… (all of the seat's roots in one cut). By AI agents, Wed Nov 11 2026. No macro, syntax, notation, axiom, sorry.
-/
import Derived.Test.YtmigjpmadhebfaaChecked
import GoSem.Claim
import GoSem.ClaimJoined
import GoSem.ClaimMapViews
import Derived.JoinedTies
import Derived.KernelRfl
namespace Go.Proofs.Ytmigjpmadhebfaa
/- THE CELL 'sum', in the pinned program and in every row, IS THE sha256 OF THE DUMP (.gsa) THAT YtmigjpmadhebfaaProg.lean LOADS. Nothing in Lean hashes anything: it is a label: what it is worth is what the hold of that sum in a sandbox is worth. -/
noncomputable def Try.pinned : Pinned := { name := "ytmigjpmadhebfaa", sum := "10d63069eafc4c61497c686815e4e984559367d45d56191cb3f2ee89e2e9dbc0", checked := Try.checked }
namespace Rows
def none {H : Type} : Left H := { results := [], args := [] }

/-- 'tolseylaw15.CertTells': WHATEVER THE INPUT: true; the input reads as it did. -/
def certTellsSpec : ChangeSpec := { name := "certTells", fn := fun _ => fun
  | [d1, d2, d3, d4, d5, d6, d7, d8] => { results := [.lit (.bool true)], args := [d1, d2, d3, d4, d5, d6, d7, d8] }
  | _ => none }
def certTellsRow : OpenClaim := { program := "ytmigjpmadhebfaa", sum := "10d63069eafc4c61497c686815e4e984559367d45d56191cb3f2ee89e2e9dbc0", func := "tolsey/tolseylaw15.CertTells", spec := "certTells", unfollowed := true, recurses := true, apart := false }
def CertTellsSaid : Prop := certTellsRow.holds Try.pinned (OpenSpec.ofChange certTellsSpec)

/-- ITS FALSE NEIGHBOUR: 'it returns false'. Refute it at one input. -/
def certTellsWrong : ChangeSpec := { name := "certTells", fn := fun _ => fun
  | [d1, d2, d3, d4, d5, d6, d7, d8] => { results := [.lit (.bool false)], args := [d1, d2, d3, d4, d5, d6, d7, d8] }
  | _ => none }
def CertTellsWrongFalsely : Prop := certTellsRow.holds Try.pinned (OpenSpec.ofChange certTellsWrong)

/-- 'tolseylaw24.MessSame': WHATEVER THE INPUT: true; the input reads as it did. -/
def messSameSpec : ChangeSpec := { name := "messSame", fn := fun _ => fun
  | [d1, d2, d3] => { results := [.lit (.bool true)], args := [d1, d2, d3] }
  | _ => none }
def messSameRow : OpenClaim := { program := "ytmigjpmadhebfaa", sum := "10d63069eafc4c61497c686815e4e984559367d45d56191cb3f2ee89e2e9dbc0", func := "tolsey/tolseylaw24.MessSame", spec := "messSame", apart := false }
def MessSameSaid : Prop := messSameRow.holds Try.pinned (OpenSpec.ofChange messSameSpec)

/-- ITS FALSE NEIGHBOUR: 'it returns false'. Refute it at one input. -/
def messSameWrong : ChangeSpec := { name := "messSame", fn := fun _ => fun
  | [d1, d2, d3] => { results := [.lit (.bool false)], args := [d1, d2, d3] }
  | _ => none }
def MessSameWrongFalsely : Prop := messSameRow.holds Try.pinned (OpenSpec.ofChange messSameWrong)

/-- 'tolseylaw18.SafeForks': WHATEVER THE INPUT: true; the input reads as it did. -/
def safeForksSpec : ChangeSpec := { name := "safeForks", fn := fun _ => fun
  | [d] => { results := [.lit (.bool true)], args := [d] }
  | _ => none }
def safeForksRow : OpenClaim := { program := "ytmigjpmadhebfaa", sum := "10d63069eafc4c61497c686815e4e984559367d45d56191cb3f2ee89e2e9dbc0", func := "tolsey/tolseylaw18.SafeForks", spec := "safeForks", apart := false }
def SafeForksSaid : Prop := safeForksRow.holds Try.pinned (OpenSpec.ofChange safeForksSpec)

/-- ITS FALSE NEIGHBOUR: 'it returns false'. Refute it at one input. -/
def safeForksWrong : ChangeSpec := { name := "safeForks", fn := fun _ => fun
  | [d] => { results := [.lit (.bool false)], args := [d] }
  | _ => none }
def SafeForksWrongFalsely : Prop := safeForksRow.holds Try.pinned (OpenSpec.ofChange safeForksWrong)

/- THE SECOND FORM. 'bulk': how many values and letters a reading holds, each counted each time it is reached (what is shared counts as often as it is met; a slice's spare places count too). A statement '..UptoSaid' is the law's where the arguments, and the package variables that the reading takes, are together of bulk at most 1048576: NARROWER than '..Said'. Prove '..Said' where nothing that the law and all that it calls make is longer than what came in: it says more and counts as full. Else prove '..UptoSaid'. A law counts once. -/
mutual
def uptoBulk {H : Type} : DataW H → Nat
  | .lit (.string bytes) => bytes.length + 1
  | .lit _ => 1
  | .nil => 1
  | .ptr d => uptoBulk d + 1
  | .slice elems spare => uptoBulkAll elems + uptoBulkAll spare + 1
  | .agg parts => uptoBulkAll parts + 1
  | .iface _ d => uptoBulk d + 1
  | .map entries => uptoBulkEntries entries + 1
  | .held _ => 1
def uptoBulkAll {H : Type} : List (DataW H) → Nat
  | [] => 0
  | d :: r => uptoBulk d + uptoBulkAll r
def uptoBulkEntries {H : Type} : List (Lit × DataW H) → Nat
  | [] => 0
  | x :: r => uptoBulkEntry x + uptoBulkEntries r
def uptoBulkEntry {H : Type} : Lit × DataW H → Nat
  | (.string bytes, d) => bytes.length + uptoBulk d + 1
  | (_, d) => uptoBulk d + 1
 end
def uptoSmall : (H : Type) → List (DataW H) → Bool := fun _ ds => decide (uptoBulkAll ds ≤ 1048576)
def OpenSpec.upto (s : _root_.Go.ChangeSpec) : _root_.Go.OpenSpec := { _root_.Go.OpenSpec.ofChange s with cond := some uptoSmall }

/-- 'tolseylaw15.CertTells', WHERE WHAT IT READS IS OF BULK AT MOST 1048576: true; the input reads as it did. -/
def certTellsUptoRow : OpenClaim := { program := "ytmigjpmadhebfaa", sum := "10d63069eafc4c61497c686815e4e984559367d45d56191cb3f2ee89e2e9dbc0", func := "tolsey/tolseylaw15.CertTells", spec := "certTells", unfollowed := true, recurses := true, apart := false, narrowed := true }
def CertTellsUptoSaid : Prop := certTellsUptoRow.holds Try.pinned (OpenSpec.upto certTellsSpec)

/-- 'tolseylaw24.MessSame', WHERE WHAT IT READS IS OF BULK AT MOST 1048576: true; the input reads as it did. -/
def messSameUptoRow : OpenClaim := { program := "ytmigjpmadhebfaa", sum := "10d63069eafc4c61497c686815e4e984559367d45d56191cb3f2ee89e2e9dbc0", func := "tolsey/tolseylaw24.MessSame", spec := "messSame", apart := false, narrowed := true }
def MessSameUptoSaid : Prop := messSameUptoRow.holds Try.pinned (OpenSpec.upto messSameSpec)

/-- 'tolseylaw18.SafeForks', WHERE WHAT IT READS IS OF BULK AT MOST 1048576: true; the input reads as it did. -/
def safeForksUptoRow : OpenClaim := { program := "ytmigjpmadhebfaa", sum := "10d63069eafc4c61497c686815e4e984559367d45d56191cb3f2ee89e2e9dbc0", func := "tolsey/tolseylaw18.SafeForks", spec := "safeForks", apart := false, narrowed := true }
def SafeForksUptoSaid : Prop := safeForksUptoRow.holds Try.pinned (OpenSpec.upto safeForksSpec)

end Rows
end Go.Proofs.Ytmigjpmadhebfaa
