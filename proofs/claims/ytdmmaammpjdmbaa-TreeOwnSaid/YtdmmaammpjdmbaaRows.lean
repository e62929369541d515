/-
  No cell of these rows narrows 'for every input' (looked for: loops, veiled, ifaces, maps, wideKeys, modest, calm, conditions, laid).
  DERIVED. THE GIVEN ROWS OF THIS SEAT. 12 by the template 'for every input the law returns true; each argument reads behind the call as it read before'; 0 by the template 'total and deterministic' (their statements: YtdmmaammpjdmbaaTotals.lean).
  GIVEN WITH THE SEED: the statements are not yours to turn. If you find one false, say at which input.
  Laid BY PROGRAM, IN A SANDBOX (cutbox-rows.mjs): the forced cells as the released guide's own fill.sh prints them over the translation aa5dd5283daaf0d6… (all of the seat's roots in one cut). By AI agents, Wed Nov 11 2026. No macro, syntax, notation, axiom, sorry.
-/
import Derived.Test.YtdmmaammpjdmbaaChecked
import GoSem.Claim
import GoSem.ClaimJoined
import GoSem.ClaimMapViews
import Derived.JoinedTies
import Derived.KernelRfl
namespace Go.Proofs.Ytdmmaammpjdmbaa
/- THE CELL 'sum', in the pinned program and in every row, IS THE sha256 OF THE DUMP (.gsa) THAT YtdmmaammpjdmbaaProg.lean LOADS. Nothing in Lean hashes anything: it is a label: what it is worth is what the hold of that sum in a sandbox is worth. -/
noncomputable def Try.pinned : Pinned := { name := "ytdmmaammpjdmbaa", sum := "aa5dd5283daaf0d6d31ed523a387615eebd2c3ecc0519af084182fef062b8933", checked := Try.checked }
namespace Rows
def none {H : Type} : Left H := { results := [], args := [] }

/-- 'tolseylaw15.CertForged': WHATEVER THE INPUT: true; the input reads as it did. -/
def certForgedSpec : ChangeSpec := { name := "certForged", fn := fun _ => fun
  | [d1, d2, d3, d4, d5] => { results := [.lit (.bool true)], args := [d1, d2, d3, d4, d5] }
  | _ => none }
def certForgedRow : OpenClaim := { program := "ytdmmaammpjdmbaa", sum := "aa5dd5283daaf0d6d31ed523a387615eebd2c3ecc0519af084182fef062b8933", func := "tolsey/tolseylaw15.CertForged", spec := "certForged", unfollowed := true, recurses := true, apart := false }
def CertForgedSaid : Prop := certForgedRow.holds Try.pinned (OpenSpec.ofChange certForgedSpec)

/-- ITS FALSE NEIGHBOUR: 'it returns false'. Refute it at one input. -/
def certForgedWrong : ChangeSpec := { name := "certForged", fn := fun _ => fun
  | [d1, d2, d3, d4, d5] => { results := [.lit (.bool false)], args := [d1, d2, d3, d4, d5] }
  | _ => none }
def CertForgedWrongFalsely : Prop := certForgedRow.holds Try.pinned (OpenSpec.ofChange certForgedWrong)

/-- 'tolseylaw15.CertGrows': WHATEVER THE INPUT: true; the input reads as it did. -/
def certGrowsSpec : ChangeSpec := { name := "certGrows", fn := fun _ => fun
  | [d1, d2, d3] => { results := [.lit (.bool true)], args := [d1, d2, d3] }
  | _ => none }
def certGrowsRow : OpenClaim := { program := "ytdmmaammpjdmbaa", sum := "aa5dd5283daaf0d6d31ed523a387615eebd2c3ecc0519af084182fef062b8933", func := "tolsey/tolseylaw15.CertGrows", spec := "certGrows", unfollowed := true, recurses := true, apart := false }
def CertGrowsSaid : Prop := certGrowsRow.holds Try.pinned (OpenSpec.ofChange certGrowsSpec)

/-- ITS FALSE NEIGHBOUR: 'it returns false'. Refute it at one input. -/
def certGrowsWrong : ChangeSpec := { name := "certGrows", fn := fun _ => fun
  | [d1, d2, d3] => { results := [.lit (.bool false)], args := [d1, d2, d3] }
  | _ => none }
def CertGrowsWrongFalsely : Prop := certGrowsRow.holds Try.pinned (OpenSpec.ofChange certGrowsWrong)

/-- 'tolseylaw15.CertMeet': WHATEVER THE INPUT: true; the input reads as it did. -/
def certMeetSpec : ChangeSpec := { name := "certMeet", fn := fun _ => fun
  | [d1, d2, d3] => { results := [.lit (.bool true)], args := [d1, d2, d3] }
  | _ => none }
def certMeetRow : OpenClaim := { program := "ytdmmaammpjdmbaa", sum := "aa5dd5283daaf0d6d31ed523a387615eebd2c3ecc0519af084182fef062b8933", func := "tolsey/tolseylaw15.CertMeet", spec := "certMeet", unfollowed := true, recurses := true, apart := false }
def CertMeetSaid : Prop := certMeetRow.holds Try.pinned (OpenSpec.ofChange certMeetSpec)

/-- ITS FALSE NEIGHBOUR: 'it returns false'. Refute it at one input. -/
def certMeetWrong : ChangeSpec := { name := "certMeet", fn := fun _ => fun
  | [d1, d2, d3] => { results := [.lit (.bool false)], args := [d1, d2, d3] }
  | _ => none }
def CertMeetWrongFalsely : Prop := certMeetRow.holds Try.pinned (OpenSpec.ofChange certMeetWrong)

/-- 'tolseylaw15.CertTells': WHATEVER THE INPUT: true; the input reads as it did. -/
def certTellsSpec : ChangeSpec := { name := "certTells", fn := fun _ => fun
  | [d1, d2, d3, d4, d5, d6, d7, d8] => { results := [.lit (.bool true)], args := [d1, d2, d3, d4, d5, d6, d7, d8] }
  | _ => none }
def certTellsRow : OpenClaim := { program := "ytdmmaammpjdmbaa", sum := "aa5dd5283daaf0d6d31ed523a387615eebd2c3ecc0519af084182fef062b8933", func := "tolsey/tolseylaw15.CertTells", spec := "certTells", unfollowed := true, recurses := true, apart := false }
def CertTellsSaid : Prop := certTellsRow.holds Try.pinned (OpenSpec.ofChange certTellsSpec)

/-- ITS FALSE NEIGHBOUR: 'it returns false'. Refute it at one input. -/
def certTellsWrong : ChangeSpec := { name := "certTells", fn := fun _ => fun
  | [d1, d2, d3, d4, d5, d6, d7, d8] => { results := [.lit (.bool false)], args := [d1, d2, d3, d4, d5, d6, d7, d8] }
  | _ => none }
def CertTellsWrongFalsely : Prop := certTellsRow.holds Try.pinned (OpenSpec.ofChange certTellsWrong)

/-- 'tolseylaw17.TreeWays': WHATEVER THE INPUT: true; the input reads as it did. -/
def treeWaysSpec : ChangeSpec := { name := "treeWays", fn := fun _ => fun
  | [d1, d2, d3, d4] => { results := [.lit (.bool true)], args := [d1, d2, d3, d4] }
  | _ => none }
def treeWaysRow : OpenClaim := { program := "ytdmmaammpjdmbaa", sum := "aa5dd5283daaf0d6d31ed523a387615eebd2c3ecc0519af084182fef062b8933", func := "tolsey/tolseylaw17.TreeWays", spec := "treeWays", apart := false }
def TreeWaysSaid : Prop := treeWaysRow.holds Try.pinned (OpenSpec.ofChange treeWaysSpec)

/-- ITS FALSE NEIGHBOUR: 'it returns false'. Refute it at one input. -/
def treeWaysWrong : ChangeSpec := { name := "treeWays", fn := fun _ => fun
  | [d1, d2, d3, d4] => { results := [.lit (.bool false)], args := [d1, d2, d3, d4] }
  | _ => none }
def TreeWaysWrongFalsely : Prop := treeWaysRow.holds Try.pinned (OpenSpec.ofChange treeWaysWrong)

/-- 'tolseylaw17.TreeForks': WHATEVER THE INPUT: true; the input reads as it did. -/
def treeForksSpec : ChangeSpec := { name := "treeForks", fn := fun _ => fun
  | [d1, d2] => { results := [.lit (.bool true)], args := [d1, d2] }
  | _ => none }
def treeForksRow : OpenClaim := { program := "ytdmmaammpjdmbaa", sum := "aa5dd5283daaf0d6d31ed523a387615eebd2c3ecc0519af084182fef062b8933", func := "tolsey/tolseylaw17.TreeForks", spec := "treeForks", apart := false }
def TreeForksSaid : Prop := treeForksRow.holds Try.pinned (OpenSpec.ofChange treeForksSpec)

/-- ITS FALSE NEIGHBOUR: 'it returns false'. Refute it at one input. -/
def treeForksWrong : ChangeSpec := { name := "treeForks", fn := fun _ => fun
  | [d1, d2] => { results := [.lit (.bool false)], args := [d1, d2] }
  | _ => none }
def TreeForksWrongFalsely : Prop := treeForksRow.holds Try.pinned (OpenSpec.ofChange treeForksWrong)

/-- 'tolseylaw17.TreeTells': WHATEVER THE INPUT: true; the input reads as it did. -/
def treeTellsSpec : ChangeSpec := { name := "treeTells", fn := fun _ => fun
  | [d1, d2, d3, d4] => { results := [.lit (.bool true)], args := [d1, d2, d3, d4] }
  | _ => none }
def treeTellsRow : OpenClaim := { program := "ytdmmaammpjdmbaa", sum := "aa5dd5283daaf0d6d31ed523a387615eebd2c3ecc0519af084182fef062b8933", func := "tolsey/tolseylaw17.TreeTells", spec := "treeTells", apart := false }
def TreeTellsSaid : Prop := treeTellsRow.holds Try.pinned (OpenSpec.ofChange treeTellsSpec)

/-- ITS FALSE NEIGHBOUR: 'it returns false'. Refute it at one input. -/
def treeTellsWrong : ChangeSpec := { name := "treeTells", fn := fun _ => fun
  | [d1, d2, d3, d4] => { results := [.lit (.bool false)], args := [d1, d2, d3, d4] }
  | _ => none }
def TreeTellsWrongFalsely : Prop := treeTellsRow.holds Try.pinned (OpenSpec.ofChange treeTellsWrong)

/-- 'tolseylaw17.TreeOwn': WHATEVER THE INPUT: true; the input reads as it did. -/
def treeOwnSpec : ChangeSpec := { name := "treeOwn", fn := fun _ => fun
  | [d1, d2] => { results := [.lit (.bool true)], args := [d1, d2] }
  | _ => none }
def treeOwnRow : OpenClaim := { program := "ytdmmaammpjdmbaa", sum := "aa5dd5283daaf0d6d31ed523a387615eebd2c3ecc0519af084182fef062b8933", func := "tolsey/tolseylaw17.TreeOwn", spec := "treeOwn", apart := false }
def TreeOwnSaid : Prop := treeOwnRow.holds Try.pinned (OpenSpec.ofChange treeOwnSpec)

/-- ITS FALSE NEIGHBOUR: 'it returns false'. Refute it at one input. -/
def treeOwnWrong : ChangeSpec := { name := "treeOwn", fn := fun _ => fun
  | [d1, d2] => { results := [.lit (.bool false)], args := [d1, d2] }
  | _ => none }
def TreeOwnWrongFalsely : Prop := treeOwnRow.holds Try.pinned (OpenSpec.ofChange treeOwnWrong)

/-- 'tolseylaw24.MessSame': WHATEVER THE INPUT: true; the input reads as it did. -/
def messSameSpec : ChangeSpec := { name := "messSame", fn := fun _ => fun
  | [d1, d2, d3] => { results := [.lit (.bool true)], args := [d1, d2, d3] }
  | _ => none }
def messSameRow : OpenClaim := { program := "ytdmmaammpjdmbaa", sum := "aa5dd5283daaf0d6d31ed523a387615eebd2c3ecc0519af084182fef062b8933", func := "tolsey/tolseylaw24.MessSame", spec := "messSame", apart := false }
def MessSameSaid : Prop := messSameRow.holds Try.pinned (OpenSpec.ofChange messSameSpec)

/-- ITS FALSE NEIGHBOUR: 'it returns false'. Refute it at one input. -/
def messSameWrong : ChangeSpec := { name := "messSame", fn := fun _ => fun
  | [d1, d2, d3] => { results := [.lit (.bool false)], args := [d1, d2, d3] }
  | _ => none }
def MessSameWrongFalsely : Prop := messSameRow.holds Try.pinned (OpenSpec.ofChange messSameWrong)

/-- 'tolseylaw18.SafeForks': WHATEVER THE INPUT: true; the input reads as it did. -/
def safeForksSpec : ChangeSpec := { name := "safeForks", fn := fun _ => fun
  | [d] => { results := [.lit (.bool true)], args := [d] }
  | _ => none }
def safeForksRow : OpenClaim := { program := "ytdmmaammpjdmbaa", sum := "aa5dd5283daaf0d6d31ed523a387615eebd2c3ecc0519af084182fef062b8933", func := "tolsey/tolseylaw18.SafeForks", spec := "safeForks", apart := false }
def SafeForksSaid : Prop := safeForksRow.holds Try.pinned (OpenSpec.ofChange safeForksSpec)

/-- ITS FALSE NEIGHBOUR: 'it returns false'. Refute it at one input. -/
def safeForksWrong : ChangeSpec := { name := "safeForks", fn := fun _ => fun
  | [d] => { results := [.lit (.bool false)], args := [d] }
  | _ => none }
def SafeForksWrongFalsely : Prop := safeForksRow.holds Try.pinned (OpenSpec.ofChange safeForksWrong)

/-- 'tolseylaw18.SafeThrees': WHATEVER THE INPUT: true; the input reads as it did. -/
def safeThreesSpec : ChangeSpec := { name := "safeThrees", fn := fun _ => fun
  | [d1, d2, d3, d4] => { results := [.lit (.bool true)], args := [d1, d2, d3, d4] }
  | _ => none }
def safeThreesRow : OpenClaim := { program := "ytdmmaammpjdmbaa", sum := "aa5dd5283daaf0d6d31ed523a387615eebd2c3ecc0519af084182fef062b8933", func := "tolsey/tolseylaw18.SafeThrees", spec := "safeThrees", apart := false }
def SafeThreesSaid : Prop := safeThreesRow.holds Try.pinned (OpenSpec.ofChange safeThreesSpec)

/-- ITS FALSE NEIGHBOUR: 'it returns false'. Refute it at one input. -/
def safeThreesWrong : ChangeSpec := { name := "safeThrees", fn := fun _ => fun
  | [d1, d2, d3, d4] => { results := [.lit (.bool false)], args := [d1, d2, d3, d4] }
  | _ => none }
def SafeThreesWrongFalsely : Prop := safeThreesRow.holds Try.pinned (OpenSpec.ofChange safeThreesWrong)

/-- 'tolseylaw18.SafeRises': WHATEVER THE INPUT: true; the input reads as it did. -/
def safeRisesSpec : ChangeSpec := { name := "safeRises", fn := fun _ => fun
  | [d1, d2] => { results := [.lit (.bool true)], args := [d1, d2] }
  | _ => none }
def safeRisesRow : OpenClaim := { program := "ytdmmaammpjdmbaa", sum := "aa5dd5283daaf0d6d31ed523a387615eebd2c3ecc0519af084182fef062b8933", func := "tolsey/tolseylaw18.SafeRises", spec := "safeRises", apart := false }
def SafeRisesSaid : Prop := safeRisesRow.holds Try.pinned (OpenSpec.ofChange safeRisesSpec)

/-- ITS FALSE NEIGHBOUR: 'it returns false'. Refute it at one input. -/
def safeRisesWrong : ChangeSpec := { name := "safeRises", fn := fun _ => fun
  | [d1, d2] => { results := [.lit (.bool false)], args := [d1, d2] }
  | _ => none }
def SafeRisesWrongFalsely : Prop := safeRisesRow.holds Try.pinned (OpenSpec.ofChange safeRisesWrong)

/- THE SECOND FORM. 'bulk': how many values and letters a reading holds, each counted each time it is reached (what is shared counts as often as it is met; a slice's spare places count too). A statement '..UptoSaid' is the law's where the arguments, and the package variables that the reading takes, are together of bulk at most 1048576: NARROWER than '..Said'. Prove '..Said' where nothing that the law and all that it calls make is longer than what came in: it says more and counts as full. Else prove '..UptoSaid'. A law counts once. -/
mutual
def uptoBulk {H : Type} : DataW H → Nat
  | .lit (.string bytes) => bytes.length + 1
  | .lit _ => 1
  | .nil => 1
  | .ptr d => uptoBulk d + 1
  | .slice elems spare => uptoBulkAll elems + uptoBulkAll spare + 1
  | .agg parts => uptoBulkAll parts + 1
  | .iface _ d => uptoBulk d + 1
  | .map entries => uptoBulkEntries entries + 1
  | .held _ => 1
def uptoBulkAll {H : Type} : List (DataW H) → Nat
  | [] => 0
  | d :: r => uptoBulk d + uptoBulkAll r
def uptoBulkEntries {H : Type} : List (Lit × DataW H) → Nat
  | [] => 0
  | x :: r => uptoBulkEntry x + uptoBulkEntries r
def uptoBulkEntry {H : Type} : Lit × DataW H → Nat
  | (.string bytes, d) => bytes.length + uptoBulk d + 1
  | (_, d) => uptoBulk d + 1
 end
def uptoSmall : (H : Type) → List (DataW H) → Bool := fun _ ds => decide (uptoBulkAll ds ≤ 1048576)
def OpenSpec.upto (s : _root_.Go.ChangeSpec) : _root_.Go.OpenSpec := { _root_.Go.OpenSpec.ofChange s with cond := some uptoSmall }

/-- 'tolseylaw15.CertForged', WHERE WHAT IT READS IS OF BULK AT MOST 1048576: true; the input reads as it did. -/
def certForgedUptoRow : OpenClaim := { program := "ytdmmaammpjdmbaa", sum := "aa5dd5283daaf0d6d31ed523a387615eebd2c3ecc0519af084182fef062b8933", func := "tolsey/tolseylaw15.CertForged", spec := "certForged", unfollowed := true, recurses := true, apart := false, narrowed := true }
def CertForgedUptoSaid : Prop := certForgedUptoRow.holds Try.pinned (OpenSpec.upto certForgedSpec)

/-- 'tolseylaw15.CertGrows', WHERE WHAT IT READS IS OF BULK AT MOST 1048576: true; the input reads as it did. -/
def certGrowsUptoRow : OpenClaim := { program := "ytdmmaammpjdmbaa", sum := "aa5dd5283daaf0d6d31ed523a387615eebd2c3ecc0519af084182fef062b8933", func := "tolsey/tolseylaw15.CertGrows", spec := "certGrows", unfollowed := true, recurses := true, apart := false, narrowed := true }
def CertGrowsUptoSaid : Prop := certGrowsUptoRow.holds Try.pinned (OpenSpec.upto certGrowsSpec)

/-- 'tolseylaw15.CertMeet', WHERE WHAT IT READS IS OF BULK AT MOST 1048576: true; the input reads as it did. -/
def certMeetUptoRow : OpenClaim := { program := "ytdmmaammpjdmbaa", sum := "aa5dd5283daaf0d6d31ed523a387615eebd2c3ecc0519af084182fef062b8933", func := "tolsey/tolseylaw15.CertMeet", spec := "certMeet", unfollowed := true, recurses := true, apart := false, narrowed := true }
def CertMeetUptoSaid : Prop := certMeetUptoRow.holds Try.pinned (OpenSpec.upto certMeetSpec)

/-- 'tolseylaw15.CertTells', WHERE WHAT IT READS IS OF BULK AT MOST 1048576: true; the input reads as it did. -/
def certTellsUptoRow : OpenClaim := { program := "ytdmmaammpjdmbaa", sum := "aa5dd5283daaf0d6d31ed523a387615eebd2c3ecc0519af084182fef062b8933", func := "tolsey/tolseylaw15.CertTells", spec := "certTells", unfollowed := true, recurses := true, apart := false, narrowed := true }
def CertTellsUptoSaid : Prop := certTellsUptoRow.holds Try.pinned (OpenSpec.upto certTellsSpec)

/-- 'tolseylaw17.TreeWays', WHERE WHAT IT READS IS OF BULK AT MOST 1048576: true; the input reads as it did. -/
def treeWaysUptoRow : OpenClaim := { program := "ytdmmaammpjdmbaa", sum := "aa5dd5283daaf0d6d31ed523a387615eebd2c3ecc0519af084182fef062b8933", func := "tolsey/tolseylaw17.TreeWays", spec := "treeWays", apart := false, narrowed := true }
def TreeWaysUptoSaid : Prop := treeWaysUptoRow.holds Try.pinned (OpenSpec.upto treeWaysSpec)

/-- 'tolseylaw17.TreeForks', WHERE WHAT IT READS IS OF BULK AT MOST 1048576: true; the input reads as it did. -/
def treeForksUptoRow : OpenClaim := { program := "ytdmmaammpjdmbaa", sum := "aa5dd5283daaf0d6d31ed523a387615eebd2c3ecc0519af084182fef062b8933", func := "tolsey/tolseylaw17.TreeForks", spec := "treeForks", apart := false, narrowed := true }
def TreeForksUptoSaid : Prop := treeForksUptoRow.holds Try.pinned (OpenSpec.upto treeForksSpec)

/-- 'tolseylaw17.TreeTells', WHERE WHAT IT READS IS OF BULK AT MOST 1048576: true; the input reads as it did. -/
def treeTellsUptoRow : OpenClaim := { program := "ytdmmaammpjdmbaa", sum := "aa5dd5283daaf0d6d31ed523a387615eebd2c3ecc0519af084182fef062b8933", func := "tolsey/tolseylaw17.TreeTells", spec := "treeTells", apart := false, narrowed := true }
def TreeTellsUptoSaid : Prop := treeTellsUptoRow.holds Try.pinned (OpenSpec.upto treeTellsSpec)

/-- 'tolseylaw17.TreeOwn', WHERE WHAT IT READS IS OF BULK AT MOST 1048576: true; the input reads as it did. -/
def treeOwnUptoRow : OpenClaim := { program := "ytdmmaammpjdmbaa", sum := "aa5dd5283daaf0d6d31ed523a387615eebd2c3ecc0519af084182fef062b8933", func := "tolsey/tolseylaw17.TreeOwn", spec := "treeOwn", apart := false, narrowed := true }
def TreeOwnUptoSaid : Prop := treeOwnUptoRow.holds Try.pinned (OpenSpec.upto treeOwnSpec)

/-- 'tolseylaw24.MessSame', WHERE WHAT IT READS IS OF BULK AT MOST 1048576: true; the input reads as it did. -/
def messSameUptoRow : OpenClaim := { program := "ytdmmaammpjdmbaa", sum := "aa5dd5283daaf0d6d31ed523a387615eebd2c3ecc0519af084182fef062b8933", func := "tolsey/tolseylaw24.MessSame", spec := "messSame", apart := false, narrowed := true }
def MessSameUptoSaid : Prop := messSameUptoRow.holds Try.pinned (OpenSpec.upto messSameSpec)

/-- 'tolseylaw18.SafeForks', WHERE WHAT IT READS IS OF BULK AT MOST 1048576: true; the input reads as it did. -/
def safeForksUptoRow : OpenClaim := { program := "ytdmmaammpjdmbaa", sum := "aa5dd5283daaf0d6d31ed523a387615eebd2c3ecc0519af084182fef062b8933", func := "tolsey/tolseylaw18.SafeForks", spec := "safeForks", apart := false, narrowed := true }
def SafeForksUptoSaid : Prop := safeForksUptoRow.holds Try.pinned (OpenSpec.upto safeForksSpec)

/-- 'tolseylaw18.SafeThrees', WHERE WHAT IT READS IS OF BULK AT MOST 1048576: true; the input reads as it did. -/
def safeThreesUptoRow : OpenClaim := { program := "ytdmmaammpjdmbaa", sum := "aa5dd5283daaf0d6d31ed523a387615eebd2c3ecc0519af084182fef062b8933", func := "tolsey/tolseylaw18.SafeThrees", spec := "safeThrees", apart := false, narrowed := true }
def SafeThreesUptoSaid : Prop := safeThreesUptoRow.holds Try.pinned (OpenSpec.upto safeThreesSpec)

/-- 'tolseylaw18.SafeRises', WHERE WHAT IT READS IS OF BULK AT MOST 1048576: true; the input reads as it did. -/
def safeRisesUptoRow : OpenClaim := { program := "ytdmmaammpjdmbaa", sum := "aa5dd5283daaf0d6d31ed523a387615eebd2c3ecc0519af084182fef062b8933", func := "tolsey/tolseylaw18.SafeRises", spec := "safeRises", apart := false, narrowed := true }
def SafeRisesUptoSaid : Prop := safeRisesUptoRow.holds Try.pinned (OpenSpec.upto safeRisesSpec)

end Rows
end Go.Proofs.Ytdmmaammpjdmbaa
