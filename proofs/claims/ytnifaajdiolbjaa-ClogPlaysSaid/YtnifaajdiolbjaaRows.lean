/-
  No cell of these rows narrows 'for every input' (looked for: loops, veiled, ifaces, maps, wideKeys, modest, calm, conditions, laid).
  DERIVED. THE GIVEN ROWS OF THIS SEAT. 10 by the template 'for every input the law returns true; each argument reads behind the call as it read before'; 0 by the template 'total and deterministic' (their statements: YtnifaajdiolbjaaTotals.lean).
  GIVEN WITH THE SEED: the statements are not yours to turn. If you find one false, say at which input.
  Laid BY PROGRAM, IN A SANDBOX (cutbox-rows.mjs): the forced cells as the released guide's own fill.sh prints them over the translation c33266271f809217… (all of the seat's roots in one cut). By AI agents, Wed Nov 11 2026. No macro, syntax, notation, axiom, sorry.
-/
import Derived.Test.YtnifaajdiolbjaaChecked
import GoSem.Claim
import GoSem.ClaimJoined
import GoSem.ClaimMapViews
import Derived.JoinedTies
import Derived.KernelRfl
namespace Go.Proofs.Ytnifaajdiolbjaa
/- THE CELL 'sum', in the pinned program and in every row, IS THE sha256 OF THE DUMP (.gsa) THAT YtnifaajdiolbjaaProg.lean LOADS. Nothing in Lean hashes anything: it is a label: what it is worth is what the hold of that sum in a sandbox is worth. -/
noncomputable def Try.pinned : Pinned := { name := "ytnifaajdiolbjaa", sum := "c33266271f80921758040153dad325e1def513d6d4178195926e7e7e49431824", checked := Try.checked }
namespace Rows
def none {H : Type} : Left H := { results := [], args := [] }

/-- 'tolseylaw16.BlokLeads': WHATEVER THE INPUT: true; the input reads as it did. -/
def blokLeadsSpec : ChangeSpec := { name := "blokLeads", fn := fun _ => fun
  | [d1, d2, d3] => { results := [.lit (.bool true)], args := [d1, d2, d3] }
  | _ => none }
def blokLeadsRow : OpenClaim := { program := "ytnifaajdiolbjaa", sum := "c33266271f80921758040153dad325e1def513d6d4178195926e7e7e49431824", func := "tolsey/tolseylaw16.BlokLeads", spec := "blokLeads", unfollowed := true, recurses := true, apart := false }
def BlokLeadsSaid : Prop := blokLeadsRow.holds Try.pinned (OpenSpec.ofChange blokLeadsSpec)

/-- ITS FALSE NEIGHBOUR: 'it returns false'. Refute it at one input. -/
def blokLeadsWrong : ChangeSpec := { name := "blokLeads", fn := fun _ => fun
  | [d1, d2, d3] => { results := [.lit (.bool false)], args := [d1, d2, d3] }
  | _ => none }
def BlokLeadsWrongFalsely : Prop := blokLeadsRow.holds Try.pinned (OpenSpec.ofChange blokLeadsWrong)

/-- 'tolseylaw16.BlokUnlike': WHATEVER THE INPUT: true; the input reads as it did. -/
def blokUnlikeSpec : ChangeSpec := { name := "blokUnlike", fn := fun _ => fun
  | [d1, d2, d3, d4] => { results := [.lit (.bool true)], args := [d1, d2, d3, d4] }
  | _ => none }
def blokUnlikeRow : OpenClaim := { program := "ytnifaajdiolbjaa", sum := "c33266271f80921758040153dad325e1def513d6d4178195926e7e7e49431824", func := "tolsey/tolseylaw16.BlokUnlike", spec := "blokUnlike", unfollowed := true, recurses := true, apart := false }
def BlokUnlikeSaid : Prop := blokUnlikeRow.holds Try.pinned (OpenSpec.ofChange blokUnlikeSpec)

/-- ITS FALSE NEIGHBOUR: 'it returns false'. Refute it at one input. -/
def blokUnlikeWrong : ChangeSpec := { name := "blokUnlike", fn := fun _ => fun
  | [d1, d2, d3, d4] => { results := [.lit (.bool false)], args := [d1, d2, d3, d4] }
  | _ => none }
def BlokUnlikeWrongFalsely : Prop := blokUnlikeRow.holds Try.pinned (OpenSpec.ofChange blokUnlikeWrong)

/-- 'tolseylaw16.BlokTells': WHATEVER THE INPUT: true; the input reads as it did. -/
def blokTellsSpec : ChangeSpec := { name := "blokTells", fn := fun _ => fun
  | [d1, d2, d3, d4, d5, d6] => { results := [.lit (.bool true)], args := [d1, d2, d3, d4, d5, d6] }
  | _ => none }
def blokTellsRow : OpenClaim := { program := "ytnifaajdiolbjaa", sum := "c33266271f80921758040153dad325e1def513d6d4178195926e7e7e49431824", func := "tolsey/tolseylaw16.BlokTells", spec := "blokTells", unfollowed := true, recurses := true, apart := false }
def BlokTellsSaid : Prop := blokTellsRow.holds Try.pinned (OpenSpec.ofChange blokTellsSpec)

/-- ITS FALSE NEIGHBOUR: 'it returns false'. Refute it at one input. -/
def blokTellsWrong : ChangeSpec := { name := "blokTells", fn := fun _ => fun
  | [d1, d2, d3, d4, d5, d6] => { results := [.lit (.bool false)], args := [d1, d2, d3, d4, d5, d6] }
  | _ => none }
def BlokTellsWrongFalsely : Prop := blokTellsRow.holds Try.pinned (OpenSpec.ofChange blokTellsWrong)

/-- 'tolseylaw19.ClogPrefix': WHATEVER THE INPUT: true; the input reads as it did. -/
def clogPrefixSpec : ChangeSpec := { name := "clogPrefix", fn := fun _ => fun
  | [d1, d2, d3] => { results := [.lit (.bool true)], args := [d1, d2, d3] }
  | _ => none }
def clogPrefixRow : OpenClaim := { program := "ytnifaajdiolbjaa", sum := "c33266271f80921758040153dad325e1def513d6d4178195926e7e7e49431824", func := "tolsey/tolseylaw19.ClogPrefix", spec := "clogPrefix", apart := false }
def ClogPrefixSaid : Prop := clogPrefixRow.holds Try.pinned (OpenSpec.ofChange clogPrefixSpec)

/-- ITS FALSE NEIGHBOUR: 'it returns false'. Refute it at one input. -/
def clogPrefixWrong : ChangeSpec := { name := "clogPrefix", fn := fun _ => fun
  | [d1, d2, d3] => { results := [.lit (.bool false)], args := [d1, d2, d3] }
  | _ => none }
def ClogPrefixWrongFalsely : Prop := clogPrefixRow.holds Try.pinned (OpenSpec.ofChange clogPrefixWrong)

/-- 'tolseylaw19.ClogTwice': WHATEVER THE INPUT: true; the input reads as it did. -/
def clogTwiceSpec : ChangeSpec := { name := "clogTwice", fn := fun _ => fun
  | [d1, d2] => { results := [.lit (.bool true)], args := [d1, d2] }
  | _ => none }
def clogTwiceRow : OpenClaim := { program := "ytnifaajdiolbjaa", sum := "c33266271f80921758040153dad325e1def513d6d4178195926e7e7e49431824", func := "tolsey/tolseylaw19.ClogTwice", spec := "clogTwice", apart := false }
def ClogTwiceSaid : Prop := clogTwiceRow.holds Try.pinned (OpenSpec.ofChange clogTwiceSpec)

/-- ITS FALSE NEIGHBOUR: 'it returns false'. Refute it at one input. -/
def clogTwiceWrong : ChangeSpec := { name := "clogTwice", fn := fun _ => fun
  | [d1, d2] => { results := [.lit (.bool false)], args := [d1, d2] }
  | _ => none }
def ClogTwiceWrongFalsely : Prop := clogTwiceRow.holds Try.pinned (OpenSpec.ofChange clogTwiceWrong)

/-- 'tolseylaw19.ClogPlays': WHATEVER THE INPUT: true; the input reads as it did. -/
def clogPlaysSpec : ChangeSpec := { name := "clogPlays", fn := fun _ => fun
  | [d1, d2, d3] => { results := [.lit (.bool true)], args := [d1, d2, d3] }
  | _ => none }
def clogPlaysRow : OpenClaim := { program := "ytnifaajdiolbjaa", sum := "c33266271f80921758040153dad325e1def513d6d4178195926e7e7e49431824", func := "tolsey/tolseylaw19.ClogPlays", spec := "clogPlays", apart := false }
def ClogPlaysSaid : Prop := clogPlaysRow.holds Try.pinned (OpenSpec.ofChange clogPlaysSpec)

/-- ITS FALSE NEIGHBOUR: 'it returns false'. Refute it at one input. -/
def clogPlaysWrong : ChangeSpec := { name := "clogPlays", fn := fun _ => fun
  | [d1, d2, d3] => { results := [.lit (.bool false)], args := [d1, d2, d3] }
  | _ => none }
def ClogPlaysWrongFalsely : Prop := clogPlaysRow.holds Try.pinned (OpenSpec.ofChange clogPlaysWrong)

/-- 'tolseylaw13.EnveUnlike': WHATEVER THE INPUT: true; the input reads as it did. -/
def enveUnlikeSpec : ChangeSpec := { name := "enveUnlike", fn := fun _ => fun
  | [d1, d2, d3, d4, d5] => { results := [.lit (.bool true)], args := [d1, d2, d3, d4, d5] }
  | _ => none }
def enveUnlikeRow : OpenClaim := { program := "ytnifaajdiolbjaa", sum := "c33266271f80921758040153dad325e1def513d6d4178195926e7e7e49431824", func := "tolsey/tolseylaw13.EnveUnlike", spec := "enveUnlike", apart := false }
def EnveUnlikeSaid : Prop := enveUnlikeRow.holds Try.pinned (OpenSpec.ofChange enveUnlikeSpec)

/-- ITS FALSE NEIGHBOUR: 'it returns false'. Refute it at one input. -/
def enveUnlikeWrong : ChangeSpec := { name := "enveUnlike", fn := fun _ => fun
  | [d1, d2, d3, d4, d5] => { results := [.lit (.bool false)], args := [d1, d2, d3, d4, d5] }
  | _ => none }
def EnveUnlikeWrongFalsely : Prop := enveUnlikeRow.holds Try.pinned (OpenSpec.ofChange enveUnlikeWrong)

/-- 'tolseylaw13.EnveLabels': WHATEVER THE INPUT: true; the input reads as it did. -/
def enveLabelsSpec : ChangeSpec := { name := "enveLabels", fn := fun _ => fun
  | [d1, d2, d3, d4] => { results := [.lit (.bool true)], args := [d1, d2, d3, d4] }
  | _ => none }
def enveLabelsRow : OpenClaim := { program := "ytnifaajdiolbjaa", sum := "c33266271f80921758040153dad325e1def513d6d4178195926e7e7e49431824", func := "tolsey/tolseylaw13.EnveLabels", spec := "enveLabels", apart := false }
def EnveLabelsSaid : Prop := enveLabelsRow.holds Try.pinned (OpenSpec.ofChange enveLabelsSpec)

/-- ITS FALSE NEIGHBOUR: 'it returns false'. Refute it at one input. -/
def enveLabelsWrong : ChangeSpec := { name := "enveLabels", fn := fun _ => fun
  | [d1, d2, d3, d4] => { results := [.lit (.bool false)], args := [d1, d2, d3, d4] }
  | _ => none }
def EnveLabelsWrongFalsely : Prop := enveLabelsRow.holds Try.pinned (OpenSpec.ofChange enveLabelsWrong)

/-- 'tolseylaw13.EnveBlind': WHATEVER THE INPUT: true; the input reads as it did. -/
def enveBlindSpec : ChangeSpec := { name := "enveBlind", fn := fun _ => fun
  | [d1, d2, d3] => { results := [.lit (.bool true)], args := [d1, d2, d3] }
  | _ => none }
def enveBlindRow : OpenClaim := { program := "ytnifaajdiolbjaa", sum := "c33266271f80921758040153dad325e1def513d6d4178195926e7e7e49431824", func := "tolsey/tolseylaw13.EnveBlind", spec := "enveBlind", apart := false }
def EnveBlindSaid : Prop := enveBlindRow.holds Try.pinned (OpenSpec.ofChange enveBlindSpec)

/-- ITS FALSE NEIGHBOUR: 'it returns false'. Refute it at one input. -/
def enveBlindWrong : ChangeSpec := { name := "enveBlind", fn := fun _ => fun
  | [d1, d2, d3] => { results := [.lit (.bool false)], args := [d1, d2, d3] }
  | _ => none }
def EnveBlindWrongFalsely : Prop := enveBlindRow.holds Try.pinned (OpenSpec.ofChange enveBlindWrong)

/-- 'tolseylaw13.EnveTells': WHATEVER THE INPUT: true; the input reads as it did. -/
def enveTellsSpec : ChangeSpec := { name := "enveTells", fn := fun _ => fun
  | [d1, d2, d3, d4, d5, d6, d7, d8, d9, d10] => { results := [.lit (.bool true)], args := [d1, d2, d3, d4, d5, d6, d7, d8, d9, d10] }
  | _ => none }
def enveTellsRow : OpenClaim := { program := "ytnifaajdiolbjaa", sum := "c33266271f80921758040153dad325e1def513d6d4178195926e7e7e49431824", func := "tolsey/tolseylaw13.EnveTells", spec := "enveTells", apart := false }
def EnveTellsSaid : Prop := enveTellsRow.holds Try.pinned (OpenSpec.ofChange enveTellsSpec)

/-- ITS FALSE NEIGHBOUR: 'it returns false'. Refute it at one input. -/
def enveTellsWrong : ChangeSpec := { name := "enveTells", fn := fun _ => fun
  | [d1, d2, d3, d4, d5, d6, d7, d8, d9, d10] => { results := [.lit (.bool false)], args := [d1, d2, d3, d4, d5, d6, d7, d8, d9, d10] }
  | _ => none }
def EnveTellsWrongFalsely : Prop := enveTellsRow.holds Try.pinned (OpenSpec.ofChange enveTellsWrong)

/- THE SECOND FORM. 'bulk': how many values and letters a reading holds, each counted each time it is reached (what is shared counts as often as it is met; a slice's spare places count too). A statement '..UptoSaid' is the law's where the arguments, and the package variables that the reading takes, are together of bulk at most 1048576: NARROWER than '..Said'. Prove '..Said' where nothing that the law and all that it calls make is longer than what came in: it says more and counts as full. Else prove '..UptoSaid'. A law counts once. -/
mutual
def uptoBulk {H : Type} : DataW H → Nat
  | .lit (.string bytes) => bytes.length + 1
  | .lit _ => 1
  | .nil => 1
  | .ptr d => uptoBulk d + 1
  | .slice elems spare => uptoBulkAll elems + uptoBulkAll spare + 1
  | .agg parts => uptoBulkAll parts + 1
  | .iface _ d => uptoBulk d + 1
  | .map entries => uptoBulkEntries entries + 1
  | .held _ => 1
def uptoBulkAll {H : Type} : List (DataW H) → Nat
  | [] => 0
  | d :: r => uptoBulk d + uptoBulkAll r
def uptoBulkEntries {H : Type} : List (Lit × DataW H) → Nat
  | [] => 0
  | x :: r => uptoBulkEntry x + uptoBulkEntries r
def uptoBulkEntry {H : Type} : Lit × DataW H → Nat
  | (.string bytes, d) => bytes.length + uptoBulk d + 1
  | (_, d) => uptoBulk d + 1
 end
def uptoSmall : (H : Type) → List (DataW H) → Bool := fun _ ds => decide (uptoBulkAll ds ≤ 1048576)
def OpenSpec.upto (s : _root_.Go.ChangeSpec) : _root_.Go.OpenSpec := { _root_.Go.OpenSpec.ofChange s with cond := some uptoSmall }

/-- 'tolseylaw16.BlokLeads', WHERE WHAT IT READS IS OF BULK AT MOST 1048576: true; the input reads as it did. -/
def blokLeadsUptoRow : OpenClaim := { program := "ytnifaajdiolbjaa", sum := "c33266271f80921758040153dad325e1def513d6d4178195926e7e7e49431824", func := "tolsey/tolseylaw16.BlokLeads", spec := "blokLeads", unfollowed := true, recurses := true, apart := false, narrowed := true }
def BlokLeadsUptoSaid : Prop := blokLeadsUptoRow.holds Try.pinned (OpenSpec.upto blokLeadsSpec)

/-- 'tolseylaw16.BlokUnlike', WHERE WHAT IT READS IS OF BULK AT MOST 1048576: true; the input reads as it did. -/
def blokUnlikeUptoRow : OpenClaim := { program := "ytnifaajdiolbjaa", sum := "c33266271f80921758040153dad325e1def513d6d4178195926e7e7e49431824", func := "tolsey/tolseylaw16.BlokUnlike", spec := "blokUnlike", unfollowed := true, recurses := true, apart := false, narrowed := true }
def BlokUnlikeUptoSaid : Prop := blokUnlikeUptoRow.holds Try.pinned (OpenSpec.upto blokUnlikeSpec)

/-- 'tolseylaw16.BlokTells', WHERE WHAT IT READS IS OF BULK AT MOST 1048576: true; the input reads as it did. -/
def blokTellsUptoRow : OpenClaim := { program := "ytnifaajdiolbjaa", sum := "c33266271f80921758040153dad325e1def513d6d4178195926e7e7e49431824", func := "tolsey/tolseylaw16.BlokTells", spec := "blokTells", unfollowed := true, recurses := true, apart := false, narrowed := true }
def BlokTellsUptoSaid : Prop := blokTellsUptoRow.holds Try.pinned (OpenSpec.upto blokTellsSpec)

/-- 'tolseylaw19.ClogPrefix', WHERE WHAT IT READS IS OF BULK AT MOST 1048576: true; the input reads as it did. -/
def clogPrefixUptoRow : OpenClaim := { program := "ytnifaajdiolbjaa", sum := "c33266271f80921758040153dad325e1def513d6d4178195926e7e7e49431824", func := "tolsey/tolseylaw19.ClogPrefix", spec := "clogPrefix", apart := false, narrowed := true }
def ClogPrefixUptoSaid : Prop := clogPrefixUptoRow.holds Try.pinned (OpenSpec.upto clogPrefixSpec)

/-- 'tolseylaw19.ClogTwice', WHERE WHAT IT READS IS OF BULK AT MOST 1048576: true; the input reads as it did. -/
def clogTwiceUptoRow : OpenClaim := { program := "ytnifaajdiolbjaa", sum := "c33266271f80921758040153dad325e1def513d6d4178195926e7e7e49431824", func := "tolsey/tolseylaw19.ClogTwice", spec := "clogTwice", apart := false, narrowed := true }
def ClogTwiceUptoSaid : Prop := clogTwiceUptoRow.holds Try.pinned (OpenSpec.upto clogTwiceSpec)

/-- 'tolseylaw19.ClogPlays', WHERE WHAT IT READS IS OF BULK AT MOST 1048576: true; the input reads as it did. -/
def clogPlaysUptoRow : OpenClaim := { program := "ytnifaajdiolbjaa", sum := "c33266271f80921758040153dad325e1def513d6d4178195926e7e7e49431824", func := "tolsey/tolseylaw19.ClogPlays", spec := "clogPlays", apart := false, narrowed := true }
def ClogPlaysUptoSaid : Prop := clogPlaysUptoRow.holds Try.pinned (OpenSpec.upto clogPlaysSpec)

/-- 'tolseylaw13.EnveUnlike', WHERE WHAT IT READS IS OF BULK AT MOST 1048576: true; the input reads as it did. -/
def enveUnlikeUptoRow : OpenClaim := { program := "ytnifaajdiolbjaa", sum := "c33266271f80921758040153dad325e1def513d6d4178195926e7e7e49431824", func := "tolsey/tolseylaw13.EnveUnlike", spec := "enveUnlike", apart := false, narrowed := true }
def EnveUnlikeUptoSaid : Prop := enveUnlikeUptoRow.holds Try.pinned (OpenSpec.upto enveUnlikeSpec)

/-- 'tolseylaw13.EnveLabels', WHERE WHAT IT READS IS OF BULK AT MOST 1048576: true; the input reads as it did. -/
def enveLabelsUptoRow : OpenClaim := { program := "ytnifaajdiolbjaa", sum := "c33266271f80921758040153dad325e1def513d6d4178195926e7e7e49431824", func := "tolsey/tolseylaw13.EnveLabels", spec := "enveLabels", apart := false, narrowed := true }
def EnveLabelsUptoSaid : Prop := enveLabelsUptoRow.holds Try.pinned (OpenSpec.upto enveLabelsSpec)

/-- 'tolseylaw13.EnveBlind', WHERE WHAT IT READS IS OF BULK AT MOST 1048576: true; the input reads as it did. -/
def enveBlindUptoRow : OpenClaim := { program := "ytnifaajdiolbjaa", sum := "c33266271f80921758040153dad325e1def513d6d4178195926e7e7e49431824", func := "tolsey/tolseylaw13.EnveBlind", spec := "enveBlind", apart := false, narrowed := true }
def EnveBlindUptoSaid : Prop := enveBlindUptoRow.holds Try.pinned (OpenSpec.upto enveBlindSpec)

/-- 'tolseylaw13.EnveTells', WHERE WHAT IT READS IS OF BULK AT MOST 1048576: true; the input reads as it did. -/
def enveTellsUptoRow : OpenClaim := { program := "ytnifaajdiolbjaa", sum := "c33266271f80921758040153dad325e1def513d6d4178195926e7e7e49431824", func := "tolsey/tolseylaw13.EnveTells", spec := "enveTells", apart := false, narrowed := true }
def EnveTellsUptoSaid : Prop := enveTellsUptoRow.holds Try.pinned (OpenSpec.upto enveTellsSpec)

end Rows
end Go.Proofs.Ytnifaajdiolbjaa
