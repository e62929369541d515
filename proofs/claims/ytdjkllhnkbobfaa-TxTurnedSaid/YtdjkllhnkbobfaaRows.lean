/-
  No cell of these rows narrows 'for every input' (looked for: loops, veiled, ifaces, maps, wideKeys, modest, calm, conditions, laid).
  DERIVED. THE GIVEN ROWS OF THIS SEAT. 12 by the template 'for every input the law returns true; each argument reads behind the call as it read before'; 0 by the template 'total and deterministic' (their statements: YtdjkllhnkbobfaaTotals.lean).
  GIVEN WITH THE SEED: the statements are not yours to turn. If you find one false, say at which input.
  Laid BY PROGRAM, IN A SANDBOX (cutbox-rows.mjs): the forced cells as the released guide's own fill.sh prints them over the translation d54c74799ec7492e… (all of the seat's roots in one cut). By AI agents, Wed Nov 11 2026. No macro, syntax, notation, axiom, sorry.
-/
import Derived.Test.YtdjkllhnkbobfaaChecked
import GoSem.Claim
import GoSem.ClaimJoined
import GoSem.ClaimMapViews
import Derived.JoinedTies
import Derived.KernelRfl
namespace Go.Proofs.Ytdjkllhnkbobfaa
/- THE CELL 'sum', in the pinned program and in every row, IS THE sha256 OF THE DUMP (.gsa) THAT YtdjkllhnkbobfaaProg.lean LOADS. Nothing in Lean hashes anything: it is a label: what it is worth is what the hold of that sum in a sandbox is worth. -/
noncomputable def Try.pinned : Pinned := { name := "ytdjkllhnkbobfaa", sum := "d54c74799ec7492ec1e2635d4d6a324cccefd01d6e55b94202d259dda12bc77a", checked := Try.checked }
namespace Rows
def none {H : Type} : Left H := { results := [], args := [] }

/-- 'tolseylaw2.WireUnlike': WHATEVER THE INPUT: true; the input reads as it did. -/
def wireUnlikeSpec : ChangeSpec := { name := "wireUnlike", fn := fun _ => fun
  | [d1, d2, d3, d4] => { results := [.lit (.bool true)], args := [d1, d2, d3, d4] }
  | _ => none }
def wireUnlikeRow : OpenClaim := { program := "ytdjkllhnkbobfaa", sum := "d54c74799ec7492ec1e2635d4d6a324cccefd01d6e55b94202d259dda12bc77a", func := "tolsey/tolseylaw2.WireUnlike", spec := "wireUnlike", apart := false }
def WireUnlikeSaid : Prop := wireUnlikeRow.holds Try.pinned (OpenSpec.ofChange wireUnlikeSpec)

/-- ITS FALSE NEIGHBOUR: 'it returns false'. Refute it at one input. -/
def wireUnlikeWrong : ChangeSpec := { name := "wireUnlike", fn := fun _ => fun
  | [d1, d2, d3, d4] => { results := [.lit (.bool false)], args := [d1, d2, d3, d4] }
  | _ => none }
def WireUnlikeWrongFalsely : Prop := wireUnlikeRow.holds Try.pinned (OpenSpec.ofChange wireUnlikeWrong)

/-- 'tolseylaw2.WireOwn': WHATEVER THE INPUT: true; the input reads as it did. -/
def wireOwnSpec : ChangeSpec := { name := "wireOwn", fn := fun _ => fun
  | [d1, d2] => { results := [.lit (.bool true)], args := [d1, d2] }
  | _ => none }
def wireOwnRow : OpenClaim := { program := "ytdjkllhnkbobfaa", sum := "d54c74799ec7492ec1e2635d4d6a324cccefd01d6e55b94202d259dda12bc77a", func := "tolsey/tolseylaw2.WireOwn", spec := "wireOwn", apart := false }
def WireOwnSaid : Prop := wireOwnRow.holds Try.pinned (OpenSpec.ofChange wireOwnSpec)

/-- ITS FALSE NEIGHBOUR: 'it returns false'. Refute it at one input. -/
def wireOwnWrong : ChangeSpec := { name := "wireOwn", fn := fun _ => fun
  | [d1, d2] => { results := [.lit (.bool false)], args := [d1, d2] }
  | _ => none }
def WireOwnWrongFalsely : Prop := wireOwnRow.holds Try.pinned (OpenSpec.ofChange wireOwnWrong)

/-- 'tolseylaw2.WireLong': WHATEVER THE INPUT: true; the input reads as it did. -/
def wireLongSpec : ChangeSpec := { name := "wireLong", fn := fun _ => fun
  | [d] => { results := [.lit (.bool true)], args := [d] }
  | _ => none }
def wireLongRow : OpenClaim := { program := "ytdjkllhnkbobfaa", sum := "d54c74799ec7492ec1e2635d4d6a324cccefd01d6e55b94202d259dda12bc77a", func := "tolsey/tolseylaw2.WireLong", spec := "wireLong", apart := false }
def WireLongSaid : Prop := wireLongRow.holds Try.pinned (OpenSpec.ofChange wireLongSpec)

/-- ITS FALSE NEIGHBOUR: 'it returns false'. Refute it at one input. -/
def wireLongWrong : ChangeSpec := { name := "wireLong", fn := fun _ => fun
  | [d] => { results := [.lit (.bool false)], args := [d] }
  | _ => none }
def WireLongWrongFalsely : Prop := wireLongRow.holds Try.pinned (OpenSpec.ofChange wireLongWrong)

/-- 'tolseylaw2.WireBack': WHATEVER THE INPUT: true; the input reads as it did. -/
def wireBackSpec : ChangeSpec := { name := "wireBack", fn := fun _ => fun
  | [d1, d2] => { results := [.lit (.bool true)], args := [d1, d2] }
  | _ => none }
def wireBackRow : OpenClaim := { program := "ytdjkllhnkbobfaa", sum := "d54c74799ec7492ec1e2635d4d6a324cccefd01d6e55b94202d259dda12bc77a", func := "tolsey/tolseylaw2.WireBack", spec := "wireBack", apart := false }
def WireBackSaid : Prop := wireBackRow.holds Try.pinned (OpenSpec.ofChange wireBackSpec)

/-- ITS FALSE NEIGHBOUR: 'it returns false'. Refute it at one input. -/
def wireBackWrong : ChangeSpec := { name := "wireBack", fn := fun _ => fun
  | [d1, d2] => { results := [.lit (.bool false)], args := [d1, d2] }
  | _ => none }
def WireBackWrongFalsely : Prop := wireBackRow.holds Try.pinned (OpenSpec.ofChange wireBackWrong)

/-- 'tolseylaw2.WireReads': WHATEVER THE INPUT: true; the input reads as it did. -/
def wireReadsSpec : ChangeSpec := { name := "wireReads", fn := fun _ => fun
  | [d1, d2] => { results := [.lit (.bool true)], args := [d1, d2] }
  | _ => none }
def wireReadsRow : OpenClaim := { program := "ytdjkllhnkbobfaa", sum := "d54c74799ec7492ec1e2635d4d6a324cccefd01d6e55b94202d259dda12bc77a", func := "tolsey/tolseylaw2.WireReads", spec := "wireReads", apart := false }
def WireReadsSaid : Prop := wireReadsRow.holds Try.pinned (OpenSpec.ofChange wireReadsSpec)

/-- ITS FALSE NEIGHBOUR: 'it returns false'. Refute it at one input. -/
def wireReadsWrong : ChangeSpec := { name := "wireReads", fn := fun _ => fun
  | [d1, d2] => { results := [.lit (.bool false)], args := [d1, d2] }
  | _ => none }
def WireReadsWrongFalsely : Prop := wireReadsRow.holds Try.pinned (OpenSpec.ofChange wireReadsWrong)

/-- 'tolseylaw11.TxForms': WHATEVER THE INPUT: true; the input reads as it did. -/
def txFormsSpec : ChangeSpec := { name := "txForms", fn := fun _ => fun
  | [d] => { results := [.lit (.bool true)], args := [d] }
  | _ => none }
def txFormsRow : OpenClaim := { program := "ytdjkllhnkbobfaa", sum := "d54c74799ec7492ec1e2635d4d6a324cccefd01d6e55b94202d259dda12bc77a", func := "tolsey/tolseylaw11.TxForms", spec := "txForms", apart := false }
def TxFormsSaid : Prop := txFormsRow.holds Try.pinned (OpenSpec.ofChange txFormsSpec)

/-- ITS FALSE NEIGHBOUR: 'it returns false'. Refute it at one input. -/
def txFormsWrong : ChangeSpec := { name := "txForms", fn := fun _ => fun
  | [d] => { results := [.lit (.bool false)], args := [d] }
  | _ => none }
def TxFormsWrongFalsely : Prop := txFormsRow.holds Try.pinned (OpenSpec.ofChange txFormsWrong)

/-- 'tolseylaw11.TxTurned': WHATEVER THE INPUT: true; the input reads as it did. -/
def txTurnedSpec : ChangeSpec := { name := "txTurned", fn := fun _ => fun
  | [d1, d2, d3, d4, d5, d6] => { results := [.lit (.bool true)], args := [d1, d2, d3, d4, d5, d6] }
  | _ => none }
def txTurnedRow : OpenClaim := { program := "ytdjkllhnkbobfaa", sum := "d54c74799ec7492ec1e2635d4d6a324cccefd01d6e55b94202d259dda12bc77a", func := "tolsey/tolseylaw11.TxTurned", spec := "txTurned", apart := false }
def TxTurnedSaid : Prop := txTurnedRow.holds Try.pinned (OpenSpec.ofChange txTurnedSpec)

/-- ITS FALSE NEIGHBOUR: 'it returns false'. Refute it at one input. -/
def txTurnedWrong : ChangeSpec := { name := "txTurned", fn := fun _ => fun
  | [d1, d2, d3, d4, d5, d6] => { results := [.lit (.bool false)], args := [d1, d2, d3, d4, d5, d6] }
  | _ => none }
def TxTurnedWrongFalsely : Prop := txTurnedRow.holds Try.pinned (OpenSpec.ofChange txTurnedWrong)

/-- 'tolseylaw11.TxBack': WHATEVER THE INPUT: true; the input reads as it did. -/
def txBackSpec : ChangeSpec := { name := "txBack", fn := fun _ => fun
  | [d1, d2, d3, d4] => { results := [.lit (.bool true)], args := [d1, d2, d3, d4] }
  | _ => none }
def txBackRow : OpenClaim := { program := "ytdjkllhnkbobfaa", sum := "d54c74799ec7492ec1e2635d4d6a324cccefd01d6e55b94202d259dda12bc77a", func := "tolsey/tolseylaw11.TxBack", spec := "txBack", apart := false }
def TxBackSaid : Prop := txBackRow.holds Try.pinned (OpenSpec.ofChange txBackSpec)

/-- ITS FALSE NEIGHBOUR: 'it returns false'. Refute it at one input. -/
def txBackWrong : ChangeSpec := { name := "txBack", fn := fun _ => fun
  | [d1, d2, d3, d4] => { results := [.lit (.bool false)], args := [d1, d2, d3, d4] }
  | _ => none }
def TxBackWrongFalsely : Prop := txBackRow.holds Try.pinned (OpenSpec.ofChange txBackWrong)

/-- 'tolseylaw15.CertForged': WHATEVER THE INPUT: true; the input reads as it did. -/
def certForgedSpec : ChangeSpec := { name := "certForged", fn := fun _ => fun
  | [d1, d2, d3, d4, d5] => { results := [.lit (.bool true)], args := [d1, d2, d3, d4, d5] }
  | _ => none }
def certForgedRow : OpenClaim := { program := "ytdjkllhnkbobfaa", sum := "d54c74799ec7492ec1e2635d4d6a324cccefd01d6e55b94202d259dda12bc77a", func := "tolsey/tolseylaw15.CertForged", spec := "certForged", unfollowed := true, recurses := true, apart := false }
def CertForgedSaid : Prop := certForgedRow.holds Try.pinned (OpenSpec.ofChange certForgedSpec)

/-- ITS FALSE NEIGHBOUR: 'it returns false'. Refute it at one input. -/
def certForgedWrong : ChangeSpec := { name := "certForged", fn := fun _ => fun
  | [d1, d2, d3, d4, d5] => { results := [.lit (.bool false)], args := [d1, d2, d3, d4, d5] }
  | _ => none }
def CertForgedWrongFalsely : Prop := certForgedRow.holds Try.pinned (OpenSpec.ofChange certForgedWrong)

/-- 'tolseylaw15.CertGrows': WHATEVER THE INPUT: true; the input reads as it did. -/
def certGrowsSpec : ChangeSpec := { name := "certGrows", fn := fun _ => fun
  | [d1, d2, d3] => { results := [.lit (.bool true)], args := [d1, d2, d3] }
  | _ => none }
def certGrowsRow : OpenClaim := { program := "ytdjkllhnkbobfaa", sum := "d54c74799ec7492ec1e2635d4d6a324cccefd01d6e55b94202d259dda12bc77a", func := "tolsey/tolseylaw15.CertGrows", spec := "certGrows", unfollowed := true, recurses := true, apart := false }
def CertGrowsSaid : Prop := certGrowsRow.holds Try.pinned (OpenSpec.ofChange certGrowsSpec)

/-- ITS FALSE NEIGHBOUR: 'it returns false'. Refute it at one input. -/
def certGrowsWrong : ChangeSpec := { name := "certGrows", fn := fun _ => fun
  | [d1, d2, d3] => { results := [.lit (.bool false)], args := [d1, d2, d3] }
  | _ => none }
def CertGrowsWrongFalsely : Prop := certGrowsRow.holds Try.pinned (OpenSpec.ofChange certGrowsWrong)

/-- 'tolseylaw15.CertMeet': WHATEVER THE INPUT: true; the input reads as it did. -/
def certMeetSpec : ChangeSpec := { name := "certMeet", fn := fun _ => fun
  | [d1, d2, d3] => { results := [.lit (.bool true)], args := [d1, d2, d3] }
  | _ => none }
def certMeetRow : OpenClaim := { program := "ytdjkllhnkbobfaa", sum := "d54c74799ec7492ec1e2635d4d6a324cccefd01d6e55b94202d259dda12bc77a", func := "tolsey/tolseylaw15.CertMeet", spec := "certMeet", unfollowed := true, recurses := true, apart := false }
def CertMeetSaid : Prop := certMeetRow.holds Try.pinned (OpenSpec.ofChange certMeetSpec)

/-- ITS FALSE NEIGHBOUR: 'it returns false'. Refute it at one input. -/
def certMeetWrong : ChangeSpec := { name := "certMeet", fn := fun _ => fun
  | [d1, d2, d3] => { results := [.lit (.bool false)], args := [d1, d2, d3] }
  | _ => none }
def CertMeetWrongFalsely : Prop := certMeetRow.holds Try.pinned (OpenSpec.ofChange certMeetWrong)

/-- 'tolseylaw15.CertTells': WHATEVER THE INPUT: true; the input reads as it did. -/
def certTellsSpec : ChangeSpec := { name := "certTells", fn := fun _ => fun
  | [d1, d2, d3, d4, d5, d6, d7, d8] => { results := [.lit (.bool true)], args := [d1, d2, d3, d4, d5, d6, d7, d8] }
  | _ => none }
def certTellsRow : OpenClaim := { program := "ytdjkllhnkbobfaa", sum := "d54c74799ec7492ec1e2635d4d6a324cccefd01d6e55b94202d259dda12bc77a", func := "tolsey/tolseylaw15.CertTells", spec := "certTells", unfollowed := true, recurses := true, apart := false }
def CertTellsSaid : Prop := certTellsRow.holds Try.pinned (OpenSpec.ofChange certTellsSpec)

/-- ITS FALSE NEIGHBOUR: 'it returns false'. Refute it at one input. -/
def certTellsWrong : ChangeSpec := { name := "certTells", fn := fun _ => fun
  | [d1, d2, d3, d4, d5, d6, d7, d8] => { results := [.lit (.bool false)], args := [d1, d2, d3, d4, d5, d6, d7, d8] }
  | _ => none }
def CertTellsWrongFalsely : Prop := certTellsRow.holds Try.pinned (OpenSpec.ofChange certTellsWrong)

/- THE SECOND FORM. 'bulk': how many values and letters a reading holds, each counted each time it is reached (what is shared counts as often as it is met; a slice's spare places count too). A statement '..UptoSaid' is the law's where the arguments, and the package variables that the reading takes, are together of bulk at most 1048576: NARROWER than '..Said'. Prove '..Said' where nothing that the law and all that it calls make is longer than what came in: it says more and counts as full. Else prove '..UptoSaid'. A law counts once. -/
mutual
def uptoBulk {H : Type} : DataW H → Nat
  | .lit (.string bytes) => bytes.length + 1
  | .lit _ => 1
  | .nil => 1
  | .ptr d => uptoBulk d + 1
  | .slice elems spare => uptoBulkAll elems + uptoBulkAll spare + 1
  | .agg parts => uptoBulkAll parts + 1
  | .iface _ d => uptoBulk d + 1
  | .map entries => uptoBulkEntries entries + 1
  | .held _ => 1
def uptoBulkAll {H : Type} : List (DataW H) → Nat
  | [] => 0
  | d :: r => uptoBulk d + uptoBulkAll r
def uptoBulkEntries {H : Type} : List (Lit × DataW H) → Nat
  | [] => 0
  | x :: r => uptoBulkEntry x + uptoBulkEntries r
def uptoBulkEntry {H : Type} : Lit × DataW H → Nat
  | (.string bytes, d) => bytes.length + uptoBulk d + 1
  | (_, d) => uptoBulk d + 1
 end
def uptoSmall : (H : Type) → List (DataW H) → Bool := fun _ ds => decide (uptoBulkAll ds ≤ 1048576)
def OpenSpec.upto (s : _root_.Go.ChangeSpec) : _root_.Go.OpenSpec := { _root_.Go.OpenSpec.ofChange s with cond := some uptoSmall }

/-- 'tolseylaw2.WireUnlike', WHERE WHAT IT READS IS OF BULK AT MOST 1048576: true; the input reads as it did. -/
def wireUnlikeUptoRow : OpenClaim := { program := "ytdjkllhnkbobfaa", sum := "d54c74799ec7492ec1e2635d4d6a324cccefd01d6e55b94202d259dda12bc77a", func := "tolsey/tolseylaw2.WireUnlike", spec := "wireUnlike", apart := false, narrowed := true }
def WireUnlikeUptoSaid : Prop := wireUnlikeUptoRow.holds Try.pinned (OpenSpec.upto wireUnlikeSpec)

/-- 'tolseylaw2.WireOwn', WHERE WHAT IT READS IS OF BULK AT MOST 1048576: true; the input reads as it did. -/
def wireOwnUptoRow : OpenClaim := { program := "ytdjkllhnkbobfaa", sum := "d54c74799ec7492ec1e2635d4d6a324cccefd01d6e55b94202d259dda12bc77a", func := "tolsey/tolseylaw2.WireOwn", spec := "wireOwn", apart := false, narrowed := true }
def WireOwnUptoSaid : Prop := wireOwnUptoRow.holds Try.pinned (OpenSpec.upto wireOwnSpec)

/-- 'tolseylaw2.WireLong', WHERE WHAT IT READS IS OF BULK AT MOST 1048576: true; the input reads as it did. -/
def wireLongUptoRow : OpenClaim := { program := "ytdjkllhnkbobfaa", sum := "d54c74799ec7492ec1e2635d4d6a324cccefd01d6e55b94202d259dda12bc77a", func := "tolsey/tolseylaw2.WireLong", spec := "wireLong", apart := false, narrowed := true }
def WireLongUptoSaid : Prop := wireLongUptoRow.holds Try.pinned (OpenSpec.upto wireLongSpec)

/-- 'tolseylaw2.WireBack', WHERE WHAT IT READS IS OF BULK AT MOST 1048576: true; the input reads as it did. -/
def wireBackUptoRow : OpenClaim := { program := "ytdjkllhnkbobfaa", sum := "d54c74799ec7492ec1e2635d4d6a324cccefd01d6e55b94202d259dda12bc77a", func := "tolsey/tolseylaw2.WireBack", spec := "wireBack", apart := false, narrowed := true }
def WireBackUptoSaid : Prop := wireBackUptoRow.holds Try.pinned (OpenSpec.upto wireBackSpec)

/-- 'tolseylaw2.WireReads', WHERE WHAT IT READS IS OF BULK AT MOST 1048576: true; the input reads as it did. -/
def wireReadsUptoRow : OpenClaim := { program := "ytdjkllhnkbobfaa", sum := "d54c74799ec7492ec1e2635d4d6a324cccefd01d6e55b94202d259dda12bc77a", func := "tolsey/tolseylaw2.WireReads", spec := "wireReads", apart := false, narrowed := true }
def WireReadsUptoSaid : Prop := wireReadsUptoRow.holds Try.pinned (OpenSpec.upto wireReadsSpec)

/-- 'tolseylaw11.TxForms', WHERE WHAT IT READS IS OF BULK AT MOST 1048576: true; the input reads as it did. -/
def txFormsUptoRow : OpenClaim := { program := "ytdjkllhnkbobfaa", sum := "d54c74799ec7492ec1e2635d4d6a324cccefd01d6e55b94202d259dda12bc77a", func := "tolsey/tolseylaw11.TxForms", spec := "txForms", apart := false, narrowed := true }
def TxFormsUptoSaid : Prop := txFormsUptoRow.holds Try.pinned (OpenSpec.upto txFormsSpec)

/-- 'tolseylaw11.TxTurned', WHERE WHAT IT READS IS OF BULK AT MOST 1048576: true; the input reads as it did. -/
def txTurnedUptoRow : OpenClaim := { program := "ytdjkllhnkbobfaa", sum := "d54c74799ec7492ec1e2635d4d6a324cccefd01d6e55b94202d259dda12bc77a", func := "tolsey/tolseylaw11.TxTurned", spec := "txTurned", apart := false, narrowed := true }
def TxTurnedUptoSaid : Prop := txTurnedUptoRow.holds Try.pinned (OpenSpec.upto txTurnedSpec)

/-- 'tolseylaw11.TxBack', WHERE WHAT IT READS IS OF BULK AT MOST 1048576: true; the input reads as it did. -/
def txBackUptoRow : OpenClaim := { program := "ytdjkllhnkbobfaa", sum := "d54c74799ec7492ec1e2635d4d6a324cccefd01d6e55b94202d259dda12bc77a", func := "tolsey/tolseylaw11.TxBack", spec := "txBack", apart := false, narrowed := true }
def TxBackUptoSaid : Prop := txBackUptoRow.holds Try.pinned (OpenSpec.upto txBackSpec)

/-- 'tolseylaw15.CertForged', WHERE WHAT IT READS IS OF BULK AT MOST 1048576: true; the input reads as it did. -/
def certForgedUptoRow : OpenClaim := { program := "ytdjkllhnkbobfaa", sum := "d54c74799ec7492ec1e2635d4d6a324cccefd01d6e55b94202d259dda12bc77a", func := "tolsey/tolseylaw15.CertForged", spec := "certForged", unfollowed := true, recurses := true, apart := false, narrowed := true }
def CertForgedUptoSaid : Prop := certForgedUptoRow.holds Try.pinned (OpenSpec.upto certForgedSpec)

/-- 'tolseylaw15.CertGrows', WHERE WHAT IT READS IS OF BULK AT MOST 1048576: true; the input reads as it did. -/
def certGrowsUptoRow : OpenClaim := { program := "ytdjkllhnkbobfaa", sum := "d54c74799ec7492ec1e2635d4d6a324cccefd01d6e55b94202d259dda12bc77a", func := "tolsey/tolseylaw15.CertGrows", spec := "certGrows", unfollowed := true, recurses := true, apart := false, narrowed := true }
def CertGrowsUptoSaid : Prop := certGrowsUptoRow.holds Try.pinned (OpenSpec.upto certGrowsSpec)

/-- 'tolseylaw15.CertMeet', WHERE WHAT IT READS IS OF BULK AT MOST 1048576: true; the input reads as it did. -/
def certMeetUptoRow : OpenClaim := { program := "ytdjkllhnkbobfaa", sum := "d54c74799ec7492ec1e2635d4d6a324cccefd01d6e55b94202d259dda12bc77a", func := "tolsey/tolseylaw15.CertMeet", spec := "certMeet", unfollowed := true, recurses := true, apart := false, narrowed := true }
def CertMeetUptoSaid : Prop := certMeetUptoRow.holds Try.pinned (OpenSpec.upto certMeetSpec)

/-- 'tolseylaw15.CertTells', WHERE WHAT IT READS IS OF BULK AT MOST 1048576: true; the input reads as it did. -/
def certTellsUptoRow : OpenClaim := { program := "ytdjkllhnkbobfaa", sum := "d54c74799ec7492ec1e2635d4d6a324cccefd01d6e55b94202d259dda12bc77a", func := "tolsey/tolseylaw15.CertTells", spec := "certTells", unfollowed := true, recurses := true, apart := false, narrowed := true }
def CertTellsUptoSaid : Prop := certTellsUptoRow.holds Try.pinned (OpenSpec.upto certTellsSpec)

end Rows
end Go.Proofs.Ytdjkllhnkbobfaa
