/-
  NARROWER THAN 'FOR EVERY INPUT', by the rows' own cells (each row's printed sentence says how): RecordSeals: laid · RecordOpens: laid · RecordPads: laid · RecordKeys: laid · RecordEpochs: laid · RecordParts: laid.
  DERIVED. THE GIVEN ROWS OF THIS SEAT. 6 by the template 'for every input the law returns true; each argument reads behind the call as it read before'; 0 by the template 'total and deterministic' (their statements: YtablmdbonibjaaaDoorTotals.lean).
  GIVEN WITH THE SEED: the statements are not yours to turn. If you find one false, say at which input.
  Laid BY PROGRAM, IN A SANDBOX (cutbox-rows.mjs): the forced cells as the released guide's own fill.sh prints them over the translation 216fd7b1d9894b4d… (all of the seat's roots in one cut). By AI agents, Wed Nov 11 2026. No macro, syntax, notation, axiom, sorry.
-/
import Derived.Test.YtablmdbonibjaaaDoorChecked
import GoSem.PinnedTables
import GoSem.Claim
import GoSem.ClaimJoined
import GoSem.ClaimMapViews
import Derived.JoinedTies
import Derived.KernelRfl
namespace Go.Proofs.YtablmdbonibjaaaDoor
/- THE CELL 'sum', in the pinned program and in every row, IS THE sha256 OF THE DUMP (.gsa) THAT YtablmdbonibjaaaDoorProg.lean LOADS. Nothing in Lean hashes anything: it is a label: what it is worth is what the hold of that sum in a sandbox is worth. -/
noncomputable def Tryd.pinned : Pinned := { name := "ytablmdbonibjaaadoor", sum := "216fd7b1d9894b4dbab5275c5a1efd54e37251f8776e4a5f9fa44a789c747c7e", checked := Tryd.checked }
namespace Rows
def none {H : Type} : Left H := { results := [], args := [] }

/- WHAT THE LISTED PACKAGE-LEVEL VARIABLES READ AS WHEN THE CALL BEGINS. Each datum BY PROGRAM (the guide's laid-datum.mjs) off the statement by which the dump's own 'gosem.cut.vars' lays the variable. In a bare row this is a premise. The card (YtablmdbonibjaaaDoorCards.lean) ties it to the program's text. -/
def laid_unicode_utf8_acceptRanges {H : Type} : DataW H := .agg [.agg [.lit (.int .u8 128), .lit (.int .u8 191)], .agg [.lit (.int .u8 160), .lit (.int .u8 191)], .agg [.lit (.int .u8 128), .lit (.int .u8 159)], .agg [.lit (.int .u8 144), .lit (.int .u8 191)], .agg [.lit (.int .u8 128), .lit (.int .u8 143)], .agg [.lit (.int .u8 0), .lit (.int .u8 0)], .agg [.lit (.int .u8 0), .lit (.int .u8 0)], .agg [.lit (.int .u8 0), .lit (.int .u8 0)], .agg [.lit (.int .u8 0), .lit (.int .u8 0)], .agg [.lit (.int .u8 0), .lit (.int .u8 0)], .agg [.lit (.int .u8 0), .lit (.int .u8 0)], .agg [.lit (.int .u8 0), .lit (.int .u8 0)], .agg [.lit (.int .u8 0), .lit (.int .u8 0)], .agg [.lit (.int .u8 0), .lit (.int .u8 0)], .agg [.lit (.int .u8 0), .lit (.int .u8 0)], .agg [.lit (.int .u8 0), .lit (.int .u8 0)]]
/-- One of Go's own tables, pinned by name: the form's constant. -/
def laid_unicode_utf8_first : DataW Unit := Go.Pinned.utf8First

/-- 'relaylaw12.RecordSeals': WHATEVER THE INPUT: true; the input reads as it did. -/
def recordSealsSpec : ChangeSpec := { name := "recordSeals", fn := fun _ => fun
  | [d1, d2, d3] => { results := [.lit (.bool true)], args := [d1, d2, d3] }
  | _ => none }
def recordSealsRow : OpenClaim := { program := "ytablmdbonibjaaadoor", sum := "216fd7b1d9894b4dbab5275c5a1efd54e37251f8776e4a5f9fa44a789c747c7e", func := "relay/relaylaw12.RecordSeals", spec := "recordSeals", inPlace := ["math/bits.Add64"], unfollowed := true, recurses := true, named := ["unicode/utf8.first", "unicode/utf8.acceptRanges"], apart := false, laid := [("unicode/utf8.acceptRanges", laid_unicode_utf8_acceptRanges), ("unicode/utf8.first", laid_unicode_utf8_first)] }
def RecordSealsSaid : Prop := recordSealsRow.holds Tryd.pinned (OpenSpec.ofChange recordSealsSpec)

/-- ITS FALSE NEIGHBOUR: 'it returns false'. Refute it at one input. -/
def recordSealsWrong : ChangeSpec := { name := "recordSeals", fn := fun _ => fun
  | [d1, d2, d3] => { results := [.lit (.bool false)], args := [d1, d2, d3] }
  | _ => none }
def RecordSealsWrongFalsely : Prop := recordSealsRow.holds Tryd.pinned (OpenSpec.ofChange recordSealsWrong)

/-- 'relaylaw12.RecordOpens': WHATEVER THE INPUT: true; the input reads as it did. -/
def recordOpensSpec : ChangeSpec := { name := "recordOpens", fn := fun _ => fun
  | [d1, d2, d3] => { results := [.lit (.bool true)], args := [d1, d2, d3] }
  | _ => none }
def recordOpensRow : OpenClaim := { program := "ytablmdbonibjaaadoor", sum := "216fd7b1d9894b4dbab5275c5a1efd54e37251f8776e4a5f9fa44a789c747c7e", func := "relay/relaylaw12.RecordOpens", spec := "recordOpens", inPlace := ["math/bits.Add64"], unfollowed := true, recurses := true, named := ["unicode/utf8.first", "unicode/utf8.acceptRanges"], apart := false, laid := [("unicode/utf8.acceptRanges", laid_unicode_utf8_acceptRanges), ("unicode/utf8.first", laid_unicode_utf8_first)] }
def RecordOpensSaid : Prop := recordOpensRow.holds Tryd.pinned (OpenSpec.ofChange recordOpensSpec)

/-- ITS FALSE NEIGHBOUR: 'it returns false'. Refute it at one input. -/
def recordOpensWrong : ChangeSpec := { name := "recordOpens", fn := fun _ => fun
  | [d1, d2, d3] => { results := [.lit (.bool false)], args := [d1, d2, d3] }
  | _ => none }
def RecordOpensWrongFalsely : Prop := recordOpensRow.holds Tryd.pinned (OpenSpec.ofChange recordOpensWrong)

/-- 'relaylaw12.RecordPads': WHATEVER THE INPUT: true; the input reads as it did. -/
def recordPadsSpec : ChangeSpec := { name := "recordPads", fn := fun _ => fun
  | [d1, d2] => { results := [.lit (.bool true)], args := [d1, d2] }
  | _ => none }
def recordPadsRow : OpenClaim := { program := "ytablmdbonibjaaadoor", sum := "216fd7b1d9894b4dbab5275c5a1efd54e37251f8776e4a5f9fa44a789c747c7e", func := "relay/relaylaw12.RecordPads", spec := "recordPads", inPlace := ["math/bits.Add64"], unfollowed := true, recurses := true, named := ["unicode/utf8.first", "unicode/utf8.acceptRanges"], apart := false, laid := [("unicode/utf8.acceptRanges", laid_unicode_utf8_acceptRanges), ("unicode/utf8.first", laid_unicode_utf8_first)] }
def RecordPadsSaid : Prop := recordPadsRow.holds Tryd.pinned (OpenSpec.ofChange recordPadsSpec)

/-- ITS FALSE NEIGHBOUR: 'it returns false'. Refute it at one input. -/
def recordPadsWrong : ChangeSpec := { name := "recordPads", fn := fun _ => fun
  | [d1, d2] => { results := [.lit (.bool false)], args := [d1, d2] }
  | _ => none }
def RecordPadsWrongFalsely : Prop := recordPadsRow.holds Tryd.pinned (OpenSpec.ofChange recordPadsWrong)

/-- 'relaylaw12.RecordKeys': WHATEVER THE INPUT: true; the input reads as it did. -/
def recordKeysSpec : ChangeSpec := { name := "recordKeys", fn := fun _ => fun
  | [d1, d2, d3] => { results := [.lit (.bool true)], args := [d1, d2, d3] }
  | _ => none }
def recordKeysRow : OpenClaim := { program := "ytablmdbonibjaaadoor", sum := "216fd7b1d9894b4dbab5275c5a1efd54e37251f8776e4a5f9fa44a789c747c7e", func := "relay/relaylaw12.RecordKeys", spec := "recordKeys", inPlace := ["math/bits.Add64"], unfollowed := true, recurses := true, named := ["unicode/utf8.first", "unicode/utf8.acceptRanges"], apart := false, laid := [("unicode/utf8.acceptRanges", laid_unicode_utf8_acceptRanges), ("unicode/utf8.first", laid_unicode_utf8_first)] }
def RecordKeysSaid : Prop := recordKeysRow.holds Tryd.pinned (OpenSpec.ofChange recordKeysSpec)

/-- ITS FALSE NEIGHBOUR: 'it returns false'. Refute it at one input. -/
def recordKeysWrong : ChangeSpec := { name := "recordKeys", fn := fun _ => fun
  | [d1, d2, d3] => { results := [.lit (.bool false)], args := [d1, d2, d3] }
  | _ => none }
def RecordKeysWrongFalsely : Prop := recordKeysRow.holds Tryd.pinned (OpenSpec.ofChange recordKeysWrong)

/-- 'relaylaw12.RecordEpochs': WHATEVER THE INPUT: true; the input reads as it did. -/
def recordEpochsSpec : ChangeSpec := { name := "recordEpochs", fn := fun _ => fun
  | [d1, d2, d3] => { results := [.lit (.bool true)], args := [d1, d2, d3] }
  | _ => none }
def recordEpochsRow : OpenClaim := { program := "ytablmdbonibjaaadoor", sum := "216fd7b1d9894b4dbab5275c5a1efd54e37251f8776e4a5f9fa44a789c747c7e", func := "relay/relaylaw12.RecordEpochs", spec := "recordEpochs", inPlace := ["math/bits.Add64"], unfollowed := true, recurses := true, named := ["unicode/utf8.first", "unicode/utf8.acceptRanges"], apart := false, laid := [("unicode/utf8.acceptRanges", laid_unicode_utf8_acceptRanges), ("unicode/utf8.first", laid_unicode_utf8_first)] }
def RecordEpochsSaid : Prop := recordEpochsRow.holds Tryd.pinned (OpenSpec.ofChange recordEpochsSpec)

/-- ITS FALSE NEIGHBOUR: 'it returns false'. Refute it at one input. -/
def recordEpochsWrong : ChangeSpec := { name := "recordEpochs", fn := fun _ => fun
  | [d1, d2, d3] => { results := [.lit (.bool false)], args := [d1, d2, d3] }
  | _ => none }
def RecordEpochsWrongFalsely : Prop := recordEpochsRow.holds Tryd.pinned (OpenSpec.ofChange recordEpochsWrong)

/-- 'relaylaw12.RecordParts': WHATEVER THE INPUT: true; the input reads as it did. -/
def recordPartsSpec : ChangeSpec := { name := "recordParts", fn := fun _ => fun
  | [d1, d2] => { results := [.lit (.bool true)], args := [d1, d2] }
  | _ => none }
def recordPartsRow : OpenClaim := { program := "ytablmdbonibjaaadoor", sum := "216fd7b1d9894b4dbab5275c5a1efd54e37251f8776e4a5f9fa44a789c747c7e", func := "relay/relaylaw12.RecordParts", spec := "recordParts", inPlace := ["math/bits.Add64"], unfollowed := true, recurses := true, named := ["unicode/utf8.first", "unicode/utf8.acceptRanges"], apart := false, laid := [("unicode/utf8.acceptRanges", laid_unicode_utf8_acceptRanges), ("unicode/utf8.first", laid_unicode_utf8_first)] }
def RecordPartsSaid : Prop := recordPartsRow.holds Tryd.pinned (OpenSpec.ofChange recordPartsSpec)

/-- ITS FALSE NEIGHBOUR: 'it returns false'. Refute it at one input. -/
def recordPartsWrong : ChangeSpec := { name := "recordParts", fn := fun _ => fun
  | [d1, d2] => { results := [.lit (.bool false)], args := [d1, d2] }
  | _ => none }
def RecordPartsWrongFalsely : Prop := recordPartsRow.holds Tryd.pinned (OpenSpec.ofChange recordPartsWrong)

/- THE SECOND FORM. 'bulk': how many values and letters a reading holds, each counted each time it is reached (what is shared counts as often as it is met; a slice's spare places count too). A statement '..UptoSaid' is the law's where the arguments, and the package variables that the reading takes, are together of bulk at most 1048576: NARROWER than '..Said'. Prove '..Said' where nothing that the law and all that it calls make is longer than what came in: it says more and counts as full. Else prove '..UptoSaid'. A law counts once. -/
mutual
def uptoBulk {H : Type} : DataW H → Nat
  | .lit (.string bytes) => bytes.length + 1
  | .lit _ => 1
  | .nil => 1
  | .ptr d => uptoBulk d + 1
  | .slice elems spare => uptoBulkAll elems + uptoBulkAll spare + 1
  | .agg parts => uptoBulkAll parts + 1
  | .iface _ d => uptoBulk d + 1
  | .map entries => uptoBulkEntries entries + 1
  | .held _ => 1
def uptoBulkAll {H : Type} : List (DataW H) → Nat
  | [] => 0
  | d :: r => uptoBulk d + uptoBulkAll r
def uptoBulkEntries {H : Type} : List (Lit × DataW H) → Nat
  | [] => 0
  | x :: r => uptoBulkEntry x + uptoBulkEntries r
def uptoBulkEntry {H : Type} : Lit × DataW H → Nat
  | (.string bytes, d) => bytes.length + uptoBulk d + 1
  | (_, d) => uptoBulk d + 1
 end
def uptoSmall : (H : Type) → List (DataW H) → Bool := fun _ ds => decide (uptoBulkAll ds ≤ 1048576)
def OpenSpec.upto (s : _root_.Go.ChangeSpec) : _root_.Go.OpenSpec := { _root_.Go.OpenSpec.ofChange s with cond := some uptoSmall }

/-- 'relaylaw12.RecordSeals', WHERE WHAT IT READS IS OF BULK AT MOST 1048576: true; the input reads as it did. -/
def recordSealsUptoRow : OpenClaim := { program := "ytablmdbonibjaaadoor", sum := "216fd7b1d9894b4dbab5275c5a1efd54e37251f8776e4a5f9fa44a789c747c7e", func := "relay/relaylaw12.RecordSeals", spec := "recordSeals", inPlace := ["math/bits.Add64"], unfollowed := true, recurses := true, named := ["unicode/utf8.first", "unicode/utf8.acceptRanges"], apart := false, laid := [("unicode/utf8.acceptRanges", laid_unicode_utf8_acceptRanges), ("unicode/utf8.first", laid_unicode_utf8_first)], narrowed := true }
def RecordSealsUptoSaid : Prop := recordSealsUptoRow.holds Tryd.pinned (OpenSpec.upto recordSealsSpec)

/-- 'relaylaw12.RecordOpens', WHERE WHAT IT READS IS OF BULK AT MOST 1048576: true; the input reads as it did. -/
def recordOpensUptoRow : OpenClaim := { program := "ytablmdbonibjaaadoor", sum := "216fd7b1d9894b4dbab5275c5a1efd54e37251f8776e4a5f9fa44a789c747c7e", func := "relay/relaylaw12.RecordOpens", spec := "recordOpens", inPlace := ["math/bits.Add64"], unfollowed := true, recurses := true, named := ["unicode/utf8.first", "unicode/utf8.acceptRanges"], apart := false, laid := [("unicode/utf8.acceptRanges", laid_unicode_utf8_acceptRanges), ("unicode/utf8.first", laid_unicode_utf8_first)], narrowed := true }
def RecordOpensUptoSaid : Prop := recordOpensUptoRow.holds Tryd.pinned (OpenSpec.upto recordOpensSpec)

/-- 'relaylaw12.RecordPads', WHERE WHAT IT READS IS OF BULK AT MOST 1048576: true; the input reads as it did. -/
def recordPadsUptoRow : OpenClaim := { program := "ytablmdbonibjaaadoor", sum := "216fd7b1d9894b4dbab5275c5a1efd54e37251f8776e4a5f9fa44a789c747c7e", func := "relay/relaylaw12.RecordPads", spec := "recordPads", inPlace := ["math/bits.Add64"], unfollowed := true, recurses := true, named := ["unicode/utf8.first", "unicode/utf8.acceptRanges"], apart := false, laid := [("unicode/utf8.acceptRanges", laid_unicode_utf8_acceptRanges), ("unicode/utf8.first", laid_unicode_utf8_first)], narrowed := true }
def RecordPadsUptoSaid : Prop := recordPadsUptoRow.holds Tryd.pinned (OpenSpec.upto recordPadsSpec)

/-- 'relaylaw12.RecordKeys', WHERE WHAT IT READS IS OF BULK AT MOST 1048576: true; the input reads as it did. -/
def recordKeysUptoRow : OpenClaim := { program := "ytablmdbonibjaaadoor", sum := "216fd7b1d9894b4dbab5275c5a1efd54e37251f8776e4a5f9fa44a789c747c7e", func := "relay/relaylaw12.RecordKeys", spec := "recordKeys", inPlace := ["math/bits.Add64"], unfollowed := true, recurses := true, named := ["unicode/utf8.first", "unicode/utf8.acceptRanges"], apart := false, laid := [("unicode/utf8.acceptRanges", laid_unicode_utf8_acceptRanges), ("unicode/utf8.first", laid_unicode_utf8_first)], narrowed := true }
def RecordKeysUptoSaid : Prop := recordKeysUptoRow.holds Tryd.pinned (OpenSpec.upto recordKeysSpec)

/-- 'relaylaw12.RecordEpochs', WHERE WHAT IT READS IS OF BULK AT MOST 1048576: true; the input reads as it did. -/
def recordEpochsUptoRow : OpenClaim := { program := "ytablmdbonibjaaadoor", sum := "216fd7b1d9894b4dbab5275c5a1efd54e37251f8776e4a5f9fa44a789c747c7e", func := "relay/relaylaw12.RecordEpochs", spec := "recordEpochs", inPlace := ["math/bits.Add64"], unfollowed := true, recurses := true, named := ["unicode/utf8.first", "unicode/utf8.acceptRanges"], apart := false, laid := [("unicode/utf8.acceptRanges", laid_unicode_utf8_acceptRanges), ("unicode/utf8.first", laid_unicode_utf8_first)], narrowed := true }
def RecordEpochsUptoSaid : Prop := recordEpochsUptoRow.holds Tryd.pinned (OpenSpec.upto recordEpochsSpec)

/-- 'relaylaw12.RecordParts', WHERE WHAT IT READS IS OF BULK AT MOST 1048576: true; the input reads as it did. -/
def recordPartsUptoRow : OpenClaim := { program := "ytablmdbonibjaaadoor", sum := "216fd7b1d9894b4dbab5275c5a1efd54e37251f8776e4a5f9fa44a789c747c7e", func := "relay/relaylaw12.RecordParts", spec := "recordParts", inPlace := ["math/bits.Add64"], unfollowed := true, recurses := true, named := ["unicode/utf8.first", "unicode/utf8.acceptRanges"], apart := false, laid := [("unicode/utf8.acceptRanges", laid_unicode_utf8_acceptRanges), ("unicode/utf8.first", laid_unicode_utf8_first)], narrowed := true }
def RecordPartsUptoSaid : Prop := recordPartsUptoRow.holds Tryd.pinned (OpenSpec.upto recordPartsSpec)

end Rows
end Go.Proofs.YtablmdbonibjaaaDoor
