/-
  No cell of these rows narrows 'for every input' (looked for: loops, veiled, ifaces, maps, wideKeys, modest, calm, conditions, laid).
  DERIVED. THE GIVEN ROWS OF THIS SEAT. 12 by the template 'for every input the law returns true; each argument reads behind the call as it read before'; 0 by the template 'total and deterministic' (their statements: YtkdkpjnlknofeaaTotals.lean).
  GIVEN WITH THE SEED: the statements are not yours to turn. If you find one false, say at which input.
  Laid BY PROGRAM, IN A SANDBOX (cutbox-rows.mjs): the forced cells as the released guide's own fill.sh prints them over the translation 2373a32bca2eb7ff… (all of the seat's roots in one cut). By AI agents, Wed Nov 11 2026. No macro, syntax, notation, axiom, sorry.
-/
import Derived.Test.YtkdkpjnlknofeaaChecked
import GoSem.Claim
import GoSem.ClaimJoined
import GoSem.ClaimMapViews
import Derived.JoinedTies
import Derived.KernelRfl
namespace Go.Proofs.Ytkdkpjnlknofeaa
/- THE CELL 'sum', in the pinned program and in every row, IS THE sha256 OF THE DUMP (.gsa) THAT YtkdkpjnlknofeaaProg.lean LOADS. Nothing in Lean hashes anything: it is a label: what it is worth is what the hold of that sum in a sandbox is worth. -/
noncomputable def Try.pinned : Pinned := { name := "ytkdkpjnlknofeaa", sum := "2373a32bca2eb7ff5e6ec8fec2ab51d1aeecdd8f3ddde2ba26813ce5e6f7ae48", checked := Try.checked }
namespace Rows
def none {H : Type} : Left H := { results := [], args := [] }

/-- 'relaylaw03.ChachaBlocks': WHATEVER THE INPUT: true; the input reads as it did. -/
def chachaBlocksSpec : ChangeSpec := { name := "chachaBlocks", fn := fun _ => fun
  | [d1, d2, d3] => { results := [.lit (.bool true)], args := [d1, d2, d3] }
  | _ => none }
def chachaBlocksRow : OpenClaim := { program := "ytkdkpjnlknofeaa", sum := "2373a32bca2eb7ff5e6ec8fec2ab51d1aeecdd8f3ddde2ba26813ce5e6f7ae48", func := "relay/relaylaw03.ChachaBlocks", spec := "chachaBlocks", unfollowed := true, recurses := true, apart := false }
def ChachaBlocksSaid : Prop := chachaBlocksRow.holds Try.pinned (OpenSpec.ofChange chachaBlocksSpec)

/-- ITS FALSE NEIGHBOUR: 'it returns false'. Refute it at one input. -/
def chachaBlocksWrong : ChangeSpec := { name := "chachaBlocks", fn := fun _ => fun
  | [d1, d2, d3] => { results := [.lit (.bool false)], args := [d1, d2, d3] }
  | _ => none }
def ChachaBlocksWrongFalsely : Prop := chachaBlocksRow.holds Try.pinned (OpenSpec.ofChange chachaBlocksWrong)

/-- 'relaylaw03.ChachaApart': WHATEVER THE INPUT: true; the input reads as it did. -/
def chachaApartSpec : ChangeSpec := { name := "chachaApart", fn := fun _ => fun
  | [d1, d2, d3] => { results := [.lit (.bool true)], args := [d1, d2, d3] }
  | _ => none }
def chachaApartRow : OpenClaim := { program := "ytkdkpjnlknofeaa", sum := "2373a32bca2eb7ff5e6ec8fec2ab51d1aeecdd8f3ddde2ba26813ce5e6f7ae48", func := "relay/relaylaw03.ChachaApart", spec := "chachaApart", unfollowed := true, recurses := true, apart := false }
def ChachaApartSaid : Prop := chachaApartRow.holds Try.pinned (OpenSpec.ofChange chachaApartSpec)

/-- ITS FALSE NEIGHBOUR: 'it returns false'. Refute it at one input. -/
def chachaApartWrong : ChangeSpec := { name := "chachaApart", fn := fun _ => fun
  | [d1, d2, d3] => { results := [.lit (.bool false)], args := [d1, d2, d3] }
  | _ => none }
def ChachaApartWrongFalsely : Prop := chachaApartRow.holds Try.pinned (OpenSpec.ofChange chachaApartWrong)

/-- 'relaylaw03.ChachaStreams': WHATEVER THE INPUT: true; the input reads as it did. -/
def chachaStreamsSpec : ChangeSpec := { name := "chachaStreams", fn := fun _ => fun
  | [d1, d2, d3] => { results := [.lit (.bool true)], args := [d1, d2, d3] }
  | _ => none }
def chachaStreamsRow : OpenClaim := { program := "ytkdkpjnlknofeaa", sum := "2373a32bca2eb7ff5e6ec8fec2ab51d1aeecdd8f3ddde2ba26813ce5e6f7ae48", func := "relay/relaylaw03.ChachaStreams", spec := "chachaStreams", unfollowed := true, recurses := true, apart := false }
def ChachaStreamsSaid : Prop := chachaStreamsRow.holds Try.pinned (OpenSpec.ofChange chachaStreamsSpec)

/-- ITS FALSE NEIGHBOUR: 'it returns false'. Refute it at one input. -/
def chachaStreamsWrong : ChangeSpec := { name := "chachaStreams", fn := fun _ => fun
  | [d1, d2, d3] => { results := [.lit (.bool false)], args := [d1, d2, d3] }
  | _ => none }
def ChachaStreamsWrongFalsely : Prop := chachaStreamsRow.holds Try.pinned (OpenSpec.ofChange chachaStreamsWrong)

/-- 'relaylaw03.ChachaCounts': WHATEVER THE INPUT: true; the input reads as it did. -/
def chachaCountsSpec : ChangeSpec := { name := "chachaCounts", fn := fun _ => fun
  | [d1, d2, d3] => { results := [.lit (.bool true)], args := [d1, d2, d3] }
  | _ => none }
def chachaCountsRow : OpenClaim := { program := "ytkdkpjnlknofeaa", sum := "2373a32bca2eb7ff5e6ec8fec2ab51d1aeecdd8f3ddde2ba26813ce5e6f7ae48", func := "relay/relaylaw03.ChachaCounts", spec := "chachaCounts", unfollowed := true, recurses := true, apart := false }
def ChachaCountsSaid : Prop := chachaCountsRow.holds Try.pinned (OpenSpec.ofChange chachaCountsSpec)

/-- ITS FALSE NEIGHBOUR: 'it returns false'. Refute it at one input. -/
def chachaCountsWrong : ChangeSpec := { name := "chachaCounts", fn := fun _ => fun
  | [d1, d2, d3] => { results := [.lit (.bool false)], args := [d1, d2, d3] }
  | _ => none }
def ChachaCountsWrongFalsely : Prop := chachaCountsRow.holds Try.pinned (OpenSpec.ofChange chachaCountsWrong)

/-- 'relaylaw03.ChachaSums': WHATEVER THE INPUT: true; the input reads as it did. -/
def chachaSumsSpec : ChangeSpec := { name := "chachaSums", fn := fun _ => fun
  | [d1, d2, d3] => { results := [.lit (.bool true)], args := [d1, d2, d3] }
  | _ => none }
def chachaSumsRow : OpenClaim := { program := "ytkdkpjnlknofeaa", sum := "2373a32bca2eb7ff5e6ec8fec2ab51d1aeecdd8f3ddde2ba26813ce5e6f7ae48", func := "relay/relaylaw03.ChachaSums", spec := "chachaSums", unfollowed := true, recurses := true, apart := false }
def ChachaSumsSaid : Prop := chachaSumsRow.holds Try.pinned (OpenSpec.ofChange chachaSumsSpec)

/-- ITS FALSE NEIGHBOUR: 'it returns false'. Refute it at one input. -/
def chachaSumsWrong : ChangeSpec := { name := "chachaSums", fn := fun _ => fun
  | [d1, d2, d3] => { results := [.lit (.bool false)], args := [d1, d2, d3] }
  | _ => none }
def ChachaSumsWrongFalsely : Prop := chachaSumsRow.holds Try.pinned (OpenSpec.ofChange chachaSumsWrong)

/-- 'relaylaw04.PolyTags': WHATEVER THE INPUT: true; the input reads as it did. -/
def polyTagsSpec : ChangeSpec := { name := "polyTags", fn := fun _ => fun
  | [d1, d2] => { results := [.lit (.bool true)], args := [d1, d2] }
  | _ => none }
def polyTagsRow : OpenClaim := { program := "ytkdkpjnlknofeaa", sum := "2373a32bca2eb7ff5e6ec8fec2ab51d1aeecdd8f3ddde2ba26813ce5e6f7ae48", func := "relay/relaylaw04.PolyTags", spec := "polyTags", inPlace := ["math/bits.Add64"], apart := false }
def PolyTagsSaid : Prop := polyTagsRow.holds Try.pinned (OpenSpec.ofChange polyTagsSpec)

/-- ITS FALSE NEIGHBOUR: 'it returns false'. Refute it at one input. -/
def polyTagsWrong : ChangeSpec := { name := "polyTags", fn := fun _ => fun
  | [d1, d2] => { results := [.lit (.bool false)], args := [d1, d2] }
  | _ => none }
def PolyTagsWrongFalsely : Prop := polyTagsRow.holds Try.pinned (OpenSpec.ofChange polyTagsWrong)

/-- 'relaylaw04.PolyEdges': WHATEVER THE INPUT: true; the input reads as it did. -/
def polyEdgesSpec : ChangeSpec := { name := "polyEdges", fn := fun _ => fun
  | [d1, d2, d3] => { results := [.lit (.bool true)], args := [d1, d2, d3] }
  | _ => none }
def polyEdgesRow : OpenClaim := { program := "ytkdkpjnlknofeaa", sum := "2373a32bca2eb7ff5e6ec8fec2ab51d1aeecdd8f3ddde2ba26813ce5e6f7ae48", func := "relay/relaylaw04.PolyEdges", spec := "polyEdges", inPlace := ["math/bits.Add64"], apart := false }
def PolyEdgesSaid : Prop := polyEdgesRow.holds Try.pinned (OpenSpec.ofChange polyEdgesSpec)

/-- ITS FALSE NEIGHBOUR: 'it returns false'. Refute it at one input. -/
def polyEdgesWrong : ChangeSpec := { name := "polyEdges", fn := fun _ => fun
  | [d1, d2, d3] => { results := [.lit (.bool false)], args := [d1, d2, d3] }
  | _ => none }
def PolyEdgesWrongFalsely : Prop := polyEdgesRow.holds Try.pinned (OpenSpec.ofChange polyEdgesWrong)

/-- 'relaylaw04.PolySums': WHATEVER THE INPUT: true; the input reads as it did. -/
def polySumsSpec : ChangeSpec := { name := "polySums", fn := fun _ => fun
  | [d1, d2, d3] => { results := [.lit (.bool true)], args := [d1, d2, d3] }
  | _ => none }
def polySumsRow : OpenClaim := { program := "ytkdkpjnlknofeaa", sum := "2373a32bca2eb7ff5e6ec8fec2ab51d1aeecdd8f3ddde2ba26813ce5e6f7ae48", func := "relay/relaylaw04.PolySums", spec := "polySums", inPlace := ["math/bits.Add64"], apart := false }
def PolySumsSaid : Prop := polySumsRow.holds Try.pinned (OpenSpec.ofChange polySumsSpec)

/-- ITS FALSE NEIGHBOUR: 'it returns false'. Refute it at one input. -/
def polySumsWrong : ChangeSpec := { name := "polySums", fn := fun _ => fun
  | [d1, d2, d3] => { results := [.lit (.bool false)], args := [d1, d2, d3] }
  | _ => none }
def PolySumsWrongFalsely : Prop := polySumsRow.holds Try.pinned (OpenSpec.ofChange polySumsWrong)

/-- 'relaylaw04.PolyOnes': WHATEVER THE INPUT: true; the input reads as it did. -/
def polyOnesSpec : ChangeSpec := { name := "polyOnes", fn := fun _ => fun
  | [d1, d2] => { results := [.lit (.bool true)], args := [d1, d2] }
  | _ => none }
def polyOnesRow : OpenClaim := { program := "ytkdkpjnlknofeaa", sum := "2373a32bca2eb7ff5e6ec8fec2ab51d1aeecdd8f3ddde2ba26813ce5e6f7ae48", func := "relay/relaylaw04.PolyOnes", spec := "polyOnes", inPlace := ["math/bits.Add64"], apart := false }
def PolyOnesSaid : Prop := polyOnesRow.holds Try.pinned (OpenSpec.ofChange polyOnesSpec)

/-- ITS FALSE NEIGHBOUR: 'it returns false'. Refute it at one input. -/
def polyOnesWrong : ChangeSpec := { name := "polyOnes", fn := fun _ => fun
  | [d1, d2] => { results := [.lit (.bool false)], args := [d1, d2] }
  | _ => none }
def PolyOnesWrongFalsely : Prop := polyOnesRow.holds Try.pinned (OpenSpec.ofChange polyOnesWrong)

/-- 'relaylaw05.AeadSeals': WHATEVER THE INPUT: true; the input reads as it did. -/
def aeadSealsSpec : ChangeSpec := { name := "aeadSeals", fn := fun _ => fun
  | [d1, d2, d3] => { results := [.lit (.bool true)], args := [d1, d2, d3] }
  | _ => none }
def aeadSealsRow : OpenClaim := { program := "ytkdkpjnlknofeaa", sum := "2373a32bca2eb7ff5e6ec8fec2ab51d1aeecdd8f3ddde2ba26813ce5e6f7ae48", func := "relay/relaylaw05.AeadSeals", spec := "aeadSeals", inPlace := ["math/bits.Add64"], unfollowed := true, recurses := true, apart := false }
def AeadSealsSaid : Prop := aeadSealsRow.holds Try.pinned (OpenSpec.ofChange aeadSealsSpec)

/-- ITS FALSE NEIGHBOUR: 'it returns false'. Refute it at one input. -/
def aeadSealsWrong : ChangeSpec := { name := "aeadSeals", fn := fun _ => fun
  | [d1, d2, d3] => { results := [.lit (.bool false)], args := [d1, d2, d3] }
  | _ => none }
def AeadSealsWrongFalsely : Prop := aeadSealsRow.holds Try.pinned (OpenSpec.ofChange aeadSealsWrong)

/-- 'relaylaw05.AeadOpens': WHATEVER THE INPUT: true; the input reads as it did. -/
def aeadOpensSpec : ChangeSpec := { name := "aeadOpens", fn := fun _ => fun
  | [d1, d2, d3] => { results := [.lit (.bool true)], args := [d1, d2, d3] }
  | _ => none }
def aeadOpensRow : OpenClaim := { program := "ytkdkpjnlknofeaa", sum := "2373a32bca2eb7ff5e6ec8fec2ab51d1aeecdd8f3ddde2ba26813ce5e6f7ae48", func := "relay/relaylaw05.AeadOpens", spec := "aeadOpens", inPlace := ["math/bits.Add64"], unfollowed := true, recurses := true, apart := false }
def AeadOpensSaid : Prop := aeadOpensRow.holds Try.pinned (OpenSpec.ofChange aeadOpensSpec)

/-- ITS FALSE NEIGHBOUR: 'it returns false'. Refute it at one input. -/
def aeadOpensWrong : ChangeSpec := { name := "aeadOpens", fn := fun _ => fun
  | [d1, d2, d3] => { results := [.lit (.bool false)], args := [d1, d2, d3] }
  | _ => none }
def AeadOpensWrongFalsely : Prop := aeadOpensRow.holds Try.pinned (OpenSpec.ofChange aeadOpensWrong)

/-- 'relaylaw05.AeadApart': WHATEVER THE INPUT: true; the input reads as it did. -/
def aeadApartSpec : ChangeSpec := { name := "aeadApart", fn := fun _ => fun
  | [d1, d2, d3] => { results := [.lit (.bool true)], args := [d1, d2, d3] }
  | _ => none }
def aeadApartRow : OpenClaim := { program := "ytkdkpjnlknofeaa", sum := "2373a32bca2eb7ff5e6ec8fec2ab51d1aeecdd8f3ddde2ba26813ce5e6f7ae48", func := "relay/relaylaw05.AeadApart", spec := "aeadApart", inPlace := ["math/bits.Add64"], unfollowed := true, recurses := true, apart := false }
def AeadApartSaid : Prop := aeadApartRow.holds Try.pinned (OpenSpec.ofChange aeadApartSpec)

/-- ITS FALSE NEIGHBOUR: 'it returns false'. Refute it at one input. -/
def aeadApartWrong : ChangeSpec := { name := "aeadApart", fn := fun _ => fun
  | [d1, d2, d3] => { results := [.lit (.bool false)], args := [d1, d2, d3] }
  | _ => none }
def AeadApartWrongFalsely : Prop := aeadApartRow.holds Try.pinned (OpenSpec.ofChange aeadApartWrong)

/- THE SECOND FORM. 'bulk': how many values and letters a reading holds, each counted each time it is reached (what is shared counts as often as it is met; a slice's spare places count too). A statement '..UptoSaid' is the law's where the arguments, and the package variables that the reading takes, are together of bulk at most 1048576: NARROWER than '..Said'. Prove '..Said' where nothing that the law and all that it calls make is longer than what came in: it says more and counts as full. Else prove '..UptoSaid'. A law counts once. -/
mutual
def uptoBulk {H : Type} : DataW H → Nat
  | .lit (.string bytes) => bytes.length + 1
  | .lit _ => 1
  | .nil => 1
  | .ptr d => uptoBulk d + 1
  | .slice elems spare => uptoBulkAll elems + uptoBulkAll spare + 1
  | .agg parts => uptoBulkAll parts + 1
  | .iface _ d => uptoBulk d + 1
  | .map entries => uptoBulkEntries entries + 1
  | .held _ => 1
def uptoBulkAll {H : Type} : List (DataW H) → Nat
  | [] => 0
  | d :: r => uptoBulk d + uptoBulkAll r
def uptoBulkEntries {H : Type} : List (Lit × DataW H) → Nat
  | [] => 0
  | x :: r => uptoBulkEntry x + uptoBulkEntries r
def uptoBulkEntry {H : Type} : Lit × DataW H → Nat
  | (.string bytes, d) => bytes.length + uptoBulk d + 1
  | (_, d) => uptoBulk d + 1
 end
def uptoSmall : (H : Type) → List (DataW H) → Bool := fun _ ds => decide (uptoBulkAll ds ≤ 1048576)
def OpenSpec.upto (s : _root_.Go.ChangeSpec) : _root_.Go.OpenSpec := { _root_.Go.OpenSpec.ofChange s with cond := some uptoSmall }

/-- 'relaylaw03.ChachaBlocks', WHERE WHAT IT READS IS OF BULK AT MOST 1048576: true; the input reads as it did. -/
def chachaBlocksUptoRow : OpenClaim := { program := "ytkdkpjnlknofeaa", sum := "2373a32bca2eb7ff5e6ec8fec2ab51d1aeecdd8f3ddde2ba26813ce5e6f7ae48", func := "relay/relaylaw03.ChachaBlocks", spec := "chachaBlocks", unfollowed := true, recurses := true, apart := false, narrowed := true }
def ChachaBlocksUptoSaid : Prop := chachaBlocksUptoRow.holds Try.pinned (OpenSpec.upto chachaBlocksSpec)

/-- 'relaylaw03.ChachaApart', WHERE WHAT IT READS IS OF BULK AT MOST 1048576: true; the input reads as it did. -/
def chachaApartUptoRow : OpenClaim := { program := "ytkdkpjnlknofeaa", sum := "2373a32bca2eb7ff5e6ec8fec2ab51d1aeecdd8f3ddde2ba26813ce5e6f7ae48", func := "relay/relaylaw03.ChachaApart", spec := "chachaApart", unfollowed := true, recurses := true, apart := false, narrowed := true }
def ChachaApartUptoSaid : Prop := chachaApartUptoRow.holds Try.pinned (OpenSpec.upto chachaApartSpec)

/-- 'relaylaw03.ChachaStreams', WHERE WHAT IT READS IS OF BULK AT MOST 1048576: true; the input reads as it did. -/
def chachaStreamsUptoRow : OpenClaim := { program := "ytkdkpjnlknofeaa", sum := "2373a32bca2eb7ff5e6ec8fec2ab51d1aeecdd8f3ddde2ba26813ce5e6f7ae48", func := "relay/relaylaw03.ChachaStreams", spec := "chachaStreams", unfollowed := true, recurses := true, apart := false, narrowed := true }
def ChachaStreamsUptoSaid : Prop := chachaStreamsUptoRow.holds Try.pinned (OpenSpec.upto chachaStreamsSpec)

/-- 'relaylaw03.ChachaCounts', WHERE WHAT IT READS IS OF BULK AT MOST 1048576: true; the input reads as it did. -/
def chachaCountsUptoRow : OpenClaim := { program := "ytkdkpjnlknofeaa", sum := "2373a32bca2eb7ff5e6ec8fec2ab51d1aeecdd8f3ddde2ba26813ce5e6f7ae48", func := "relay/relaylaw03.ChachaCounts", spec := "chachaCounts", unfollowed := true, recurses := true, apart := false, narrowed := true }
def ChachaCountsUptoSaid : Prop := chachaCountsUptoRow.holds Try.pinned (OpenSpec.upto chachaCountsSpec)

/-- 'relaylaw03.ChachaSums', WHERE WHAT IT READS IS OF BULK AT MOST 1048576: true; the input reads as it did. -/
def chachaSumsUptoRow : OpenClaim := { program := "ytkdkpjnlknofeaa", sum := "2373a32bca2eb7ff5e6ec8fec2ab51d1aeecdd8f3ddde2ba26813ce5e6f7ae48", func := "relay/relaylaw03.ChachaSums", spec := "chachaSums", unfollowed := true, recurses := true, apart := false, narrowed := true }
def ChachaSumsUptoSaid : Prop := chachaSumsUptoRow.holds Try.pinned (OpenSpec.upto chachaSumsSpec)

/-- 'relaylaw04.PolyTags', WHERE WHAT IT READS IS OF BULK AT MOST 1048576: true; the input reads as it did. -/
def polyTagsUptoRow : OpenClaim := { program := "ytkdkpjnlknofeaa", sum := "2373a32bca2eb7ff5e6ec8fec2ab51d1aeecdd8f3ddde2ba26813ce5e6f7ae48", func := "relay/relaylaw04.PolyTags", spec := "polyTags", inPlace := ["math/bits.Add64"], apart := false, narrowed := true }
def PolyTagsUptoSaid : Prop := polyTagsUptoRow.holds Try.pinned (OpenSpec.upto polyTagsSpec)

/-- 'relaylaw04.PolyEdges', WHERE WHAT IT READS IS OF BULK AT MOST 1048576: true; the input reads as it did. -/
def polyEdgesUptoRow : OpenClaim := { program := "ytkdkpjnlknofeaa", sum := "2373a32bca2eb7ff5e6ec8fec2ab51d1aeecdd8f3ddde2ba26813ce5e6f7ae48", func := "relay/relaylaw04.PolyEdges", spec := "polyEdges", inPlace := ["math/bits.Add64"], apart := false, narrowed := true }
def PolyEdgesUptoSaid : Prop := polyEdgesUptoRow.holds Try.pinned (OpenSpec.upto polyEdgesSpec)

/-- 'relaylaw04.PolySums', WHERE WHAT IT READS IS OF BULK AT MOST 1048576: true; the input reads as it did. -/
def polySumsUptoRow : OpenClaim := { program := "ytkdkpjnlknofeaa", sum := "2373a32bca2eb7ff5e6ec8fec2ab51d1aeecdd8f3ddde2ba26813ce5e6f7ae48", func := "relay/relaylaw04.PolySums", spec := "polySums", inPlace := ["math/bits.Add64"], apart := false, narrowed := true }
def PolySumsUptoSaid : Prop := polySumsUptoRow.holds Try.pinned (OpenSpec.upto polySumsSpec)

/-- 'relaylaw04.PolyOnes', WHERE WHAT IT READS IS OF BULK AT MOST 1048576: true; the input reads as it did. -/
def polyOnesUptoRow : OpenClaim := { program := "ytkdkpjnlknofeaa", sum := "2373a32bca2eb7ff5e6ec8fec2ab51d1aeecdd8f3ddde2ba26813ce5e6f7ae48", func := "relay/relaylaw04.PolyOnes", spec := "polyOnes", inPlace := ["math/bits.Add64"], apart := false, narrowed := true }
def PolyOnesUptoSaid : Prop := polyOnesUptoRow.holds Try.pinned (OpenSpec.upto polyOnesSpec)

/-- 'relaylaw05.AeadSeals', WHERE WHAT IT READS IS OF BULK AT MOST 1048576: true; the input reads as it did. -/
def aeadSealsUptoRow : OpenClaim := { program := "ytkdkpjnlknofeaa", sum := "2373a32bca2eb7ff5e6ec8fec2ab51d1aeecdd8f3ddde2ba26813ce5e6f7ae48", func := "relay/relaylaw05.AeadSeals", spec := "aeadSeals", inPlace := ["math/bits.Add64"], unfollowed := true, recurses := true, apart := false, narrowed := true }
def AeadSealsUptoSaid : Prop := aeadSealsUptoRow.holds Try.pinned (OpenSpec.upto aeadSealsSpec)

/-- 'relaylaw05.AeadOpens', WHERE WHAT IT READS IS OF BULK AT MOST 1048576: true; the input reads as it did. -/
def aeadOpensUptoRow : OpenClaim := { program := "ytkdkpjnlknofeaa", sum := "2373a32bca2eb7ff5e6ec8fec2ab51d1aeecdd8f3ddde2ba26813ce5e6f7ae48", func := "relay/relaylaw05.AeadOpens", spec := "aeadOpens", inPlace := ["math/bits.Add64"], unfollowed := true, recurses := true, apart := false, narrowed := true }
def AeadOpensUptoSaid : Prop := aeadOpensUptoRow.holds Try.pinned (OpenSpec.upto aeadOpensSpec)

/-- 'relaylaw05.AeadApart', WHERE WHAT IT READS IS OF BULK AT MOST 1048576: true; the input reads as it did. -/
def aeadApartUptoRow : OpenClaim := { program := "ytkdkpjnlknofeaa", sum := "2373a32bca2eb7ff5e6ec8fec2ab51d1aeecdd8f3ddde2ba26813ce5e6f7ae48", func := "relay/relaylaw05.AeadApart", spec := "aeadApart", inPlace := ["math/bits.Add64"], unfollowed := true, recurses := true, apart := false, narrowed := true }
def AeadApartUptoSaid : Prop := aeadApartUptoRow.holds Try.pinned (OpenSpec.upto aeadApartSpec)

end Rows
end Go.Proofs.Ytkdkpjnlknofeaa
