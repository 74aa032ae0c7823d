/-
  No cell of these rows narrows 'for every input' (looked for: loops, veiled, ifaces, maps, wideKeys, modest, calm, conditions, laid).
  DERIVED. THE GIVEN ROWS OF THIS SEAT. 11 by the template 'for every input the law returns true; each argument reads behind the call as it read before'; 0 by the template 'total and deterministic' (their statements: YtdkeadfhejkidaaTotals.lean).
  GIVEN WITH THE SEED: the statements are not yours to turn. If you find one false, say at which input.
  Laid BY PROGRAM, IN A SANDBOX (cutbox-rows.mjs): the forced cells as the released guide's own fill.sh prints them over the translation b6f428ec8e51a0da… (all of the seat's roots in one cut). By AI agents, Wed Nov 11 2026. No macro, syntax, notation, axiom, sorry.
-/
import Derived.Test.YtdkeadfhejkidaaChecked
import GoSem.Claim
import GoSem.ClaimJoined
import GoSem.ClaimMapViews
import Derived.JoinedTies
import Derived.KernelRfl
namespace Go.Proofs.Ytdkeadfhejkidaa
/- THE CELL 'sum', in the pinned program and in every row, IS THE sha256 OF THE DUMP (.gsa) THAT YtdkeadfhejkidaaProg.lean LOADS. Nothing in Lean hashes anything: it is a label: what it is worth is what the hold of that sum in a sandbox is worth. -/
noncomputable def Try.pinned : Pinned := { name := "ytdkeadfhejkidaa", sum := "b6f428ec8e51a0dafc175b5292ff5099d1d9d9ba8a58513f95a7b06a3b12b56d", checked := Try.checked }
namespace Rows
def none {H : Type} : Left H := { results := [], args := [] }

/-- 'relaylaw01.ShaSums': WHATEVER THE INPUT: true; the input reads as it did. -/
def shaSumsSpec : ChangeSpec := { name := "shaSums", fn := fun _ => fun
  | [d1, d2] => { results := [.lit (.bool true)], args := [d1, d2] }
  | _ => none }
def shaSumsRow : OpenClaim := { program := "ytdkeadfhejkidaa", sum := "b6f428ec8e51a0dafc175b5292ff5099d1d9d9ba8a58513f95a7b06a3b12b56d", func := "relay/relaylaw01.ShaSums", spec := "shaSums", unfollowed := true, recurses := true, apart := false }
def ShaSumsSaid : Prop := shaSumsRow.holds Try.pinned (OpenSpec.ofChange shaSumsSpec)

/-- ITS FALSE NEIGHBOUR: 'it returns false'. Refute it at one input. -/
def shaSumsWrong : ChangeSpec := { name := "shaSums", fn := fun _ => fun
  | [d1, d2] => { results := [.lit (.bool false)], args := [d1, d2] }
  | _ => none }
def ShaSumsWrongFalsely : Prop := shaSumsRow.holds Try.pinned (OpenSpec.ofChange shaSumsWrong)

/-- 'relaylaw01.ShaSames': WHATEVER THE INPUT: true; the input reads as it did. -/
def shaSamesSpec : ChangeSpec := { name := "shaSames", fn := fun _ => fun
  | [d1, d2, d3] => { results := [.lit (.bool true)], args := [d1, d2, d3] }
  | _ => none }
def shaSamesRow : OpenClaim := { program := "ytdkeadfhejkidaa", sum := "b6f428ec8e51a0dafc175b5292ff5099d1d9d9ba8a58513f95a7b06a3b12b56d", func := "relay/relaylaw01.ShaSames", spec := "shaSames", unfollowed := true, recurses := true, apart := false }
def ShaSamesSaid : Prop := shaSamesRow.holds Try.pinned (OpenSpec.ofChange shaSamesSpec)

/-- ITS FALSE NEIGHBOUR: 'it returns false'. Refute it at one input. -/
def shaSamesWrong : ChangeSpec := { name := "shaSames", fn := fun _ => fun
  | [d1, d2, d3] => { results := [.lit (.bool false)], args := [d1, d2, d3] }
  | _ => none }
def ShaSamesWrongFalsely : Prop := shaSamesRow.holds Try.pinned (OpenSpec.ofChange shaSamesWrong)

/-- 'relaylaw01.ShaLengths': WHATEVER THE INPUT: true; the input reads as it did. -/
def shaLengthsSpec : ChangeSpec := { name := "shaLengths", fn := fun _ => fun
  | [d1, d2] => { results := [.lit (.bool true)], args := [d1, d2] }
  | _ => none }
def shaLengthsRow : OpenClaim := { program := "ytdkeadfhejkidaa", sum := "b6f428ec8e51a0dafc175b5292ff5099d1d9d9ba8a58513f95a7b06a3b12b56d", func := "relay/relaylaw01.ShaLengths", spec := "shaLengths", unfollowed := true, recurses := true, apart := false }
def ShaLengthsSaid : Prop := shaLengthsRow.holds Try.pinned (OpenSpec.ofChange shaLengthsSpec)

/-- ITS FALSE NEIGHBOUR: 'it returns false'. Refute it at one input. -/
def shaLengthsWrong : ChangeSpec := { name := "shaLengths", fn := fun _ => fun
  | [d1, d2] => { results := [.lit (.bool false)], args := [d1, d2] }
  | _ => none }
def ShaLengthsWrongFalsely : Prop := shaLengthsRow.holds Try.pinned (OpenSpec.ofChange shaLengthsWrong)

/-- 'relaylaw01.ShaMacs': WHATEVER THE INPUT: true; the input reads as it did. -/
def shaMacsSpec : ChangeSpec := { name := "shaMacs", fn := fun _ => fun
  | [d1, d2] => { results := [.lit (.bool true)], args := [d1, d2] }
  | _ => none }
def shaMacsRow : OpenClaim := { program := "ytdkeadfhejkidaa", sum := "b6f428ec8e51a0dafc175b5292ff5099d1d9d9ba8a58513f95a7b06a3b12b56d", func := "relay/relaylaw01.ShaMacs", spec := "shaMacs", unfollowed := true, recurses := true, apart := false }
def ShaMacsSaid : Prop := shaMacsRow.holds Try.pinned (OpenSpec.ofChange shaMacsSpec)

/-- ITS FALSE NEIGHBOUR: 'it returns false'. Refute it at one input. -/
def shaMacsWrong : ChangeSpec := { name := "shaMacs", fn := fun _ => fun
  | [d1, d2] => { results := [.lit (.bool false)], args := [d1, d2] }
  | _ => none }
def ShaMacsWrongFalsely : Prop := shaMacsRow.holds Try.pinned (OpenSpec.ofChange shaMacsWrong)

/-- 'relaylaw01.ShaBits': WHATEVER THE INPUT: true; the input reads as it did. -/
def shaBitsSpec : ChangeSpec := { name := "shaBits", fn := fun _ => fun
  | [d1, d2] => { results := [.lit (.bool true)], args := [d1, d2] }
  | _ => none }
def shaBitsRow : OpenClaim := { program := "ytdkeadfhejkidaa", sum := "b6f428ec8e51a0dafc175b5292ff5099d1d9d9ba8a58513f95a7b06a3b12b56d", func := "relay/relaylaw01.ShaBits", spec := "shaBits", unfollowed := true, recurses := true, apart := false }
def ShaBitsSaid : Prop := shaBitsRow.holds Try.pinned (OpenSpec.ofChange shaBitsSpec)

/-- ITS FALSE NEIGHBOUR: 'it returns false'. Refute it at one input. -/
def shaBitsWrong : ChangeSpec := { name := "shaBits", fn := fun _ => fun
  | [d1, d2] => { results := [.lit (.bool false)], args := [d1, d2] }
  | _ => none }
def ShaBitsWrongFalsely : Prop := shaBitsRow.holds Try.pinned (OpenSpec.ofChange shaBitsWrong)

/-- 'relaylaw01.ShaKeys': WHATEVER THE INPUT: true; the input reads as it did. -/
def shaKeysSpec : ChangeSpec := { name := "shaKeys", fn := fun _ => fun
  | [d1, d2, d3] => { results := [.lit (.bool true)], args := [d1, d2, d3] }
  | _ => none }
def shaKeysRow : OpenClaim := { program := "ytdkeadfhejkidaa", sum := "b6f428ec8e51a0dafc175b5292ff5099d1d9d9ba8a58513f95a7b06a3b12b56d", func := "relay/relaylaw01.ShaKeys", spec := "shaKeys", unfollowed := true, recurses := true, apart := false }
def ShaKeysSaid : Prop := shaKeysRow.holds Try.pinned (OpenSpec.ofChange shaKeysSpec)

/-- ITS FALSE NEIGHBOUR: 'it returns false'. Refute it at one input. -/
def shaKeysWrong : ChangeSpec := { name := "shaKeys", fn := fun _ => fun
  | [d1, d2, d3] => { results := [.lit (.bool false)], args := [d1, d2, d3] }
  | _ => none }
def ShaKeysWrongFalsely : Prop := shaKeysRow.holds Try.pinned (OpenSpec.ofChange shaKeysWrong)

/-- 'relaylaw02.HkdfExpands': WHATEVER THE INPUT: true; the input reads as it did. -/
def hkdfExpandsSpec : ChangeSpec := { name := "hkdfExpands", fn := fun _ => fun
  | [d1, d2, d3] => { results := [.lit (.bool true)], args := [d1, d2, d3] }
  | _ => none }
def hkdfExpandsRow : OpenClaim := { program := "ytdkeadfhejkidaa", sum := "b6f428ec8e51a0dafc175b5292ff5099d1d9d9ba8a58513f95a7b06a3b12b56d", func := "relay/relaylaw02.HkdfExpands", spec := "hkdfExpands", unfollowed := true, recurses := true, apart := false }
def HkdfExpandsSaid : Prop := hkdfExpandsRow.holds Try.pinned (OpenSpec.ofChange hkdfExpandsSpec)

/-- ITS FALSE NEIGHBOUR: 'it returns false'. Refute it at one input. -/
def hkdfExpandsWrong : ChangeSpec := { name := "hkdfExpands", fn := fun _ => fun
  | [d1, d2, d3] => { results := [.lit (.bool false)], args := [d1, d2, d3] }
  | _ => none }
def HkdfExpandsWrongFalsely : Prop := hkdfExpandsRow.holds Try.pinned (OpenSpec.ofChange hkdfExpandsWrong)

/-- 'relaylaw02.HkdfExtracts': WHATEVER THE INPUT: true; the input reads as it did. -/
def hkdfExtractsSpec : ChangeSpec := { name := "hkdfExtracts", fn := fun _ => fun
  | [d1, d2] => { results := [.lit (.bool true)], args := [d1, d2] }
  | _ => none }
def hkdfExtractsRow : OpenClaim := { program := "ytdkeadfhejkidaa", sum := "b6f428ec8e51a0dafc175b5292ff5099d1d9d9ba8a58513f95a7b06a3b12b56d", func := "relay/relaylaw02.HkdfExtracts", spec := "hkdfExtracts", unfollowed := true, recurses := true, apart := false }
def HkdfExtractsSaid : Prop := hkdfExtractsRow.holds Try.pinned (OpenSpec.ofChange hkdfExtractsSpec)

/-- ITS FALSE NEIGHBOUR: 'it returns false'. Refute it at one input. -/
def hkdfExtractsWrong : ChangeSpec := { name := "hkdfExtracts", fn := fun _ => fun
  | [d1, d2] => { results := [.lit (.bool false)], args := [d1, d2] }
  | _ => none }
def HkdfExtractsWrongFalsely : Prop := hkdfExtractsRow.holds Try.pinned (OpenSpec.ofChange hkdfExtractsWrong)

/-- 'relaylaw02.HkdfBlocks': WHATEVER THE INPUT: true; the input reads as it did. -/
def hkdfBlocksSpec : ChangeSpec := { name := "hkdfBlocks", fn := fun _ => fun
  | [d1, d2, d3] => { results := [.lit (.bool true)], args := [d1, d2, d3] }
  | _ => none }
def hkdfBlocksRow : OpenClaim := { program := "ytdkeadfhejkidaa", sum := "b6f428ec8e51a0dafc175b5292ff5099d1d9d9ba8a58513f95a7b06a3b12b56d", func := "relay/relaylaw02.HkdfBlocks", spec := "hkdfBlocks", unfollowed := true, recurses := true, apart := false }
def HkdfBlocksSaid : Prop := hkdfBlocksRow.holds Try.pinned (OpenSpec.ofChange hkdfBlocksSpec)

/-- ITS FALSE NEIGHBOUR: 'it returns false'. Refute it at one input. -/
def hkdfBlocksWrong : ChangeSpec := { name := "hkdfBlocks", fn := fun _ => fun
  | [d1, d2, d3] => { results := [.lit (.bool false)], args := [d1, d2, d3] }
  | _ => none }
def HkdfBlocksWrongFalsely : Prop := hkdfBlocksRow.holds Try.pinned (OpenSpec.ofChange hkdfBlocksWrong)

/-- 'relaylaw02.HkdfLabels': WHATEVER THE INPUT: true; the input reads as it did. -/
def hkdfLabelsSpec : ChangeSpec := { name := "hkdfLabels", fn := fun _ => fun
  | [d1, d2, d3] => { results := [.lit (.bool true)], args := [d1, d2, d3] }
  | _ => none }
def hkdfLabelsRow : OpenClaim := { program := "ytdkeadfhejkidaa", sum := "b6f428ec8e51a0dafc175b5292ff5099d1d9d9ba8a58513f95a7b06a3b12b56d", func := "relay/relaylaw02.HkdfLabels", spec := "hkdfLabels", unfollowed := true, recurses := true, apart := false }
def HkdfLabelsSaid : Prop := hkdfLabelsRow.holds Try.pinned (OpenSpec.ofChange hkdfLabelsSpec)

/-- ITS FALSE NEIGHBOUR: 'it returns false'. Refute it at one input. -/
def hkdfLabelsWrong : ChangeSpec := { name := "hkdfLabels", fn := fun _ => fun
  | [d1, d2, d3] => { results := [.lit (.bool false)], args := [d1, d2, d3] }
  | _ => none }
def HkdfLabelsWrongFalsely : Prop := hkdfLabelsRow.holds Try.pinned (OpenSpec.ofChange hkdfLabelsWrong)

/-- 'relaylaw02.HkdfApart': WHATEVER THE INPUT: true; the input reads as it did. -/
def hkdfApartSpec : ChangeSpec := { name := "hkdfApart", fn := fun _ => fun
  | [d1, d2, d3] => { results := [.lit (.bool true)], args := [d1, d2, d3] }
  | _ => none }
def hkdfApartRow : OpenClaim := { program := "ytdkeadfhejkidaa", sum := "b6f428ec8e51a0dafc175b5292ff5099d1d9d9ba8a58513f95a7b06a3b12b56d", func := "relay/relaylaw02.HkdfApart", spec := "hkdfApart", unfollowed := true, recurses := true, apart := false }
def HkdfApartSaid : Prop := hkdfApartRow.holds Try.pinned (OpenSpec.ofChange hkdfApartSpec)

/-- ITS FALSE NEIGHBOUR: 'it returns false'. Refute it at one input. -/
def hkdfApartWrong : ChangeSpec := { name := "hkdfApart", fn := fun _ => fun
  | [d1, d2, d3] => { results := [.lit (.bool false)], args := [d1, d2, d3] }
  | _ => none }
def HkdfApartWrongFalsely : Prop := hkdfApartRow.holds Try.pinned (OpenSpec.ofChange hkdfApartWrong)

/- THE SECOND FORM. 'bulk': how many values and letters a reading holds, each counted each time it is reached (what is shared counts as often as it is met; a slice's spare places count too). A statement '..UptoSaid' is the law's where the arguments, and the package variables that the reading takes, are together of bulk at most 1048576: NARROWER than '..Said'. Prove '..Said' where nothing that the law and all that it calls make is longer than what came in: it says more and counts as full. Else prove '..UptoSaid'. A law counts once. -/
mutual
def uptoBulk {H : Type} : DataW H → Nat
  | .lit (.string bytes) => bytes.length + 1
  | .lit _ => 1
  | .nil => 1
  | .ptr d => uptoBulk d + 1
  | .slice elems spare => uptoBulkAll elems + uptoBulkAll spare + 1
  | .agg parts => uptoBulkAll parts + 1
  | .iface _ d => uptoBulk d + 1
  | .map entries => uptoBulkEntries entries + 1
  | .held _ => 1
def uptoBulkAll {H : Type} : List (DataW H) → Nat
  | [] => 0
  | d :: r => uptoBulk d + uptoBulkAll r
def uptoBulkEntries {H : Type} : List (Lit × DataW H) → Nat
  | [] => 0
  | x :: r => uptoBulkEntry x + uptoBulkEntries r
def uptoBulkEntry {H : Type} : Lit × DataW H → Nat
  | (.string bytes, d) => bytes.length + uptoBulk d + 1
  | (_, d) => uptoBulk d + 1
 end
def uptoSmall : (H : Type) → List (DataW H) → Bool := fun _ ds => decide (uptoBulkAll ds ≤ 1048576)
def OpenSpec.upto (s : _root_.Go.ChangeSpec) : _root_.Go.OpenSpec := { _root_.Go.OpenSpec.ofChange s with cond := some uptoSmall }

/-- 'relaylaw01.ShaSums', WHERE WHAT IT READS IS OF BULK AT MOST 1048576: true; the input reads as it did. -/
def shaSumsUptoRow : OpenClaim := { program := "ytdkeadfhejkidaa", sum := "b6f428ec8e51a0dafc175b5292ff5099d1d9d9ba8a58513f95a7b06a3b12b56d", func := "relay/relaylaw01.ShaSums", spec := "shaSums", unfollowed := true, recurses := true, apart := false, narrowed := true }
def ShaSumsUptoSaid : Prop := shaSumsUptoRow.holds Try.pinned (OpenSpec.upto shaSumsSpec)

/-- 'relaylaw01.ShaSames', WHERE WHAT IT READS IS OF BULK AT MOST 1048576: true; the input reads as it did. -/
def shaSamesUptoRow : OpenClaim := { program := "ytdkeadfhejkidaa", sum := "b6f428ec8e51a0dafc175b5292ff5099d1d9d9ba8a58513f95a7b06a3b12b56d", func := "relay/relaylaw01.ShaSames", spec := "shaSames", unfollowed := true, recurses := true, apart := false, narrowed := true }
def ShaSamesUptoSaid : Prop := shaSamesUptoRow.holds Try.pinned (OpenSpec.upto shaSamesSpec)

/-- 'relaylaw01.ShaLengths', WHERE WHAT IT READS IS OF BULK AT MOST 1048576: true; the input reads as it did. -/
def shaLengthsUptoRow : OpenClaim := { program := "ytdkeadfhejkidaa", sum := "b6f428ec8e51a0dafc175b5292ff5099d1d9d9ba8a58513f95a7b06a3b12b56d", func := "relay/relaylaw01.ShaLengths", spec := "shaLengths", unfollowed := true, recurses := true, apart := false, narrowed := true }
def ShaLengthsUptoSaid : Prop := shaLengthsUptoRow.holds Try.pinned (OpenSpec.upto shaLengthsSpec)

/-- 'relaylaw01.ShaMacs', WHERE WHAT IT READS IS OF BULK AT MOST 1048576: true; the input reads as it did. -/
def shaMacsUptoRow : OpenClaim := { program := "ytdkeadfhejkidaa", sum := "b6f428ec8e51a0dafc175b5292ff5099d1d9d9ba8a58513f95a7b06a3b12b56d", func := "relay/relaylaw01.ShaMacs", spec := "shaMacs", unfollowed := true, recurses := true, apart := false, narrowed := true }
def ShaMacsUptoSaid : Prop := shaMacsUptoRow.holds Try.pinned (OpenSpec.upto shaMacsSpec)

/-- 'relaylaw01.ShaBits', WHERE WHAT IT READS IS OF BULK AT MOST 1048576: true; the input reads as it did. -/
def shaBitsUptoRow : OpenClaim := { program := "ytdkeadfhejkidaa", sum := "b6f428ec8e51a0dafc175b5292ff5099d1d9d9ba8a58513f95a7b06a3b12b56d", func := "relay/relaylaw01.ShaBits", spec := "shaBits", unfollowed := true, recurses := true, apart := false, narrowed := true }
def ShaBitsUptoSaid : Prop := shaBitsUptoRow.holds Try.pinned (OpenSpec.upto shaBitsSpec)

/-- 'relaylaw01.ShaKeys', WHERE WHAT IT READS IS OF BULK AT MOST 1048576: true; the input reads as it did. -/
def shaKeysUptoRow : OpenClaim := { program := "ytdkeadfhejkidaa", sum := "b6f428ec8e51a0dafc175b5292ff5099d1d9d9ba8a58513f95a7b06a3b12b56d", func := "relay/relaylaw01.ShaKeys", spec := "shaKeys", unfollowed := true, recurses := true, apart := false, narrowed := true }
def ShaKeysUptoSaid : Prop := shaKeysUptoRow.holds Try.pinned (OpenSpec.upto shaKeysSpec)

/-- 'relaylaw02.HkdfExpands', WHERE WHAT IT READS IS OF BULK AT MOST 1048576: true; the input reads as it did. -/
def hkdfExpandsUptoRow : OpenClaim := { program := "ytdkeadfhejkidaa", sum := "b6f428ec8e51a0dafc175b5292ff5099d1d9d9ba8a58513f95a7b06a3b12b56d", func := "relay/relaylaw02.HkdfExpands", spec := "hkdfExpands", unfollowed := true, recurses := true, apart := false, narrowed := true }
def HkdfExpandsUptoSaid : Prop := hkdfExpandsUptoRow.holds Try.pinned (OpenSpec.upto hkdfExpandsSpec)

/-- 'relaylaw02.HkdfExtracts', WHERE WHAT IT READS IS OF BULK AT MOST 1048576: true; the input reads as it did. -/
def hkdfExtractsUptoRow : OpenClaim := { program := "ytdkeadfhejkidaa", sum := "b6f428ec8e51a0dafc175b5292ff5099d1d9d9ba8a58513f95a7b06a3b12b56d", func := "relay/relaylaw02.HkdfExtracts", spec := "hkdfExtracts", unfollowed := true, recurses := true, apart := false, narrowed := true }
def HkdfExtractsUptoSaid : Prop := hkdfExtractsUptoRow.holds Try.pinned (OpenSpec.upto hkdfExtractsSpec)

/-- 'relaylaw02.HkdfBlocks', WHERE WHAT IT READS IS OF BULK AT MOST 1048576: true; the input reads as it did. -/
def hkdfBlocksUptoRow : OpenClaim := { program := "ytdkeadfhejkidaa", sum := "b6f428ec8e51a0dafc175b5292ff5099d1d9d9ba8a58513f95a7b06a3b12b56d", func := "relay/relaylaw02.HkdfBlocks", spec := "hkdfBlocks", unfollowed := true, recurses := true, apart := false, narrowed := true }
def HkdfBlocksUptoSaid : Prop := hkdfBlocksUptoRow.holds Try.pinned (OpenSpec.upto hkdfBlocksSpec)

/-- 'relaylaw02.HkdfLabels', WHERE WHAT IT READS IS OF BULK AT MOST 1048576: true; the input reads as it did. -/
def hkdfLabelsUptoRow : OpenClaim := { program := "ytdkeadfhejkidaa", sum := "b6f428ec8e51a0dafc175b5292ff5099d1d9d9ba8a58513f95a7b06a3b12b56d", func := "relay/relaylaw02.HkdfLabels", spec := "hkdfLabels", unfollowed := true, recurses := true, apart := false, narrowed := true }
def HkdfLabelsUptoSaid : Prop := hkdfLabelsUptoRow.holds Try.pinned (OpenSpec.upto hkdfLabelsSpec)

/-- 'relaylaw02.HkdfApart', WHERE WHAT IT READS IS OF BULK AT MOST 1048576: true; the input reads as it did. -/
def hkdfApartUptoRow : OpenClaim := { program := "ytdkeadfhejkidaa", sum := "b6f428ec8e51a0dafc175b5292ff5099d1d9d9ba8a58513f95a7b06a3b12b56d", func := "relay/relaylaw02.HkdfApart", spec := "hkdfApart", unfollowed := true, recurses := true, apart := false, narrowed := true }
def HkdfApartUptoSaid : Prop := hkdfApartUptoRow.holds Try.pinned (OpenSpec.upto hkdfApartSpec)

end Rows
end Go.Proofs.Ytdkeadfhejkidaa
