/-
  No cell of these rows narrows 'for every input' (looked for: loops, veiled, ifaces, maps, wideKeys, modest, calm, conditions, laid).
  DERIVED. THE GIVEN ROWS OF THIS SEAT. 5 by the template 'for every input the law returns true; each argument reads behind the call as it read before'; 0 by the template 'total and deterministic' (their statements: YtnhjmapapbhhpaaTotals.lean).
  GIVEN WITH THE SEED: the statements are not yours to turn. If you find one false, say at which input.
  Laid BY PROGRAM, IN A SANDBOX (cutbox-rows.mjs): the forced cells as the released guide's own fill.sh prints them over the translation 5cbfd2d9e20a727d… (all of the seat's roots in one cut). By AI agents, Wed Nov 11 2026. No macro, syntax, notation, axiom, sorry.
-/
import Derived.Test.YtnhjmapapbhhpaaChecked
import GoSem.Claim
import GoSem.ClaimJoined
import GoSem.ClaimMapViews
import Derived.JoinedTies
import Derived.KernelRfl
namespace Go.Proofs.Ytnhjmapapbhhpaa
/- THE CELL 'sum', in the pinned program and in every row, IS THE sha256 OF THE DUMP (.gsa) THAT YtnhjmapapbhhpaaProg.lean LOADS. Nothing in Lean hashes anything: it is a label: what it is worth is what the hold of that sum in a sandbox is worth. -/
noncomputable def Try.pinned : Pinned := { name := "ytnhjmapapbhhpaa", sum := "5cbfd2d9e20a727d890d1c05a8c800bb8a78a957589094b42670df7e01a1baba", checked := Try.checked }
namespace Rows
def none {H : Type} : Left H := { results := [], args := [] }

/-- 'relaylaw06.CurveShares': WHATEVER THE INPUT: true; the input reads as it did. -/
def curveSharesSpec : ChangeSpec := { name := "curveShares", fn := fun _ => fun
  | [d1, d2] => { results := [.lit (.bool true)], args := [d1, d2] }
  | _ => none }
def curveSharesRow : OpenClaim := { program := "ytnhjmapapbhhpaa", sum := "5cbfd2d9e20a727d890d1c05a8c800bb8a78a957589094b42670df7e01a1baba", func := "relay/relaylaw06.CurveShares", spec := "curveShares", inPlace := ["math/bits.Add64"], apart := false }
def CurveSharesSaid : Prop := curveSharesRow.holds Try.pinned (OpenSpec.ofChange curveSharesSpec)

/-- ITS FALSE NEIGHBOUR: 'it returns false'. Refute it at one input. -/
def curveSharesWrong : ChangeSpec := { name := "curveShares", fn := fun _ => fun
  | [d1, d2] => { results := [.lit (.bool false)], args := [d1, d2] }
  | _ => none }
def CurveSharesWrongFalsely : Prop := curveSharesRow.holds Try.pinned (OpenSpec.ofChange curveSharesWrong)

/-- 'relaylaw06.CurveTwo': WHATEVER THE INPUT: true; the input reads as it did. -/
def curveTwoSpec : ChangeSpec := { name := "curveTwo", fn := fun _ => fun
  | [d1, d2] => { results := [.lit (.bool true)], args := [d1, d2] }
  | _ => none }
def curveTwoRow : OpenClaim := { program := "ytnhjmapapbhhpaa", sum := "5cbfd2d9e20a727d890d1c05a8c800bb8a78a957589094b42670df7e01a1baba", func := "relay/relaylaw06.CurveTwo", spec := "curveTwo", inPlace := ["math/bits.Add64"], apart := false }
def CurveTwoSaid : Prop := curveTwoRow.holds Try.pinned (OpenSpec.ofChange curveTwoSpec)

/-- ITS FALSE NEIGHBOUR: 'it returns false'. Refute it at one input. -/
def curveTwoWrong : ChangeSpec := { name := "curveTwo", fn := fun _ => fun
  | [d1, d2] => { results := [.lit (.bool false)], args := [d1, d2] }
  | _ => none }
def CurveTwoWrongFalsely : Prop := curveTwoRow.holds Try.pinned (OpenSpec.ofChange curveTwoWrong)

/-- 'relaylaw06.CurveBits': WHATEVER THE INPUT: true; the input reads as it did. -/
def curveBitsSpec : ChangeSpec := { name := "curveBits", fn := fun _ => fun
  | [d1, d2, d3] => { results := [.lit (.bool true)], args := [d1, d2, d3] }
  | _ => none }
def curveBitsRow : OpenClaim := { program := "ytnhjmapapbhhpaa", sum := "5cbfd2d9e20a727d890d1c05a8c800bb8a78a957589094b42670df7e01a1baba", func := "relay/relaylaw06.CurveBits", spec := "curveBits", inPlace := ["math/bits.Add64"], apart := false }
def CurveBitsSaid : Prop := curveBitsRow.holds Try.pinned (OpenSpec.ofChange curveBitsSpec)

/-- ITS FALSE NEIGHBOUR: 'it returns false'. Refute it at one input. -/
def curveBitsWrong : ChangeSpec := { name := "curveBits", fn := fun _ => fun
  | [d1, d2, d3] => { results := [.lit (.bool false)], args := [d1, d2, d3] }
  | _ => none }
def CurveBitsWrongFalsely : Prop := curveBitsRow.holds Try.pinned (OpenSpec.ofChange curveBitsWrong)

/-- 'relaylaw06.CurveChains': WHATEVER THE INPUT: true; the input reads as it did. -/
def curveChainsSpec : ChangeSpec := { name := "curveChains", fn := fun _ => fun
  | [d1, d2, d3] => { results := [.lit (.bool true)], args := [d1, d2, d3] }
  | _ => none }
def curveChainsRow : OpenClaim := { program := "ytnhjmapapbhhpaa", sum := "5cbfd2d9e20a727d890d1c05a8c800bb8a78a957589094b42670df7e01a1baba", func := "relay/relaylaw06.CurveChains", spec := "curveChains", inPlace := ["math/bits.Add64"], apart := false }
def CurveChainsSaid : Prop := curveChainsRow.holds Try.pinned (OpenSpec.ofChange curveChainsSpec)

/-- ITS FALSE NEIGHBOUR: 'it returns false'. Refute it at one input. -/
def curveChainsWrong : ChangeSpec := { name := "curveChains", fn := fun _ => fun
  | [d1, d2, d3] => { results := [.lit (.bool false)], args := [d1, d2, d3] }
  | _ => none }
def CurveChainsWrongFalsely : Prop := curveChainsRow.holds Try.pinned (OpenSpec.ofChange curveChainsWrong)

/-- 'relaylaw06.CurveLow': WHATEVER THE INPUT: true; the input reads as it did. -/
def curveLowSpec : ChangeSpec := { name := "curveLow", fn := fun _ => fun
  | [d1, d2] => { results := [.lit (.bool true)], args := [d1, d2] }
  | _ => none }
def curveLowRow : OpenClaim := { program := "ytnhjmapapbhhpaa", sum := "5cbfd2d9e20a727d890d1c05a8c800bb8a78a957589094b42670df7e01a1baba", func := "relay/relaylaw06.CurveLow", spec := "curveLow", inPlace := ["math/bits.Add64"], apart := false }
def CurveLowSaid : Prop := curveLowRow.holds Try.pinned (OpenSpec.ofChange curveLowSpec)

/-- ITS FALSE NEIGHBOUR: 'it returns false'. Refute it at one input. -/
def curveLowWrong : ChangeSpec := { name := "curveLow", fn := fun _ => fun
  | [d1, d2] => { results := [.lit (.bool false)], args := [d1, d2] }
  | _ => none }
def CurveLowWrongFalsely : Prop := curveLowRow.holds Try.pinned (OpenSpec.ofChange curveLowWrong)

/- THE SECOND FORM. 'bulk': how many values and letters a reading holds, each counted each time it is reached (what is shared counts as often as it is met; a slice's spare places count too). A statement '..UptoSaid' is the law's where the arguments, and the package variables that the reading takes, are together of bulk at most 1048576: NARROWER than '..Said'. Prove '..Said' where nothing that the law and all that it calls make is longer than what came in: it says more and counts as full. Else prove '..UptoSaid'. A law counts once. -/
mutual
def uptoBulk {H : Type} : DataW H → Nat
  | .lit (.string bytes) => bytes.length + 1
  | .lit _ => 1
  | .nil => 1
  | .ptr d => uptoBulk d + 1
  | .slice elems spare => uptoBulkAll elems + uptoBulkAll spare + 1
  | .agg parts => uptoBulkAll parts + 1
  | .iface _ d => uptoBulk d + 1
  | .map entries => uptoBulkEntries entries + 1
  | .held _ => 1
def uptoBulkAll {H : Type} : List (DataW H) → Nat
  | [] => 0
  | d :: r => uptoBulk d + uptoBulkAll r
def uptoBulkEntries {H : Type} : List (Lit × DataW H) → Nat
  | [] => 0
  | x :: r => uptoBulkEntry x + uptoBulkEntries r
def uptoBulkEntry {H : Type} : Lit × DataW H → Nat
  | (.string bytes, d) => bytes.length + uptoBulk d + 1
  | (_, d) => uptoBulk d + 1
 end
def uptoSmall : (H : Type) → List (DataW H) → Bool := fun _ ds => decide (uptoBulkAll ds ≤ 1048576)
def OpenSpec.upto (s : _root_.Go.ChangeSpec) : _root_.Go.OpenSpec := { _root_.Go.OpenSpec.ofChange s with cond := some uptoSmall }

/-- 'relaylaw06.CurveShares', WHERE WHAT IT READS IS OF BULK AT MOST 1048576: true; the input reads as it did. -/
def curveSharesUptoRow : OpenClaim := { program := "ytnhjmapapbhhpaa", sum := "5cbfd2d9e20a727d890d1c05a8c800bb8a78a957589094b42670df7e01a1baba", func := "relay/relaylaw06.CurveShares", spec := "curveShares", inPlace := ["math/bits.Add64"], apart := false, narrowed := true }
def CurveSharesUptoSaid : Prop := curveSharesUptoRow.holds Try.pinned (OpenSpec.upto curveSharesSpec)

/-- 'relaylaw06.CurveTwo', WHERE WHAT IT READS IS OF BULK AT MOST 1048576: true; the input reads as it did. -/
def curveTwoUptoRow : OpenClaim := { program := "ytnhjmapapbhhpaa", sum := "5cbfd2d9e20a727d890d1c05a8c800bb8a78a957589094b42670df7e01a1baba", func := "relay/relaylaw06.CurveTwo", spec := "curveTwo", inPlace := ["math/bits.Add64"], apart := false, narrowed := true }
def CurveTwoUptoSaid : Prop := curveTwoUptoRow.holds Try.pinned (OpenSpec.upto curveTwoSpec)

/-- 'relaylaw06.CurveBits', WHERE WHAT IT READS IS OF BULK AT MOST 1048576: true; the input reads as it did. -/
def curveBitsUptoRow : OpenClaim := { program := "ytnhjmapapbhhpaa", sum := "5cbfd2d9e20a727d890d1c05a8c800bb8a78a957589094b42670df7e01a1baba", func := "relay/relaylaw06.CurveBits", spec := "curveBits", inPlace := ["math/bits.Add64"], apart := false, narrowed := true }
def CurveBitsUptoSaid : Prop := curveBitsUptoRow.holds Try.pinned (OpenSpec.upto curveBitsSpec)

/-- 'relaylaw06.CurveChains', WHERE WHAT IT READS IS OF BULK AT MOST 1048576: true; the input reads as it did. -/
def curveChainsUptoRow : OpenClaim := { program := "ytnhjmapapbhhpaa", sum := "5cbfd2d9e20a727d890d1c05a8c800bb8a78a957589094b42670df7e01a1baba", func := "relay/relaylaw06.CurveChains", spec := "curveChains", inPlace := ["math/bits.Add64"], apart := false, narrowed := true }
def CurveChainsUptoSaid : Prop := curveChainsUptoRow.holds Try.pinned (OpenSpec.upto curveChainsSpec)

/-- 'relaylaw06.CurveLow', WHERE WHAT IT READS IS OF BULK AT MOST 1048576: true; the input reads as it did. -/
def curveLowUptoRow : OpenClaim := { program := "ytnhjmapapbhhpaa", sum := "5cbfd2d9e20a727d890d1c05a8c800bb8a78a957589094b42670df7e01a1baba", func := "relay/relaylaw06.CurveLow", spec := "curveLow", inPlace := ["math/bits.Add64"], apart := false, narrowed := true }
def CurveLowUptoSaid : Prop := curveLowUptoRow.holds Try.pinned (OpenSpec.upto curveLowSpec)

end Rows
end Go.Proofs.Ytnhjmapapbhhpaa
