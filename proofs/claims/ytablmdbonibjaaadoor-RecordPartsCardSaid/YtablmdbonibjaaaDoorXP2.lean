import Derived.Test.YtablmdbonibjaaaDoorXP1
import Derived.Test.YtablmdbonibjaaaDoorSE33
namespace Go.Proofs.YtablmdbonibjaaaDoor
set_option maxRecDepth 20000
set_option linter.unusedVariables false
set_option linter.unusedSimpArgs false
open Go.SE Go.RowKit
/-- A part and the one behind it are added. -/
structure GgI (V : Int) (g : List Int) : Prop where
 len : g.length = 17
 val : valI g = V
 le : ∀ j, 0 ≤ g.getD j 0 ∧ g.getD j 0 ≤ 511
/-- The product, up to places i and j. -/
structure MulI (g r t : List Int) (i j : Nat) : Prop where
 len : t.length = 40
 val : valI t = valI (g.take i) * valI r + g.getD i 0 * 256 ^ i * valI (r.take j)
 le : ∀ k, 0 ≤ t.getD k 0 ∧ t.getD k 0 ≤ (16 * (i : Int) + j) * 130305
theorem MulI.next {g r t : List Int} {i : Nat} {V : Int} (h : MulI g r t i 16) (hg : GgI V g) (hr : r.length = 16) (hi : i < 17) : MulI g r t (i + 1) 0 := by
 obtain ⟨a1, a2, a3⟩ := h
 refine ⟨a1, ?_, fun k => ?_⟩
 · rw [a2, List.take_of_length_le (l := r) (by omega), valI_take g i (by have := hg.len; omega), List.take_zero, valI, Int.mul_zero, Int.add_zero, Int.add_mul]
 ·
  have := a3 k
  omega

end Go.Proofs.YtablmdbonibjaaaDoor
