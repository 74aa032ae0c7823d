import Derived.Test.YtcjfkmhijfcciaaDoorXP1
import Derived.Test.YtcjfkmhijfcciaaDoorG1
namespace Go.Proofs.YtcjfkmhijfcciaaDoor
set_option maxRecDepth 20000
set_option linter.unusedVariables false
set_option linter.unusedSimpArgs false
open Go.SE Go.RowKit
/-- The number of bytes, the lowest first. -/
def leN : List (BitVec 8) → Nat
 | [] => 0
 | x :: l => x.toNat + 256 * leN l
/-- A part is added, up to place i. -/
structure AddI (h : List Int) (b : List (BitVec 8)) (g : List Int) (i : Nat) : Prop where
 len : g.length = 17
 val : valI g = valI h + leN (b.take i)
 same : ∀ j, i ≤ j → g.getD j 0 = h.getD j 0
 le : ∀ j, 0 ≤ g.getD j 0 ∧ g.getD j 0 ≤ 510
theorem AddI.init {h : List Int} {b : List (BitVec 8)} {V : Int} (hh : OutI V h) : AddI h b h 0 :=
 ⟨hh.1, by simp [leN], fun _ _ => rfl, fun j => by have := hh.2.1 j; omega⟩
/-- A part and the one behind it are added. -/
structure GgI (V : Int) (g : List Int) : Prop where
 len : g.length = 17
 val : valI g = V
 le : ∀ j, 0 ≤ g.getD j 0 ∧ g.getD j 0 ≤ 511
/-- The product, up to places i and j. -/
structure MulI (g r t : List Int) (i j : Nat) : Prop where
 len : t.length = 40
 val : valI t = valI (g.take i) * valI r + g.getD i 0 * 256 ^ i * valI (r.take j)
 le : ∀ k, 0 ≤ t.getD k 0 ∧ t.getD k 0 ≤ (16 * (i : Int) + j) * 130305
theorem MulI.init (g r : List Int) : MulI g r (List.replicate 40 0) 0 0 :=
 ⟨by simp, by rw [valI_rep]; simp [valI], fun k => by rw [getD_rep]; omega⟩
theorem MulI.next {g r t : List Int} {i : Nat} {V : Int} (h : MulI g r t i 16) (hg : GgI V g) (hr : r.length = 16) (hi : i < 17) : MulI g r t (i + 1) 0 := by
 obtain ⟨a1, a2, a3⟩ := h
 refine ⟨a1, ?_, fun k => ?_⟩
 · rw [a2, List.take_of_length_le (l := r) (by omega), valI_take g i (by have := hg.len; omega), List.take_zero, valI, Int.mul_zero, Int.add_zero, Int.add_mul]
 ·
  have := a3 k
  omega
/-- The sum's carry, up to place i. -/
def SmI (X : Nat) (h : List Int) (s : List (BitVec 8)) (i : Nat) (c : Int) : Prop := 0 ≤ c ∧ c ≤ 1 ∧ ((X / 256 ^ i : Nat) : Int) = c + valI (h.drop i) + leN (s.drop i)
theorem SmI.init {V : Nat} {h : List Int} {s : List (BitVec 8)} (hh : OutI (V : Int) h) : SmI (V + leN s) h s 0 0 := by
 refine ⟨by decide, by decide, ?_⟩
 rw [Nat.pow_zero, Nat.div_one, List.drop_zero, List.drop_zero, hh.2.2]
 omega

end Go.Proofs.YtcjfkmhijfcciaaDoor

