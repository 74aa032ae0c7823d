import Derived.Test.YtihciioopdalnaaTR2
import Derived.Test.YtihciioopdalnaaG1
namespace Go.Proofs.Ytihciioopdalnaa
set_option maxRecDepth 20000
set_option linter.unusedVariables false
set_option linter.unusedSimpArgs false
open Go.SE Go.RowKit
open Go.ChangeShapes Go.WideShapes Go.ChangeAt Go.ROW
abbrev RowOk (W : World) (r : Row) : Prop := r.own = false ∧ (r.cells ≠ [] → r.b < W.heap.size ∧ ∀ (j : Nat) v, r.cells[j]? = some v → W.cell? ⟨r.b, r.s + j, none⟩ = some v)
def ActTF : List (ROW.Lf 0) := [ROW.lit0 0 (.i .i64), ROW.lit0 0 (.i .i64), ROW.lit0 0 (.i .u8)]
theorem actT_of {W : World} {xs : List Value} (h : All2 (FitsE W 0) ActTF xs) : ∃ a : ActT, xs = ActTN.f a ∧ True := by
 obtain ⟨v1, x1, rfl, h1, k1⟩ := All2.cons' h
 obtain ⟨v2, x2, rfl, h2, k2⟩ := All2.cons' k1
 obtain ⟨z1, rfl, g1⟩ := fits_int h1
 obtain ⟨z2, rfl, g2⟩ := fits_int h2
 obtain ⟨a, rfl, ha⟩ := fits_words (m := 1) UK.u8 k2
 match a, ha with
 | [y], _ => exact ⟨⟨z1, z2, y⟩, rfl, trivial⟩
theorem open_actsT {H : Type} {enc : TypeId × Value → H} {W : World} {r : Reach} {b0 : Nat} {v : Value} {d : DataW H} {p : List MemPlace} (hval : Value.okWide Try.prog W r b0 37 v)
  (hj : DataW.Trod enc Try.prog W 0 (fun _ => true) true 37 v d p) (hlt : ∀ x ∈ p, x.block < W.heap.size) :
  ∃ (A : Option Addr) (n c b q : Nat) (L : List ActT), v = .slice A n c ∧ L.length = n ∧ (0 < n → A = some ⟨b, q, none⟩) ∧ RowOk W ⟨false, b, q, 0, encs ActTN L, 0⟩ := by
 obtain ⟨A, n, c, rfl, h1, h2, b, q, cs, h3, h4, h5, h6⟩ := ROW.open_slice (n := 0) (g := 9) (es := ActTF) (by kernel_rfl) Try.underlying37 hval hj
 obtain ⟨L, rfl, hn, hb⟩ := encs_of ActTN (fun _ => True) n cs h3 (fun i hi => actT_of (h6 i hi))
 refine ⟨A, n, c, b, q, L, rfl, hn, fun h => (h4 h).1, ⟨rfl, fun hne => ⟨(h4 ?_).2, h5⟩⟩⟩
 rcases Nat.eq_zero_or_pos n with h0 | h0
 ·
  subst h0
  have : L = [] := List.eq_nil_of_length_eq_zero hn
  subst this
  exact absurd rfl hne
 · exact h0


end Go.Proofs.Ytihciioopdalnaa

