import Derived.Test.YtcjfkmhijfcciaaGL
import Derived.Test.YtcjfkmhijfcciaaG1
namespace Go.Proofs.Ytcjfkmhijfcciaa
set_option maxRecDepth 20000
set_option linter.unusedVariables false
set_option linter.unusedSimpArgs false
open Go.SE Go.RowKit
open Go.ChangeShapes Go.WideShapes Go.ChangeAt
theorem open_i64 {H : Type} {enc : TypeId × Value → H} {P : Program} {W : World} {r : Reach} {b0 : Nat} {t e : TypeId} {v : Value} {d : DataW H} {p : List MemPlace}
  (ht : P.underlying t = some (.slice e)) (he : P.underlying e = some (.int .i64)) (hc : P.cellsOf e = 1) (hval : Value.okWide P W r b0 t v)
  (hj : DataW.Trod enc P W 0 (fun _ => true) true t v d p) (hlt : ∀ x ∈ p, x.block < W.heap.size) : ∃ A c b s, ∃ l : List Int, v = .slice A l.length c ∧ (0 < l.length → A = some ⟨b, s, none⟩) ∧
   ((⟨false, b, s, 0, l.map iV, 0⟩ : Row).own = false ∧ ((⟨false, b, s, 0, l.map iV, 0⟩ : Row).cells ≠ [] → (⟨false, b, s, 0, l.map iV, 0⟩ : Row).b < W.heap.size ∧ ∀ (j : Nat) v, (⟨false, b, s, 0, l.map iV, 0⟩ : Row).cells[j]? = some v → W.cell? ⟨(⟨false, b, s, 0, l.map iV, 0⟩ : Row).b, (⟨false, b, s, 0, l.map iV, 0⟩ : Row).s + j, none⟩ = some v)) := by
 obtain ⟨A, c, zs, rfl, h1, h2, h3, h4⟩ := ROW.open_sl ht he hc hval hj hlt
 by_cases h0 : 0 < zs.length
 ·
  obtain ⟨b, off, rfl, hb, hcell⟩ := h4 h0
  refine ⟨_, c, b, off, zs, rfl, fun _ => rfl, rfl, fun _ => ⟨hb, fun j v hj => ?_⟩⟩
  have hlt := (List.getElem?_eq_some_iff.1 hj).1
  simp only [List.length_map] at hlt
  rw [hcell j hlt]
  simp only [List.getElem?_map, Option.map_eq_some_iff] at hj
  obtain ⟨x, hx, rfl⟩ := hj
  simp [List.getD, hx, iV]
 ·
  have : zs = [] := List.eq_nil_of_length_eq_zero (by omega)
  subst this
  exact ⟨A, c, 0, 0, [], rfl, fun h => absurd h (by simp), rfl, fun h => absurd rfl h⟩


end Go.Proofs.Ytcjfkmhijfcciaa

