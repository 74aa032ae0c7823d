/- The parameters of a law, opened: words, arrays of words, bytes, texts. Generic (no program). -/
import Derived.Test.YtdingfinclcbgaaSE8
import Derived.Test.YtdingfinclcbgaaSE11
import Derived.ChangeMaps5
namespace Go
namespace ROW
open Go.ChangeShapes Go.WideShapes Go.ChangeAt Go.RowKit Go.SE
set_option linter.unusedVariables false
set_option linter.unusedSimpArgs false
theorem word_of {k : IntKind} {n : Nat} (hk : UK k n) {z : Int} (h : (Lit.int k z).wf = true) : ∃ a : BitVec n, z = (a.toNat : Int) := by
  simp only [Lit.wf, Bool.and_eq_true, decide_eq_true_eq] at h
  cases hk <;> (
    refine ⟨BitVec.ofNat _ z.toNat, ?_⟩
    simp [IntKind.min, IntKind.max, IntKind.signed, IntKind.bits] at h
    simp only [BitVec.toNat_ofNat]
    omega)
theorem words_of {k : IntKind} {n : Nat} (hk : UK k n) : ∀ zs : List Int, (∀ z ∈ zs, (Lit.int k z).wf = true) → ∃ a : List (BitVec n), a.length = zs.length ∧ zs = a.map fun b => (b.toNat : Int)
  | [], _ => ⟨[], rfl, rfl⟩
  | z :: zs, h => by
    obtain ⟨b, rfl⟩ := word_of hk (h z (by simp))
    obtain ⟨a, h1, rfl⟩ := words_of hk zs fun y hy => h y (by simp [hy])
    exact ⟨b :: a, by simp, rfl⟩
theorem ints_of {k : IntKind} : ∀ l : List Value, (∀ i, i < l.length → ∃ z, l[i]? = some (Value.int k z) ∧ (Lit.int k z).wf = true) → ∃ zs : List Int, l = zs.map (Value.int k) ∧ ∀ z ∈ zs, (Lit.int k z).wf = true
  | [], _ => ⟨[], rfl, by simp⟩
  | v :: l, h => by
    obtain ⟨z, hz1, hz2⟩ := h 0 (by simp)
    obtain rfl : v = Value.int k z := by simpa using hz1
    obtain ⟨zs, h1, h2⟩ := ints_of l fun i hi => by simpa using h (i + 1) (by simp; omega)
    refine ⟨z :: zs, by simp [h1], fun y hy => ?_⟩
    rcases List.mem_cons.1 hy with rfl | hy
    · exact hz2
    · exact h2 y hy
theorem open_words {H : Type} {enc : TypeId × Value → H} {P : Program} {W : World} {r : Reach} {b0 m n : Nat} {t e : TypeId} {k : IntKind} {v : Value} {d : DataW H} {p : List MemPlace} (hk : UK k n)
    (ht : P.underlying t = some (.array m e)) (he : P.underlying e = some (.int k)) (hc : P.cellsOf e = 1) (hct : P.cellsOf t = m) (hval : Value.okWide P W r b0 t v)
    (hj : DataW.Trod enc P W 0 (fun _ => true) true t v d p) : ∃ a : List (BitVec n), v = .agg (a.map fun b => Value.int k (b.toNat : Int)).toArray ∧ a.length = m := by
  unfold Value.okWide at hval
  rw [ht] at hval
  obtain ⟨cs, rfl, hsz, _⟩ := hval
  obtain ⟨fuel, hf⟩ := hj
  have hcells : (Value.agg cs).cells.toList = cs.toList := rfl
  rw [hcells] at hf
  cases fuel with
  | zero => cases hf
  | succ fuel =>
    unfold DataW.trod at hf
    rw [ht] at hf
    simp only at hf
    rw [if_pos (by simpa using hsz)] at hf
    obtain ⟨xs, hx, _⟩ := Option.map_eq_some_iff.1 hf
    have hlen : cs.toList.length = m := by rw [← hct]; simpa using hsz
    have hall : ∀ i, i < m → ∃ z, cs.toList[i]? = some (Value.int k z) ∧ (Lit.int k z).wf = true := by
      intro i hi
      have hmem : i ∈ List.range m := List.mem_range.2 hi
      obtain ⟨x, hx1⟩ := mapM_each hx i hmem
      rw [hc, Nat.mul_one] at hx1
      have hg : (cs.toList.drop i).take 1 = [cs.toList[i]'(by omega)] := by
        rw [List.drop_eq_getElem_cons (by omega)]
        rfl
      rw [hg] at hx1
      cases fuel with
      | zero => cases hx1
      | succ fuel =>
        unfold DataW.trod at hx1
        rw [he] at hx1
        split at hx1 <;> simp_all
    have hz := ints_of (k := k) cs.toList fun i hi => hall i (by omega)
    obtain ⟨zs, h1, h2⟩ := hz
    obtain ⟨a, h3, rfl⟩ := words_of hk zs h2
    refine ⟨a, ?_, ?_⟩
    · congr 1
      apply Array.ext'
      rw [h1, List.map_map]
      rfl
    · rw [h1] at hlen
      simpa using hlen
/-- A slice of bytes: where they lie. -/
def Bts (W : World) (A : Option Addr) (c b s : Nat) (l : List (BitVec 8)) : Prop :=
  l.length ≤ c ∧ c ≤ maxLen ∧ (0 < l.length → A = some ⟨b, s, none⟩ ∧ b < W.heap.size) ∧ ∀ (j : Nat) v, (l.map u8V)[j]? = some v → W.cell? ⟨b, s + j, none⟩ = some v
theorem Bts.row {W : World} {A : Option Addr} {c b s t : Nat} {l : List (BitVec 8)} (h : Bts W A c b s l) : (⟨false, b, s, t, l.map u8V, 0⟩ : Row).own = false ∧ ((⟨false, b, s, t, l.map u8V, 0⟩ : Row).cells ≠ [] → (⟨false, b, s, t, l.map u8V, 0⟩ : Row).b < W.heap.size ∧ ∀ (j : Nat) v, (⟨false, b, s, t, l.map u8V, 0⟩ : Row).cells[j]? = some v → W.cell? ⟨(⟨false, b, s, t, l.map u8V, 0⟩ : Row).b, (⟨false, b, s, t, l.map u8V, 0⟩ : Row).s + j, none⟩ = some v) := by
  refine ⟨rfl, fun hne => ⟨(h.2.2.1 ?_).2, h.2.2.2⟩⟩
  cases l with
  | nil => exact absurd rfl hne
  | cons x l => simp
theorem Bts.ad {W : World} {A : Option Addr} {c b s : Nat} {l : List (BitVec 8)} (h : Bts W A c b s l) (h0 : 0 < l.length) : A = some ⟨b, s, none⟩ := (h.2.2.1 h0).1
theorem open_bytes {H : Type} {enc : TypeId × Value → H} {P : Program} {W : World} {r : Reach} {b0 : Nat} {t e : TypeId} {v : Value} {d : DataW H} {p : List MemPlace}
    (ht : P.underlying t = some (.slice e)) (he : P.underlying e = some (.int .u8)) (hc : P.cellsOf e = 1) (hval : Value.okWide P W r b0 t v)
    (hj : DataW.Trod enc P W 0 (fun _ => true) true t v d p) (hlt : ∀ x ∈ p, x.block < W.heap.size) : ∃ A c b s, ∃ l : List (BitVec 8), v = .slice A l.length c ∧ Bts W A c b s l := by
  obtain ⟨A, c, zs, rfl, h1, h2, h3, h4⟩ := open_sl ht he hc hval hj hlt
  obtain ⟨l, hl, rfl⟩ := words_of UK.u8 zs h3
  by_cases h0 : 0 < l.length
  · obtain ⟨b, off, rfl, hb, hcell⟩ := h4 (by simpa using h0)
    refine ⟨_, c, b, off, l, by simp, by simpa using h1, h2, fun _ => ⟨rfl, hb⟩, fun j v hj => ?_⟩
    have hlt := (List.getElem?_eq_some_iff.1 hj).1
    simp only [List.length_map] at hlt
    rw [hcell j (by simpa using hlt)]
    simp only [List.getElem?_map, Option.map_eq_some_iff] at hj
    obtain ⟨x, hx, rfl⟩ := hj
    simp [List.getD, hx]
  · have : l = [] := List.eq_nil_of_length_eq_zero (by omega)
    subst this
    exact ⟨A, c, 0, 0, [], by simp, by simp, h2, fun h => absurd h (by simp), fun j v hj => by simp at hj⟩
theorem open_str {H : Type} {enc : TypeId × Value → H} {P : Program} {W : World} {r : Reach} {b0 : Nat} {t : TypeId} {v : Value} {d : DataW H} {p : List MemPlace} (ht : P.underlying t = some .string) (hval : Value.okWide P W r b0 t v)
    (hj : DataW.Trod enc P W 0 (fun _ => true) true t v d p) : ∃ l : List (BitVec 8), v = strV l ∧ l.length ≤ maxLen := by
  obtain ⟨s, rfl, _, _, hs⟩ := ChangeMaps.open_string ht hval hj
  refine ⟨s.data.toList.map (·.toBitVec), ?_, by simpa using hs⟩
  unfold strV strB
  congr 1
  apply ByteArray.ext
  apply Array.ext'
  simp [List.map_map, Function.comp_def]
end ROW
end Go
