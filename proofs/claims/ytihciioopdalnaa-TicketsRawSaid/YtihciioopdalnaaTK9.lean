import Derived.Test.YtihciioopdalnaaTK8
import Derived.Test.YtihciioopdalnaaSE37
import Derived.Test.YtihciioopdalnaaSE12
import Derived.Test.YtihciioopdalnaaSE23
namespace Go.Proofs.Ytihciioopdalnaa
set_option maxRecDepth 20000
set_option linter.unusedVariables false
set_option linter.unusedSimpArgs false
open Go.SE Go.RowKit
open Go.ChangeShapes Go.WideShapes Go.ChangeAt Go.ROW
def EntF : List (ROW.Lf 0) := ROW.lit0 0 (.i .i64) :: List.replicate 32 (ROW.lit0 0 (.i .u8))
theorem int_of64 {z : Int} (h : (Lit.int .i64 z).wf = true) : -9223372036854775808 ≤ z ∧ z ≤ 9223372036854775807 := by
  simp only [Lit.wf, Bool.and_eq_true, decide_eq_true_eq] at h
  simp [IntKind.min, IntKind.max, IntKind.signed, IntKind.bits] at h
  omega
theorem ent_flat (z : Int) (a : List (BitVec 8)) (ha : a.length = 32) : Value.int IntKind.i64 z :: List.map (fun b => Value.int IntKind.u8 ↑b.toNat) a = EntE.f ⟨z, a, ha⟩ := by
  simp [EntE, iV, u8V]
theorem ents_of {W : World} : ∀ (n : Nat) (cs : List Value), cs.length = n * 33 → (∀ i, i < n → All2 (FitsE W 0) EntF ((cs.drop (i * 33)).take 33)) → ∃ L : List Ent, cs = encs EntE L ∧ L.length = n ∧ ∀ e ∈ L, -9223372036854775808 ≤ e.id ∧ e.id ≤ 9223372036854775807
  | 0, cs, hl, _ => ⟨[], List.eq_nil_of_length_eq_zero (by simpa using hl), rfl, fun e he => nomatch he⟩
  | n + 1, cs, hl, h => by
    have h0 := h 0 (by omega)
    rw [Nat.zero_mul, List.drop_zero] at h0
    obtain ⟨v, vs, hv, h1, h2⟩ := All2.cons' (show All2 _ (ROW.lit0 0 (.i .i64) :: List.replicate 32 (ROW.lit0 0 (.i .u8))) _ from h0)
    obtain ⟨z, rfl, hz⟩ := fits_int h1
    obtain ⟨a, rfl, ha⟩ := fits_words UK.u8 h2
    obtain ⟨L, hL, hn, hb⟩ := ents_of (W := W) n (cs.drop 33) (by rw [List.length_drop]; omega) fun i hi => by
      have := h (i + 1) (by omega)
      rwa [List.drop_drop, show 33 + i * 33 = (i + 1) * 33 by omega]
    refine ⟨⟨z, a, ha⟩ :: L, ?_, by simp [hn], fun e he => ?_⟩
    · rw [← List.take_append_drop 33 cs, hv, hL, show (⟨z, a, ha⟩ : Ent) :: L = [(⟨z, a, ha⟩ : Ent)] ++ L from rfl, encs_app, encs_one]
      exact congrArg (· ++ encs EntE L) (ent_flat z a ha)
    · rcases List.mem_cons.1 he with rfl | he
      · exact int_of64 hz
      · exact hb e he
/-- A table among the parameters. -/
theorem open_tab {H : Type} {enc : TypeId × Value → H} {W : World} {r : Reach} {b0 : Nat} {v : Value} {d : DataW H} {p : List MemPlace} (hval : Value.okWide Try.prog W r b0 44 v)
    (hj : DataW.Trod enc Try.prog W 0 (fun _ => true) true 44 v d p) (hB : (d.weights Try.prog 44).all (· ≤ reachBytes) = true) :
    ∃ (key : List (BitVec 8)) (next : Int) (A : Option Addr) (n c b q : Nat) (L : List Ent), v = .agg ([(key).map u8V, [iV next, .slice A n c]].flatten).toArray ∧ key.length = 32 ∧ L.length = n ∧ (0 < n → A = some ⟨b, q, none⟩) ∧ n ≤ c ∧ n ≤ 3518437208780 ∧ (∀ e ∈ L, -9223372036854775808 ≤ e.id ∧ e.id ≤ 9223372036854775807) ∧
      (⟨false, b, q, 0, encs EntE L, 0⟩ : Row).own = false ∧ ((⟨false, b, q, 0, encs EntE L, 0⟩ : Row).cells ≠ [] → (⟨false, b, q, 0, encs EntE L, 0⟩ : Row).b < W.heap.size ∧ ∀ (j : Nat) u, (⟨false, b, q, 0, encs EntE L, 0⟩ : Row).cells[j]? = some u → W.cell? ⟨(⟨false, b, q, 0, encs EntE L, 0⟩ : Row).b, (⟨false, b, q, 0, encs EntE L, 0⟩ : Row).s + j, none⟩ = some u) := by
  obtain ⟨cs, rfl, hf⟩ := ROW.open_agg (n := 1) (g := 9) (ls := List.replicate 32 (ROW.lit0 1 (.i .u8)) ++ ([ROW.lit0 1 (.i .i64)] ++ [(show ROW.Lf 1 from Sum.inr EntF)])) (by kernel_rfl) (.inl ⟨_, Try.underlying44⟩) hval hj
  obtain ⟨c1, c2, rfl, h1, h2⟩ := All2.split hf
  obtain ⟨c3, c4, rfl, h3, h4⟩ := All2.split h2
  obtain ⟨key, rfl, hk⟩ := fits_words UK.u8 h1
  obtain ⟨v3, rfl, h3x⟩ := All2.one h3
  obtain ⟨z, rfl, hz⟩ := fits_int h3x
  obtain ⟨v4, rfl, h4x⟩ := All2.one h4
  obtain ⟨A, n, c, rfl, h5, h6, b, q, ds, h7, h8, h9, h10⟩ := (show SlE W (FitsE W 0) EntF v4 from h4x)
  obtain ⟨L, rfl, hn, hb⟩ := ents_of n ds h7 h10
  obtain ⟨fuel, hfu⟩ := hj
  have hw : c * Try.prog.bytesOf 55 ≤ reachBytes := ROW.weigh3 (A := A) (n := n) Try.underlying44 rfl Try.underlying42 (by
    show ((key.map u8V ++ ([iV z] ++ [Value.slice A n c])).drop 33).take (Try.prog.cellsOf 42) = _
    rw [show Try.prog.cellsOf 42 = 1 by kernel_rfl]
    rw [show key.map u8V ++ ([iV z] ++ [Value.slice A n c]) = (key.map u8V ++ [iV z]) ++ [Value.slice A n c] from (List.append_assoc _ _ _).symm, show 33 = (key.map u8V ++ [iV z]).length by simp [hk], List.drop_left]
    rfl) hfu hB
  rw [show Try.prog.bytesOf 55 = 40 by kernel_rfl] at hw
  refine ⟨key, z, A, n, c, b, q, L, by simp, hk, hn, fun h => (h8 h).1, h5, by simp only [reachBytes] at hw; omega, hb, rfl, fun hne => ⟨(h8 ?_).2, h9⟩⟩
  rcases Nat.eq_zero_or_pos n with h0 | h0
  · subst h0
    have : L = [] := List.eq_nil_of_length_eq_zero hn
    subst this
    exact absurd rfl hne
  · exact h0
end Go.Proofs.Ytihciioopdalnaa
