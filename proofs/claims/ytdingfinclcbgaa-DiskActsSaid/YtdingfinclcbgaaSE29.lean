/- Remainders as numbers; equality of values that are segments. Generic (no program). -/
import Derived.Test.YtdingfinclcbgaaSE28
namespace Go
namespace SE
open Go.RowKit
set_option linter.unusedVariables false
set_option linter.unusedSimpArgs false
/-! ### Short words for the proofs that come again and again -/
theorem LN {p : Prop} (h : p := by first | assumption | omega | (simp only [List.length_append, List.length_take, List.length_drop, List.length_map, List.length_replicate, List.length_set, List.length_cons, List.length_nil, List.take_succ_cons, List.take_zero, List.flatten_cons, List.flatten_nil, List.set_cons_zero, List.set_cons_succ]; omega) | with_reducible rfl | (simp; done) | (simp <;> omega)) : p := h
theorem OG {p : Prop} (h : p := by first | omega | (simp only [List.length_append, List.length_take, List.length_drop, List.length_map, List.length_replicate, List.length_set, List.length_cons, List.length_nil, List.take_succ_cons, List.take_zero, List.flatten_cons, List.flatten_nil, List.set_cons_zero, List.set_cons_succ] at *; omega) | (simp <;> omega)) : p := h
theorem NG {l : List Value} (h : l.length ≠ 0 := by first | (simp only [List.length_append, List.length_take, List.length_drop, List.length_map, List.length_replicate, List.length_set, List.length_cons, List.length_nil, List.take_succ_cons, List.take_zero, List.flatten_cons, List.flatten_nil, List.set_cons_zero, List.set_cons_succ]; omega) | (simp <;> omega)) : l ≠ [] := by
  rintro rfl
  exact h rfl
theorem DO {p : Prop} (h : p := by first | decide | omega) : p := h
theorem RO {p : Prop} (h : p := by first | rfl | omega) : p := h
theorem LN1 {p : Prop} (h : p := by first | decide | omega | (simp; done) | (simp <;> omega)) : p := h
theorem QStep.congr {P : Program} {E : Env} {fr : Fr} {H : Hp} {o : Oper} {v v' : Value} (h : QStep P E fr H o v) (e : v = v') : QStep P E fr H o v' := e ▸ h
theorem take_full {α : Type} {f : α → Value} {l : List α} {n : Nat} {r : Row} (h : l.length = n) (hc : r.cells = l.map f := by rfl) : (r.cells.drop 0).take n = l.map f := by
  rw [hc, List.drop_zero, List.take_of_length_le (by rw [List.length_map]; omega)]
theorem take_pre {α : Type} {f : α → Value} {l : List α} {n : Nat} {r : Row} (hc : r.cells = l.map f := by rfl) : (r.cells.drop 0).take n = (l.take n).map f := by
  rw [hc, List.drop_zero, List.map_take]
theorem take_part0 {α : Type} {f : α → Value} {l : List α} {j n : Nat} {r : Row} (hc : r.cells = l.map f := by rfl) : (r.cells.drop j).take n = ((l.drop j).take n).map f := by
  rw [hc, ← List.map_drop, ← List.map_take]
theorem take_part {α : Type} {f : α → Value} {l : List α} {j m n : Nat} {r : Row} (h : n ≤ m) (hc : r.cells = l.map f := by rfl) : (r.cells.drop j).take n = (((l.drop j).take m).take n).map f := by
  rw [hc, ← List.map_drop, ← List.map_take, List.take_take, Nat.min_eq_left h]
theorem umod_c (x m : BitVec 64) (h0 : 0 < m.toNat) (h1 : m.toNat ≤ 9223372036854775807) : ∃ k : Nat, k < m.toNat ∧ (x % m).toInt = (k : Int) ∧ k = x.toNat % m.toNat := by
  have h2 : x.toNat % m.toNat < m.toNat := Nat.mod_lt _ h0
  refine ⟨x.toNat % m.toNat, h2, ?_, rfl⟩
  rw [BitVec.toInt_eq_toNat_of_lt (by rw [BitVec.toNat_umod]; omega), BitVec.toNat_umod]
theorem ofInt_len {n : Nat} (h : n ≤ 9223372036854775807) : (BitVec.ofInt 64 (n : Int)).toNat = n := by
  rw [BitVec.toNat_ofInt]; omega
theorem umod_n (x : BitVec 64) (n : Nat) (h0 : 0 < n) (h1 : n ≤ 9223372036854775807) : ∃ k : Nat, k < n ∧ (x % BitVec.ofInt 64 (n : Int)).toInt = (k : Int) ∧ k = x.toNat % n := by
  have h := umod_c x (BitVec.ofInt 64 (n : Int)) (by rw [ofInt_len h1]; exact h0) (by rw [ofInt_len h1]; exact h1)
  rwa [ofInt_len h1] at h
theorem umod_nz {n : Nat} (h0 : 0 < n) (h1 : n ≤ 9223372036854775807) : BitVec.ofInt 64 (n : Int) ≠ 0#64 := by
  intro h
  have := ofInt_len h1
  rw [h] at this
  simp at this
  omega
theorem map_inj {α : Type} {f : α → Value} (hf : ∀ a b, f a = f b → a = b) : ∀ {a b : List α}, a.map f = b.map f → a = b
  | [], [], _ => rfl
  | [], _ :: _, h => by simp at h
  | _ :: _, [], h => by simp at h
  | x :: a, y :: b, h => by
    simp only [List.map_cons, List.cons.injEq] at h
    rw [hf _ _ h.1, map_inj hf h.2]
theorem u8V_inj (a b : BitVec 8) (h : u8V a = u8V b) : a = b := by
  simp only [Value.int.injEq, true_and] at h
  exact BitVec.eq_of_toNat_eq (Int.ofNat_inj.1 h)
theorem u32V_inj (a b : BitVec 32) (h : u32V a = u32V b) : a = b := by
  simp only [Value.int.injEq, true_and] at h
  exact BitVec.eq_of_toNat_eq (Int.ofNat_inj.1 h)
theorem u64V_inj (a b : BitVec 64) (h : u64V a = u64V b) : a = b := by
  simp only [Value.int.injEq, true_and] at h
  exact BitVec.eq_of_toNat_eq (Int.ofNat_inj.1 h)
theorem iV_inj (a b : Int) : a = b ↔ iV a = iV b := by simp
theorem bV_inj (a b : Bool) : a = b ↔ Value.bool a = Value.bool b := by simp
theorem eqs_nil : True ↔ ([] : List (List Value)).flatten = ([] : List (List Value)).flatten := by simp
theorem eqs_map {α : Type} {f : α → Value} (hf : ∀ a b, f a = f b → a = b) {a b : List α} {l m : List (List Value)} {p : Prop} (hl : a.length = b.length) (h : p ↔ l.flatten = m.flatten) : (a = b ∧ p) ↔ ((a.map f) :: l).flatten = ((b.map f) :: m).flatten := by
  rw [h, List.flatten_cons, List.flatten_cons]
  constructor
  · rintro ⟨rfl, h⟩; rw [h]
  · intro h2
    obtain ⟨h3, h4⟩ := List.append_inj h2 (by simpa using hl)
    exact ⟨map_inj hf h3, h4⟩
theorem eqs_cons {v w : Value} {x y : List Value} {l m : List (List Value)} {p q : Prop} (hv : q ↔ v = w) (h : p ↔ (x :: l).flatten = (y :: m).flatten) : (q ∧ p) ↔ ((v :: x) :: l).flatten = ((w :: y) :: m).flatten := by
  rw [hv, h]
  simp only [List.flatten_cons, List.cons_append, List.cons.injEq]
theorem eqs_end {l m : List (List Value)} {p : Prop} (h : p ↔ l.flatten = m.flatten) : p ↔ ([] :: l).flatten = ([] :: m).flatten := by
  simpa using h
theorem dec_iff {p q : Prop} [Decidable p] (h : p ↔ q) : decide p = true ↔ q := by rw [decide_eq_true_iff]; exact h
theorem okf0 : ROW.All2 okf [] ([] : List (List Value)).flatten := trivial
theorem okfc {l1 l2 : List (ROW.Lf 0)} {x : List Value} {l : List (List Value)} (h : ROW.All2 okf l1 x) (t : ROW.All2 okf l2 l.flatten) : ROW.All2 okf (l1 ++ l2) (x :: l).flatten := by
  rw [List.flatten_cons]
  exact ROW.All2.app h t
theorem okf_w {k : IntKind} {n m : Nat} (hk : UK k n) {a : List (BitVec n)} (hl : a.length = m) : ROW.All2 okf (List.replicate m (ROW.lit0 0 (.i k))) (a.map fun b => Value.int k (b.toNat : Int)) := by
  subst hl
  exact ok_words hk a
theorem okf_i {z : Int} {l : List (ROW.Lf 0)} {x : List Value} (h : -9223372036854775808 ≤ z ∧ z ≤ 9223372036854775807) (t : ROW.All2 okf l x) : ROW.All2 okf (ROW.lit0 0 (.i .i64) :: l) (iV z :: x) := by
  refine ⟨⟨z, rfl, ?_⟩, t⟩
  simp [Lit.wf]
  first | exact h | (constructor <;> omega) | omega
theorem okf_b {z : Bool} {l : List (ROW.Lf 0)} {x : List Value} (t : ROW.All2 okf l x) : ROW.All2 okf (ROW.lit0 0 .b :: l) (Value.bool z :: x) := ⟨⟨z, rfl⟩, t⟩
theorem okf_n : ROW.All2 okf [] ([] : List Value) := trivial
end SE
end Go
