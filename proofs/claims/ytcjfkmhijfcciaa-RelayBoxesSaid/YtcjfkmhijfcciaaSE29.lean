/- Remainders as numbers; equality of values that are segments. Generic (no program). -/
import Derived.Test.YtcjfkmhijfcciaaSE28
namespace Go
namespace SE
open Go.RowKit
set_option linter.unusedVariables false
set_option linter.unusedSimpArgs false
/-! ### Short words for the proofs that come again and again -/
theorem LN {p : Prop} (h : p := by first | assumption | omega | (simp only [List.length_append, List.length_take, List.length_drop, List.length_map, List.length_replicate, List.length_set, List.length_cons, List.length_nil, List.take_succ_cons, List.take_zero, List.flatten_cons, List.flatten_nil, List.set_cons_zero, List.set_cons_succ]; omega) | with_reducible rfl | (simp; done) | (simp <;> omega)) : p := h
theorem OG {p : Prop} (h : p := by first | omega | (simp only [List.length_append, List.length_take, List.length_drop, List.length_map, List.length_replicate, List.length_set, List.length_cons, List.length_nil, List.take_succ_cons, List.take_zero, List.flatten_cons, List.flatten_nil, List.set_cons_zero, List.set_cons_succ] at *; omega) | (simp <;> omega)) : p := h
theorem NG {l : List Value} (h : l.length ≠ 0 := by first | (simp only [List.length_append, List.length_take, List.length_drop, List.length_map, List.length_replicate, List.length_set, List.length_cons, List.length_nil, List.take_succ_cons, List.take_zero, List.flatten_cons, List.flatten_nil, List.set_cons_zero, List.set_cons_succ]; omega) | (simp <;> omega)) : l ≠ [] := by
 rintro rfl
 exact h rfl
theorem DO {p : Prop} (h : p := by first | decide | omega) : p := h
theorem RO {p : Prop} (h : p := by first | rfl | omega) : p := h
theorem QStep.congr {P : Program} {E : Env} {fr : Fr} {H : Hp} {o : Oper} {v v' : Value} (h : QStep P E fr H o v) (e : v = v') : QStep P E fr H o v' := e ▸ h
end SE
end Go

