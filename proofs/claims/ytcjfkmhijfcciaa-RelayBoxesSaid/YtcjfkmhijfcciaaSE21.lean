/- What a parameter of a given form holds: integers, truths, texts, and slices of rows of these, to whatever depth. Generic (no program). -/
import Derived.Test.YtcjfkmhijfcciaaSE20
import Derived.ChangeArms
namespace Go
namespace ROW
open Go.RowKit Go.ChangeShapes Go.WideShapes Go.ChangeAt Go.SE
set_option linter.unusedVariables false
set_option linter.unusedSimpArgs false
inductive L0 where
 | i (k : IntKind)
 | b
 | s
def All2 {α β : Type} (p : α → β → Prop) : List α → List β → Prop
 | [], [] => True
 | a :: as, b :: bs => p a b ∧ All2 p as bs
 | _, _ => False
theorem All2.len {α β : Type} {p : α → β → Prop} : ∀ {as : List α} {bs : List β}, All2 p as bs → as.length = bs.length
 | [], [], _ => rfl
 | a :: as, b :: bs, h => by simp [All2.len h.2]
 | [], _ :: _, h => h.elim
 | _ :: _, [], h => h.elim
theorem All2.split {α β : Type} {p : α → β → Prop} : ∀ {as as' : List α} {cs : List β}, All2 p (as ++ as') cs → ∃ c c', cs = c ++ c' ∧ All2 p as c ∧ All2 p as' c'
 | [], _, cs, h => ⟨[], cs, rfl, trivial, h⟩
 | a :: as, as', b :: bs, h => by
  obtain ⟨c, c', e, h1, h2⟩ := All2.split (as := as) h.2
  exact ⟨b :: c, c', by rw [e]; rfl, ⟨h.1, h1⟩, h2⟩
 | _ :: _, _, [], h => h.elim
theorem All2.one {α β : Type} {p : α → β → Prop} {a : α} {cs : List β} (h : All2 p [a] cs) : ∃ v, cs = [v] ∧ p a v := by
 match cs, h with
 | [v], h => exact ⟨v, rfl, h.1⟩
section
variable {H : Type} {enc : TypeId × Value → H} {P : Program} {W : World}
end
/-! ### Of one kind -/
end ROW
end Go

