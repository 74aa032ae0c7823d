/- append that may leave the old block as it was, beside a new one; rows of which less is known. Generic (no program). -/
import Derived.Test.YtablmdbonibjaaaDoorSE20
namespace Go
namespace SE
open Go.RowKit
set_option linter.unusedVariables false
set_option linter.unusedSimpArgs false
section
variable {P : Program} {E : Env} {fr : Fr} {H : Hp} {o : Oper} {x y : Operand}
/-- Of a row of one's own less is known. -/
theorem At.forget {T : Act → World → Prop} (k : Nat) {b rest : Nat} {ty : TypeId} {cs cs' : List Value} (hk : H k = some ⟨true, b, 0, ty, cs ++ cs', rest⟩) (h : At E fr (H.set k ⟨true, b, 0, ty, cs, rest + cs'.length⟩) T) : At E fr H T := fun a w R => by
  refine h a w ⟨R.df, R.size, R.fr, R.chg, ⟨fun i r hr => ?_, fun i j r r' hr hr' ho ho' hij hz hz' => ?_⟩⟩
  · rcases Hp.set_some hr with ⟨rfl, rfl⟩ | ⟨_, hr⟩
    · have := R.heap.row _ _ hk
      unfold RowR at this ⊢
      refine ⟨rfl, fun hz => ?_⟩
      have hz : cs.length + (rest + cs'.length) ≠ 0 := hz
      obtain ⟨g1, g2, tl, fz, g3, g4, g5⟩ := this.2 (show (cs ++ cs').length + rest ≠ 0 by rw [List.length_append]; omega)
      refine ⟨g1, g2, cs' ++ tl, fz, by simp at g3 ⊢; omega, ?_, by simpa using g5⟩
      rcases g4 with g4 | g4
      · exact Or.inl g4
      · right; simp at g4 ⊢; omega
    · exact R.heap.row i r hr
  · rcases Hp.set_some hr with ⟨e1, e2⟩ | ⟨h1, hr1⟩ <;> rcases Hp.set_some hr' with ⟨e3, e4⟩ | ⟨h2, hr2⟩
    · exact absurd (e1.trans e3.symm) hij
    · subst e2 e1
      have hz : cs.length + (rest + cs'.length) ≠ 0 := hz
      exact R.heap.apart i j ⟨true, b, 0, ty, cs ++ cs', rest⟩ r' hk hr2 rfl ho' hij (show (cs ++ cs').length + rest ≠ 0 by rw [List.length_append]; omega) hz'
    · subst e4 e3
      have hz' : cs.length + (rest + cs'.length) ≠ 0 := hz'
      exact R.heap.apart i j r ⟨true, b, 0, ty, cs ++ cs', rest⟩ hr1 hk ho rfl hij hz (show (cs ++ cs').length + rest ≠ 0 by rw [List.length_append]; omega)
    · exact R.heap.apart _ _ _ _ hr1 hr2 ho ho' hij hz hz'
end
end SE
end Go

