/- Equality of values without addresses; structs built of parts; a field of a struct's value. Generic (no program). -/
import Derived.Test.YtcjfkmhijfcciaaSE21
import Derived.Test.YtcjfkmhijfcciaaSE11
import Derived.Laws.StructEq
import Derived.ChangeKeysEq
namespace Go
namespace SE
open Go.RowKit Go.ROW
set_option linter.unusedVariables false
set_option linter.unusedSimpArgs false
section
variable {P : Program} {w : World}
/-- The value of a type's cells. -/
def vof (P : Program) (t : TypeId) (xs : List Value) : Value := match P.underlying t with
 | some D => if aggD D then .agg xs.toArray else xs.headD undef
 | none => undef
theorem run_part_flat {t : TypeId} {n : Nat} {cs xs : List Value} {off : Nat} {D : TypeDesc} (hD : P.underlying t = some D) (hz : tsz P t = some n) (hx : (cs.drop off).take n = xs) (hn : xs.length = n) (h1 : aggD D = false → n = 1) : (part t cs.toArray off).run P w = .ok (vof P t xs) w := by
 unfold part vof
 rw [hD]
 cases hd : aggD D with
 | true =>
  simp only [Sem.run_bind, run_isAgg hD, hd, Result.andThen_ok, if_true, run_tsz hz, Sem.run_pure]
  congr 2
  apply Array.ext'
  rw [← hx]
  simp [List.take_drop]
 | false =>
  have := h1 hd
  subst this
  match xs, hn with
  | [x], _ =>
   have : cs[off]? = some x := by
    have := congrArg (fun l : List Value => l[0]?) hx
    simpa [List.getElem?_take, List.getElem?_drop] using this
   simp [run_isAgg hD, hd, this]
end
section
variable {P : Program} {fr : Fr} {o : Oper} {t ty : TypeId} {x y : Operand}
/-- A part of a struct is filled in. -/
theorem fold_splice {α : Type} (off : Nat) : ∀ (vs : List α) (j : Nat) (cs : Array α), off + j + vs.length ≤ cs.size →
  ((vs.toArray.zipIdx j).foldl (fun cs (x : α × Nat) => cs.setIfInBounds (off + x.2) x.1) cs).toList = splice cs.toList (off + j) vs
 | [], j, cs, _ => by
  rw [splice_nil, show (([] : List α).toArray.zipIdx j) = #[] by apply Array.ext'; simp]
  rfl
 | v :: vs, j, cs, h => by
  have hz : ((v :: vs).toArray.zipIdx j).toList = (v, j) :: (vs.toArray.zipIdx (j + 1)).toList := by simp
  have e : ∀ (l : Array (α × Nat)) (c : Array α), (l.foldl (fun cs (x : α × Nat) => cs.setIfInBounds (off + x.2) x.1) c) = l.toList.foldl (fun cs (x : α × Nat) => cs.setIfInBounds (off + x.2) x.1) c := fun l c => by rw [Array.foldl_toList]
  rw [e, hz, List.foldl_cons, ← e, fold_splice off vs (j + 1) _ (by simp at h ⊢; omega)]
  rw [Array.toList_setIfInBounds, show off + (j + 1) = (off + j) + 1 by omega, splice_cons _ _ _ _ (by simp at h ⊢; omega)]
theorem fill_splice {place : Nat → Option (Nat × Nat)} {i off n : Nat} {v : Value} {cs : Array Value} {rest : List (Nat × Value)} {r : Array Value} {vs : List Value} (hp : place i = some (off, n)) (hv : v.cells = vs.toArray) (hn : vs.length = n) (hl : off + n ≤ cs.size) (h : Instr.fill place (splice cs.toList off vs).toArray rest = some r) :
  Instr.fill place cs ((i, v) :: rest) = some r := by
 have h1 := fold_splice off vs 0 cs (by omega)
 unfold Instr.fill
 rw [hp, hv]
 simp only [List.size_toArray, hn]
 rw [if_neg (by simp; omega)]
 have e : (vs.toArray.zipIdx.foldl (fun cs (x : Value × Nat) => cs.setIfInBounds (off + x.2) x.1) cs) = (splice cs.toList off vs).toArray := by
  apply Array.ext'
  simpa using h1
 rw [← h, ← e]
end
end SE
end Go

