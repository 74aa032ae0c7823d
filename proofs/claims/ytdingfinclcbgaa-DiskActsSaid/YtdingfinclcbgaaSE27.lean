/- Rows whose cells are segments, one behind the other; sources and views of whole rows and of parts. Generic (no program). -/
import Derived.Test.YtdingfinclcbgaaSE26
import Derived.Test.YtdingfinclcbgaaSE17
import Derived.Test.YtdingfinclcbgaaSE24
namespace Go
namespace SE
open Go.RowKit
set_option linter.unusedVariables false
set_option linter.unusedSimpArgs false
section
variable {α : Type} {l : List (List α)} {i j m n p : Nat} {x vs : List α} {v : α}
theorem seg_split (hx : l[i]? = some x) : l.flatten = (l.take i).flatten ++ (x ++ (l.drop (i + 1)).flatten) := by
  have hi : i < l.length := by
    rcases Nat.lt_or_ge i l.length with h | h
    · exact h
    · rw [List.getElem?_eq_none h] at hx; cases hx
  rw [List.getElem?_eq_getElem hi] at hx
  obtain rfl := Option.some.inj hx
  conv => lhs; rw [← List.take_append_drop i l, List.flatten_append, List.drop_eq_getElem_cons hi, List.flatten_cons]
theorem seg_set_split (hx : l[i]? = some x) (y : List α) : (l.set i y).flatten = (l.take i).flatten ++ (y ++ (l.drop (i + 1)).flatten) := by
  have hi : i < l.length := by
    rcases Nat.lt_or_ge i l.length with h | h
    · exact h
    · rw [List.getElem?_eq_none h] at hx; cases hx
  rw [seg_split (l := l.set i y) (i := i) (x := y) (by simp [hi]), List.take_set_of_le (Nat.le_refl _), List.drop_set_of_lt (Nat.lt_succ_self _)]
theorem seg_at (hx : l[i]? = some x) (hj : ((l.take i).flatten).length = j) (hn : x.length = n) : (l.flatten.drop j).take n = x := by
  rw [seg_split hx, List.drop_left' hj, List.take_left' hn]
theorem seg_part (hx : l[i]? = some x) (hj : ((l.take i).flatten).length + p = j) (hn : p + n ≤ x.length) : (l.flatten.drop j).take n = (x.drop p).take n := by
  rw [seg_split hx, ← hj, ← List.drop_drop, List.drop_left' rfl, List.drop_append, List.take_append_of_le_length (by rw [List.length_drop]; omega)]
theorem seg_ats {c : Nat} {xs : List (List α)} (hx : (l.drop i).take c = xs) (hj : ((l.take i).flatten).length = j) (hn : xs.flatten.length = n) : (l.flatten.drop j).take n = xs.flatten := by
  conv => lhs; rw [← List.take_append_drop i l, List.flatten_append, List.drop_left' hj, ← List.take_append_drop c (l.drop i), hx, List.flatten_append, List.take_left' hn]
theorem seg_get (hx : l[i]? = some x) (hj : ((l.take i).flatten).length + p = m) (hv : x[p]? = some v) : l.flatten[m]? = some v := by
  have hp : p < x.length := by
    rcases Nat.lt_or_ge p x.length with h | h
    · exact h
    · rw [List.getElem?_eq_none h] at hv; cases hv
  rw [seg_split hx, ← hj, List.getElem?_append_right (by omega), Nat.add_sub_cancel_left, List.getElem?_append_left hp, hv]
theorem seg_getM {β : Type} {f : β → α} {L : List β} {d : β} (hx : l[i]? = some (L.map f)) (hj : ((l.take i).flatten).length + p = m) (hp : p < L.length) : l.flatten[m]? = some (f (L.getD p d)) :=
  seg_get hx hj (by rw [List.getElem?_map, List.getD_eq_getElem?_getD, List.getElem?_eq_getElem hp]; rfl)
theorem seg_set (hx : l[i]? = some x) (hj : ((l.take i).flatten).length = m) (hn : vs.length = x.length) : splice l.flatten m vs = (l.set i vs).flatten := by
  rw [seg_split hx, seg_set_split hx, splice, List.take_left' hj, ← List.drop_drop, List.drop_left' hj, List.drop_left' hn.symm, List.append_assoc]
theorem seg_setP (hx : l[i]? = some x) (hj : ((l.take i).flatten).length + p = m) (hn : p + vs.length ≤ x.length) : splice l.flatten m vs = (l.set i (splice x p vs)).flatten := by
  rw [seg_split hx, seg_set_split hx, splice, splice, ← hj]
  simp only [List.append_assoc]
  rw [List.take_append, Nat.add_sub_cancel_left, List.take_of_length_le (Nat.le_add_right _ _), List.take_append_of_le_length (by omega), Nat.add_assoc, List.drop_append, Nat.add_sub_cancel_left, List.drop_eq_nil_of_le (Nat.le_add_right _ _), List.nil_append, List.drop_append_of_le_length hn, List.append_assoc]
theorem seg_set1 (hx : l[i]? = some x) (hj : ((l.take i).flatten).length + p = m) (hp : p < x.length) : l.flatten.set m v = (l.set i (x.set p v)).flatten := by
  rw [seg_split hx, seg_set_split hx, ← hj, List.set_append, if_neg (by omega), Nat.add_sub_cancel_left, List.set_append, if_pos hp]
theorem seg_set1M {β : Type} {f : β → α} {L : List β} {u : β} (hx : l[i]? = some (L.map f)) (hj : ((l.take i).flatten).length + p = m) (hp : p < L.length) : l.flatten.set m (f u) = (l.set i ((L.set p u).map f)).flatten := by
  rw [seg_set1 hx hj (by rw [List.length_map]; exact hp), List.map_set]
end
def OneC (vs : List Value) : Prop := ∀ u ∈ vs, u.oneCell' = true
theorem one_map {α : Type} {f : α → Value} {L : List α} (h : ∀ u, (f u).oneCell' = true) : OneC (L.map f) := by
  intro u hu
  obtain ⟨z, _, rfl⟩ := List.mem_map.1 hu
  exact h z
theorem one_nil : OneC [] := by intro u hu; cases hu
theorem one_cons {v : Value} {vs : List Value} (h : v.oneCell' = true) (t : OneC vs) : OneC (v :: vs) := by
  intro u hu
  rcases List.mem_cons.1 hu with rfl | hu
  · exact h
  · exact t u hu
theorem one_flat0 : OneC ([] : List (List Value)).flatten := one_nil
theorem one_flatc {x : List Value} {l : List (List Value)} (h : OneC x) (t : OneC l.flatten) : OneC (x :: l).flatten := by
  intro u hu
  rw [List.flatten_cons] at hu
  rcases List.mem_append.1 hu with hu | hu
  · exact h u hu
  · exact t u hu
section
variable {P : Program} {E : Env} {fr : Fr} {H : Hp} {o : Oper} {t ty : TypeId} {x y : Operand} {v : Value}
/-- The same cells, told otherwise. -/
theorem At.row {T : Act → World → Prop} (k : Nat) (r : Row) {cs : List Value} (hk : H k = some ⟨r.own, r.b, r.s, r.ty, cs, r.rest⟩) (hcs : cs = r.cells) (h : At E fr (H.set k r) T) : At E fr H T := by
  subst hcs
  refine At.weak (fun _ _ h => h) (fun i r' hr => ?_) h
  rcases Hp.set_some hr with ⟨rfl, rfl⟩ | ⟨_, hr⟩
  · exact hk
  · exact hr
/-- Of a row of one kind less is known. -/
theorem At.forgetM {T : Act → World → Prop} {α : Type} {f : α → Value} {l l' : List α} (k : Nat) {b rest : Nat} {ty : TypeId} (hk : H k = some ⟨true, b, 0, ty, (l ++ l').map f, rest⟩) (h : At E fr (H.set k ⟨true, b, 0, ty, l.map f, rest + l'.length⟩) T) : At E fr H T :=
  At.forget k (cs := l.map f) (cs' := l'.map f) (by rw [hk, List.map_append]) (by rw [List.length_map]; exact h)
theorem view_seg {b s s' i j tt rest : Nat} {ow : Bool} {l : List (List Value)} {cs : List Value} {ty ty' : TypeId} (hx : l[i]? = some cs) (hq : s' = s + j) (hj : ((l.take i).flatten).length = j) : View ⟨ow, b, s, ty, l.flatten, rest⟩ ⟨false, b, s', ty', cs, tt⟩ := by
  refine ⟨rfl, rfl, j, hq, fun p v hv => ?_⟩
  exact seg_get hx (by omega) hv
theorem Src.all {α : Type} {f : α → Value} {l : List α} {m c b q k : Nat} {A : Option Addr} {r : Row} (hy : fr.ev y = some (.slice A m c)) (hA : 0 < m → A = some ⟨b, q, none⟩) (hk : 0 < m → H k = some r ∧ r.b = b ∧ r.s + 0 = q) (hl : l.length = m) (hc : r.cells = l.map f := by rfl) : Src P E fr H 1 y m (l.map f) :=
  Src.row (j := 0) hy hA hk (by rw [hc, List.drop_zero, List.take_of_length_le (by rw [List.length_map]; omega)]) (by rw [List.length_map]; omega)
theorem Src.part {α : Type} {f : α → Value} {l : List α} {m c b q k j : Nat} {A : Option Addr} {r : Row} (hy : fr.ev y = some (.slice A m c)) (hA : 0 < m → A = some ⟨b, q, none⟩) (hk : 0 < m → H k = some r ∧ r.b = b ∧ r.s + j = q) (hl : j + m ≤ l.length) (hc : r.cells = l.map f := by rfl) : Src P E fr H 1 y m (((l.drop j).take m).map f) :=
  Src.row (j := j) hy hA hk (by rw [hc, Nat.mul_one, ← List.map_drop, ← List.map_take]) (by rw [List.length_map, List.length_take, List.length_drop]; omega)
theorem Q_strA {s d e : TypeId} {A : Option Addr} {l : List (BitVec 8)} {n c b q k : Nat} {r : Row} (hl : l.length = n) (ho : o.op = .convert s d x) (hs : P.underlying s = some (.slice e)) (he : P.underlying e = some (.int .u8)) (hd : P.underlying d = some .string)
    (hx : fr.ev x = some (.slice A n c)) (hA : 0 < n → A = some ⟨b, q, none⟩) (hk : 0 < n → H k = some r ∧ r.b = b ∧ r.s + 0 = q) (hc : r.cells = l.map u8V := by rfl) : QStep P E fr H o (strV l) :=
  Q_strN (j := 0) hl ho hs he hd hx hA hk (by rw [hc, List.drop_zero, List.take_of_length_le (by rw [List.length_map]; omega)])
theorem Q_strP {s d e : TypeId} {A : Option Addr} {l : List (BitVec 8)} {n c b q k j : Nat} {r : Row} (hl : j + n ≤ l.length) (ho : o.op = .convert s d x) (hs : P.underlying s = some (.slice e)) (he : P.underlying e = some (.int .u8)) (hd : P.underlying d = some .string)
    (hx : fr.ev x = some (.slice A n c)) (hA : 0 < n → A = some ⟨b, q, none⟩) (hk : 0 < n → H k = some r ∧ r.b = b ∧ r.s + j = q) (hc : r.cells = l.map u8V := by rfl) : QStep P E fr H o (strV ((l.drop j).take n)) :=
  Q_strN (j := j) (by rw [List.length_take, List.length_drop]; omega) ho hs he hd hx hA hk (by rw [hc, ← List.map_drop, ← List.map_take])
theorem fill_seg {place : Nat → Option (Nat × Nat)} {i k off n : Nat} {v : Value} {l : List (List Value)} {rest : List (Nat × Value)} {r : Array Value} {vs cs : List Value} (hp : place i = some (off, n)) (hv : v.cells = vs.toArray) (hn : vs.length = n) (hx : l[k]? = some cs) (hxl : cs.length = n) (hoff : ((l.take k).flatten).length = off)
    (h : Instr.fill place ((l.set k vs).flatten).toArray rest = some r) : Instr.fill place (l.flatten).toArray ((i, v) :: rest) = some r := by
  refine fill_splice hp hv hn ?_ ?_
  · rw [seg_split hx]; simp only [List.size_toArray, List.length_append]; omega
  · rw [seg_set hx hoff (by omega)]; exact h
theorem fill_end {place : Nat → Option (Nat × Nat)} {l m : List Value} (h : l = m) : Instr.fill place l.toArray [] = some m.toArray := by
  subst h; rfl
/-- Bytes copied into a segment. -/
theorem Src2.all {l : List (BitVec 8)} {m n c b q k : Nat} {A : Option Addr} {r : Row} (hy : fr.ev y = some (.slice A m c)) (hA : 0 < m → A = some ⟨b, q, none⟩) (hk : 0 < m → H k = some r ∧ r.b = b ∧ r.s + 0 = q) (hn : n ≤ m) (hl : l.length = m) (hc : r.cells = l.map u8V := by rfl) : Src2 P E fr H y m n ((l.take n).map u8V) :=
  Src2.row (j := 0) hy (fun h => hA (by omega)) (fun h => hk (by omega)) (by rw [hc, List.drop_zero, List.map_take]) (by rw [List.length_map, List.length_take]; omega)
end
end SE
end Go
