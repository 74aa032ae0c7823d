/- append in place, into a block of whatever type: cells of one kind. -/
import Derived.Test.YtdingfinclcbgaaSE36
namespace Go
namespace SE
open Go.RowKit
set_option linter.unusedVariables false
set_option linter.unusedSimpArgs false
section
variable {P : Program} {E : Env} {fr : Fr} {H : Hp} {o : Oper} {x y : Operand}
theorem S_appendInM {α : Type} {f : α → Value} {l L : List α} (d : Option Tmp) (k : Nat) (M : List α) {t tx e ty' : TypeId} {D : TypeDesc} {b n c m rest : Nat} {A : Option Addr} {K : Fr → Hp → Prop}
    (ho : o.op = .call ⟨.builtin .append, #[x, y], #[t, tx]⟩) (ht : P.underlying t = some (.slice e)) (htx : P.underlying tx = some D) (hD : D = .string ∨ ∃ e', D = .slice e') (hz : tsz P e = some 1)
    (hx : fr.ev x = some (.slice A n c)) (hA : A = some ⟨b, 0, none⟩) (hk : H k = some ⟨true, b, 0, ty', l.map f, rest⟩) (hroom : n + m ≤ c) (hlen : n + m ≤ l.length) (hpos : 0 < l.length)
    (hs : Src P E fr H 1 y m (L.map f)) (h1 : ∀ u, (f u).oneCell' = true) (hM : splice l n L = M) (hm : L.length = m)
    (h : K (fr.put E.n d (.slice A (n + m) c)) (H.set k ⟨true, b, 0, ty', M.map f, rest⟩)) (hd : o.dst = d := by rfl) : SStep P E true fr H o K := by
  subst hM hm
  refine S_appendIn d k (sz := 1) (cells := l.map f) (news := L.map f) (rest := rest) ho ht htx hD hz hx hA hk hroom (by simp only [List.length_map]; omega) (by simp only [List.length_map]; omega) hs (by intro u hu; obtain ⟨z, _, rfl⟩ := List.mem_map.1 hu; exact h1 z) ?_ hd
  rw [Nat.mul_one, splice_map]
  exact h
/-- .. of noughts, to a slice that is too short for them: always in a new block. -/
theorem S_appendVZ {α : Type} {f : α → Value} {l : List α} (d : Option Tmp) (k : Nat) (M : List α) (z0 : α) {t tx e : TypeId} {by_ n c m : Nat} {A : Option Addr} {z : Value} {j : Int} {K : Fr → Hp → Prop}
    (ho : o.op = .call ⟨.builtin .append, #[x, y], #[t, tx]⟩) (ht : P.underlying t = some (.slice e)) (htx : P.underlying tx = some (.int .i64)) (hz : tsz P e = some 1) (hby : tby P e = some by_) (hzz : tze P e = some z) (hzc : z.cells = #[f z0])
    (hx : fr.ev x = some (.slice A n c)) (hsx : Src P E fr H 1 x n (l.map f)) (hroom : c < n + m)
    (hy : fr.ev y = some (.int .i64 j)) (hj : j = (m : Int)) (hmax : n + m ≤ 140737488355328) (hbytes : (n + m) * by_ ≤ 140737488355328) (hM : l ++ List.replicate m z0 = M)
    (h : ∀ (b' c' : Nat), M.length ≤ c' → K (fr.put E.n d (.slice (some ⟨b', 0, none⟩) M.length c')) (H.set k ⟨true, b', 0, e, M.map f, c' - M.length⟩)) (hd : o.dst = d := by rfl) : SStep P E true fr H o K := by
  subst hd hM hj
  intro a w R
  have hold := (hsx a w.drew R.drew).2.1
  have hl := (hsx a w.drew R.drew).2.2
  rw [List.length_map, Nat.mul_one] at hl
  rw [R.drew.ev hx] at hold
  have hm : m ≤ 140737488355328 := by omega
  have s3 : (List.replicate m (f z0)).length = m * 1 := by simp
  have s2 : m * 1 ≠ 0 → Builtin.zeroCells z.cells m = (List.replicate m (f z0)).toArray := fun _ => by rw [hzc, zeroCells_one]
  obtain ⟨c', hc', hr⟩ := run_appendZ_grow (ty := o.type) ht htx hz hby hzz hm s3 s2 hold hroom hmax hbytes
  have hrun := exec_append ho (a := a) (P := P) (w := w) (by rw [R.ev hx, R.ev hy]; exact hr)
  unfold Oper.wp
  rw [hrun]
  have hle : (l ++ List.replicate m z0).length = n + m := by rw [List.length_append, List.length_replicate]; omega
  refine ⟨fun hh => (by cases hh), _, _, h w.heap.size c' (by omega), ?_⟩
  have R' := R.put o.dst (.slice (some ⟨w.heap.size, 0, none⟩) (l ++ List.replicate m z0).length c')
  have hb : Below w.heap.size w (w.drew.alloc (.cells ((l.map f).toArray ++ (List.replicate m (f z0)).toArray ++ Builtin.zeroCells z.cells (c' - (n + m))) e)) := (Below.refl _ _).drew.alloc (Nat.le_refl _) _
  rw [hle] at R' ⊢
  refine ⟨R'.df, R'.size, R'.fr, R.chg.trans (Chg.of_below hb), ?_⟩
  have := R.heap.new R.chg hb k ((l ++ List.replicate m z0).map f) (Builtin.zeroCells z.cells (c' - (n + m))).toList e (0, 0) (Or.inl rfl) w.heap.size (Nat.le_refl _) (by simp) (by
    have := heap_alloc_new w.drew (.cells ((l.map f).toArray ++ (List.replicate m (f z0)).toArray ++ Builtin.zeroCells z.cells (c' - (n + m))) e)
    rw [World.size_drew] at this
    rw [this]
    simp)
  rw [Array.length_toList, size_zeroCells', show z.cells.size = 1 by rw [hzc]; rfl, Nat.mul_one] at this
  exact this
end
end SE
end Go
