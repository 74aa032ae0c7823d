/- append that may leave the old block as it was, beside a new one; rows of which less is known. Generic (no program). -/
import Derived.Test.YtdingfinclcbgaaSE20
namespace Go
namespace SE
open Go.RowKit
set_option linter.unusedVariables false
set_option linter.unusedSimpArgs false
section
variable {P : Program} {E : Env} {fr : Fr} {H : Hp} {o : Oper} {x y : Operand}
/-- append: the block that was there, or a new one beside it. -/
theorem S_append2 (d : Option Tmp) (k k2 : Nat) {t tx e : TypeId} {D : TypeDesc} {sz by_ b n c m rest : Nat} {A : Option Addr} {z : Value} {cells news : List Value} {K : Fr → Hp → Prop}
    (ho : o.op = .call ⟨.builtin .append, #[x, y], #[t, tx]⟩) (ht : P.underlying t = some (.slice e)) (htx : P.underlying tx = some D) (hD : D = .string ∨ ∃ e', D = .slice e') (hz : tsz P e = some sz) (hby : tby P e = some by_) (hzz : tze P e = some z) (hzc : z.cells.size = sz)
    (hx : fr.ev x = some (.slice A n c)) (hk : 0 < c → A = some ⟨b, 0, none⟩ ∧ H k = some ⟨true, b, 0, e, cells, rest⟩) (hlen : cells.length = n * sz) (hcap : n * sz + rest = c * sz) (hnc : n ≤ c)
    (hs : Src P E fr H sz y m news) (h1 : ∀ u ∈ news, u.oneCell' = true) (hsz : 0 < sz) (hmax : n + m ≤ 140737488355328) (hbytes : (n + m) * by_ ≤ 140737488355328)
    (h : n + m ≤ c → K (fr.put E.n d (.slice A (n + m) c)) (H.set k ⟨true, b, 0, e, cells ++ news, (c - (n + m)) * sz⟩))
    (h' : c < n + m → ∀ b' c', n + m ≤ c' → K (fr.put E.n d (.slice (some ⟨b', 0, none⟩) (n + m) c')) (H.set k2 ⟨true, b', 0, e, cells ++ news, (c' - (n + m)) * sz⟩)) (hd : o.dst = d := by rfl) : SStep P E true fr H o K := by
  subst hd
  intro a w R
  obtain ⟨s1, s2, s3⟩ := hs a w R
  by_cases hroom : n + m ≤ c
  · by_cases hc0 : c = 0
    · subst hc0
      have hn0 : n = 0 := by omega
      have hm0 : m = 0 := by omega
      subst hn0 hm0
      have hnews : news = [] := List.eq_nil_of_length_eq_zero (by simpa using s3)
      have hcells : cells = [] := List.eq_nil_of_length_eq_zero (by simpa using hlen)
      subst hnews hcells
      have hrun := exec_append ho (a := a) (P := P) (w := w) (by
        rw [R.ev hx]
        exact run_append_room (D := D) ht htx hD hz s1 s2 hroom (w' := w) (by cases A <;> rfl))
      unfold Oper.wp
      rw [hrun]
      refine ⟨fun hh => (by cases hh), _, _, h (by omega), ?_⟩
      have R' := R.put o.dst (.slice A 0 0)
      refine ⟨R'.df, R'.size, R'.fr, R.chg, ?_⟩
      simpa using R.heap.empty k b e
    · obtain ⟨hA, hH⟩ := hk (by omega)
      have hcs : 0 < c * sz := Nat.mul_pos (by omega) hsz
      have hz0 : cells.length + rest ≠ 0 := by omega
      have hms : (n + m) * sz ≤ c * sz := Nat.mul_le_mul_right _ hroom
      rw [Nat.add_mul] at hms
      obtain ⟨_, e2, e3, tl, fz, e4, e5, e6⟩ := R.heap.own_ hH rfl hz0
      dsimp only at e2 e3 e4 e5 e6
      obtain ⟨w', r1, r2, r3⟩ := run_stores (P := P) b (n * sz) e fz news 0 (cells ++ tl) w e6 (by simp; omega) (by rcases e5 with e5 | e5; exact Or.inl e5; right; simp; omega) h1
      have hrun := exec_append ho (a := a) (P := P) (w := w) (by
        rw [R.ev hx]
        exact run_append_room (D := D) (A := A) ht htx hD hz s1 s2 hroom (w' := w') (by
          subst hA
          dsimp only
          rw [add_addr, Nat.zero_add]
          exact r1))
      unfold Oper.wp
      rw [hrun]
      refine ⟨fun hh => (by cases hh), _, _, h hroom, ?_⟩
      have R' := R.put o.dst (.slice A (n + m) c)
      refine ⟨R'.df, R'.size, R'.fr, R.chg.trans_new r2 ?_, ?_⟩
      · intro q hq
        obtain rfl : q = b := by simpa using hq
        exact e3
      · have hsub : (c - (n + m)) * sz = c * sz - (n * sz + m * sz) := by rw [Nat.sub_mul, Nat.add_mul]
        refine R.heap.write (r := ⟨true, b, 0, e, cells, rest⟩) hH rfl hz0 (by dsimp only; rw [List.length_append, s3, hsub]; omega) r2 fun tl' fz' ht' hh' => ?_
        dsimp only at hh' ht' ⊢
        rw [e6] at hh'
        simp only [Option.some.injEq, Obj.cells.injEq] at hh'
        obtain ⟨g1, _, g3⟩ := hh'
        have g1 : cells ++ tl = cells ++ tl' := by simpa using g1
        have g1 := List.append_cancel_left g1
        subst g1 g3
        refine ⟨tl.drop (m * sz), by rw [List.length_drop, e4, hsub]; omega, ?_⟩
        rw [r3, Nat.add_zero]
        have : splice (cells ++ tl) (n * sz) news = cells ++ news ++ tl.drop (m * sz) := by
          unfold splice
          rw [← hlen, List.take_left, List.drop_append, List.drop_eq_nil_of_le (by omega), s3]
          simp [hlen]
        rw [this]
  · have hold : (Builtin.firstCells sz n (.slice A n c)).run P w.drew = .ok cells.toArray w.drew := by
      by_cases hc0 : c = 0
      · subst hc0
        have hn0 : n = 0 := by omega
        subst hn0
        have hcells : cells = [] := List.eq_nil_of_length_eq_zero (by simpa using hlen)
        subst hcells
        cases A <;> simp [Builtin.firstCells, loadCells, loadCellsFrom]
      · obtain ⟨hA, hH⟩ := hk (by omega)
        subst hA
        have := run_loadCells_list (P := P) (w := w.drew) ⟨b, 0, none⟩ cells (fun i v hi => by
          rw [add_addr]
          exact R.drew.heap.cell R.drew.chg hH hi)
        rw [hlen] at this
        simp [Builtin.firstCells, this]
    obtain ⟨c', hc', hr⟩ := run_append_grow (P := P) (ty := o.type) (A := A) ht htx hD hz hby hzz s1 (hs a w.drew R.drew).2.1 hold (by omega) hmax hbytes
    have hrun := exec_append ho (a := a) (P := P) (w := w) (by rw [R.ev hx]; exact hr)
    unfold Oper.wp
    rw [hrun]
    refine ⟨fun hh => (by cases hh), _, _, h' (by omega) w.heap.size c' hc', ?_⟩
    have R' := R.put o.dst (.slice (some ⟨w.heap.size, 0, none⟩) (n + m) c')
    have hb : Below w.heap.size w (w.drew.alloc (.cells (cells.toArray ++ news.toArray ++ Builtin.zeroCells z.cells (c' - (n + m))) e)) := (Below.refl _ _).drew.alloc (Nat.le_refl _) _
    refine ⟨R'.df, R'.size, R'.fr, R.chg.trans (Chg.of_below hb), ?_⟩
    have := R.heap.new R.chg hb k2 (cells ++ news) (Builtin.zeroCells z.cells (c' - (n + m))).toList e (0, 0) (Or.inl rfl) w.heap.size (Nat.le_refl _) (by simp) (by
      have := heap_alloc_new w.drew (.cells (cells.toArray ++ news.toArray ++ Builtin.zeroCells z.cells (c' - (n + m))) e)
      rw [World.size_drew] at this
      rw [this]
      simp)
    rw [Array.length_toList, size_zeroCells', hzc] at this
    exact this

theorem S_append2M {α : Type} {f : α → Value} {l L : List α} (d : Option Tmp) (k k2 : Nat) (M : List α) {t tx e : TypeId} {D : TypeDesc} {by_ b n c m rest : Nat} {A : Option Addr} {z : Value} {K : Fr → Hp → Prop}
    (ho : o.op = .call ⟨.builtin .append, #[x, y], #[t, tx]⟩) (ht : P.underlying t = some (.slice e)) (htx : P.underlying tx = some D) (hD : D = .string ∨ ∃ e', D = .slice e') (hz : tsz P e = some 1) (hby : tby P e = some by_) (hzz : tze P e = some z) (hzc : z.cells.size = 1)
    (hx : fr.ev x = some (.slice A n c)) (hk : 0 < c → A = some ⟨b, 0, none⟩ ∧ H k = some ⟨true, b, 0, e, l.map f, rest⟩) (hlen : l.length = n) (hcap : n + rest = c)
    (hs : Src P E fr H 1 y m (L.map f)) (h1 : ∀ u, (f u).oneCell' = true) (hmax : n + m ≤ 140737488355328) (hbytes : (n + m) * by_ ≤ 140737488355328) (hM : l ++ L = M) (hm : L.length = m)
    (h : M.length ≤ c → K (fr.put E.n d (.slice A M.length c)) (H.set k ⟨true, b, 0, e, M.map f, c - M.length⟩))
    (h' : c < M.length → ∀ b' c', M.length ≤ c' → K (fr.put E.n d (.slice (some ⟨b', 0, none⟩) M.length c')) (H.set k2 ⟨true, b', 0, e, M.map f, c' - M.length⟩)) (hd : o.dst = d := by rfl) : SStep P E true fr H o K := by
  subst hM hlen hm
  refine S_append2 d k k2 ho ht htx hD hz hby hzz hzc hx hk (by simp) (by omega) (by omega) hs (fun u hu => ?_) (by decide) hmax hbytes (fun g => ?_) (fun g b' c' g2 => ?_) hd
  · obtain ⟨z, _, rfl⟩ := List.mem_map.1 hu
    exact h1 z
  · have := h (by rw [List.length_append]; exact g)
    rwa [List.length_append, List.map_append, show c - (l.length + L.length) = (c - (l.length + L.length)) * 1 by omega] at this
  · have := h' (by rw [List.length_append]; exact g) b' c' (by rw [List.length_append]; exact g2)
    rwa [List.length_append, List.map_append, show c' - (l.length + L.length) = (c' - (l.length + L.length)) * 1 by omega] at this
/-- Of a row of one's own less is known. -/
theorem At.forget {T : Act → World → Prop} (k : Nat) {b rest : Nat} {ty : TypeId} {cs cs' : List Value} (hk : H k = some ⟨true, b, 0, ty, cs ++ cs', rest⟩) (h : At E fr (H.set k ⟨true, b, 0, ty, cs, rest + cs'.length⟩) T) : At E fr H T := fun a w R => by
  refine h a w ⟨R.df, R.size, R.fr, R.chg, ⟨fun i r hr => ?_, fun i j r r' hr hr' ho ho' hij hz hz' => ?_⟩⟩
  · rcases Hp.set_some hr with ⟨rfl, rfl⟩ | ⟨_, hr⟩
    · have := R.heap.row _ _ hk
      unfold RowR at this ⊢
      refine ⟨rfl, fun hz => ?_⟩
      have hz : cs.length + (rest + cs'.length) ≠ 0 := hz
      obtain ⟨g1, g2, tl, fz, g3, g4, g5⟩ := this.2 (show (cs ++ cs').length + rest ≠ 0 by rw [List.length_append]; omega)
      refine ⟨g1, g2, cs' ++ tl, fz, by simp at g3 ⊢; omega, ?_, by simpa using g5⟩
      rcases g4 with g4 | g4
      · exact Or.inl g4
      · right; simp at g4 ⊢; omega
    · exact R.heap.row i r hr
  · rcases Hp.set_some hr with ⟨e1, e2⟩ | ⟨h1, hr1⟩ <;> rcases Hp.set_some hr' with ⟨e3, e4⟩ | ⟨h2, hr2⟩
    · exact absurd (e1.trans e3.symm) hij
    · subst e2 e1
      have hz : cs.length + (rest + cs'.length) ≠ 0 := hz
      exact R.heap.apart i j ⟨true, b, 0, ty, cs ++ cs', rest⟩ r' hk hr2 rfl ho' hij (show (cs ++ cs').length + rest ≠ 0 by rw [List.length_append]; omega) hz'
    · subst e4 e3
      have hz' : cs.length + (rest + cs'.length) ≠ 0 := hz'
      exact R.heap.apart i j r ⟨true, b, 0, ty, cs ++ cs', rest⟩ hr1 hk ho rfl hij hz (show (cs ++ cs').length + rest ≠ 0 by rw [List.length_append]; omega)
    · exact R.heap.apart _ _ _ _ hr1 hr2 ho ho' hij hz hz'
end
end SE
end Go
