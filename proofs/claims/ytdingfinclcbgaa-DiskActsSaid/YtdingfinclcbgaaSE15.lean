/- append of noughts: append(x, make([]T, n)...), which the translation hands to append as a number. Generic (no program). -/
import Derived.Test.YtdingfinclcbgaaSE14
namespace Go
namespace SE
open Go.RowKit
set_option linter.unusedVariables false
set_option linter.unusedSimpArgs false
section
variable {P : Program} {E : Env} {fr : Fr} {H : Hp} {o : Oper} {x y : Operand}
/-- append, whatever it takes its cells from: by what its runs answer. -/
theorem S_appendG (d : Option Tmp) (k : Nat) {t tx e : TypeId} {sz by_ b n c m rest : Nat} {A : Option Addr} {z : Value} {cells news : List Value} {K : Fr → Hp → Prop}
    (ho : o.op = .call ⟨.builtin .append, #[x, y], #[t, tx]⟩)
    (hx : fr.ev x = some (.slice A n c)) (hk : 0 < c → A = some ⟨b, 0, none⟩ ∧ H k = some ⟨true, b, 0, e, cells, rest⟩) (hlen : cells.length = n * sz) (hcap : n * sz + rest = c * sz) (hnc : n ≤ c)
    (s3 : news.length = m * sz)
    (room : ∀ a w, Rep E fr H a w → n + m ≤ c → ∀ w', (match A with | some a => storeCells (a.add (n * sz)) news | none => pure ()).run P w = .ok () w' → (Builtin.append_ #[t, tx] o.type #[.slice A n c, a.eval y]).run P w = .ok (.slice A (n + m) c) w')
    (grow : ∀ a w, Rep E fr H a w → c < n + m → (Builtin.firstCells sz n (.slice A n c)).run P w.drew = .ok cells.toArray w.drew → ∃ c', n + m ≤ c' ∧ (Builtin.append_ #[t, tx] o.type #[.slice A n c, a.eval y]).run P w = .ok (.slice (some ⟨w.heap.size, 0, none⟩) (n + m) c') (w.drew.alloc (.cells (cells.toArray ++ news.toArray ++ Builtin.zeroCells z.cells (c' - (n + m))) e)))
    (hzc : z.cells.size = sz) (h1 : ∀ u ∈ news, u.oneCell' = true) (hsz : 0 < sz)
    (h : ∀ (A' : Option Addr) (b' c' : Nat), (0 < c' → A' = some ⟨b', 0, none⟩) → n + m ≤ c' → K (fr.put E.n d (.slice A' (n + m) c')) (H.set k ⟨true, b', 0, e, cells ++ news, (c' - (n + m)) * sz⟩)) (hd : o.dst = d := by rfl) : SStep P E true fr H o K := by
  subst hd
  intro a w R
  by_cases hroom : n + m ≤ c
  · by_cases hc0 : c = 0
    · subst hc0
      have hn0 : n = 0 := by omega
      have hm0 : m = 0 := by omega
      subst hn0 hm0
      have hnews : news = [] := List.eq_nil_of_length_eq_zero (by simpa using s3)
      have hcells : cells = [] := List.eq_nil_of_length_eq_zero (by simpa using hlen)
      subst hnews hcells
      have hrun := exec_append ho (a := a) (P := P) (w := w) (by
        rw [R.ev hx]
        exact room a w R hroom w (by cases A <;> rfl))
      unfold Oper.wp
      rw [hrun]
      refine ⟨fun hh => (by cases hh), _, _, h A w.heap.size 0 (fun h => absurd h (by omega)) (Nat.le_refl _), ?_⟩
      have R' := R.put o.dst (.slice A 0 0)
      refine ⟨R'.df, R'.size, R'.fr, R.chg, ?_⟩
      simpa using R.heap.empty k w.heap.size e
    · obtain ⟨hA, hH⟩ := hk (by omega)
      have hcs : 0 < c * sz := Nat.mul_pos (by omega) hsz
      have hz0 : cells.length + rest ≠ 0 := by omega
      have hms : (n + m) * sz ≤ c * sz := Nat.mul_le_mul_right _ hroom
      rw [Nat.add_mul] at hms
      obtain ⟨_, e2, e3, tl, fz, e4, e5, e6⟩ := R.heap.own_ hH rfl hz0
      dsimp only at e2 e3 e4 e5 e6
      obtain ⟨w', r1, r2, r3⟩ := run_stores (P := P) b (n * sz) e fz news 0 (cells ++ tl) w e6 (by simp; omega) (by rcases e5 with e5 | e5; exact Or.inl e5; right; simp; omega) h1
      have hrun := exec_append ho (a := a) (P := P) (w := w) (by
        rw [R.ev hx]
        exact room a w R hroom w' (by
          subst hA
          dsimp only
          rw [add_addr, Nat.zero_add]
          exact r1))
      unfold Oper.wp
      rw [hrun]
      refine ⟨fun hh => (by cases hh), _, _, h A b c (fun _ => hA) hroom, ?_⟩
      have R' := R.put o.dst (.slice A (n + m) c)
      refine ⟨R'.df, R'.size, R'.fr, R.chg.trans_new r2 ?_, ?_⟩
      · intro q hq
        obtain rfl : q = b := by simpa using hq
        exact e3
      · have hsub : (c - (n + m)) * sz = c * sz - (n * sz + m * sz) := by rw [Nat.sub_mul, Nat.add_mul]
        refine R.heap.write (r := ⟨true, b, 0, e, cells, rest⟩) hH rfl hz0 (by dsimp only; rw [List.length_append, s3, hsub]; omega) r2 fun tl' fz' ht' hh' => ?_
        dsimp only at hh' ht' ⊢
        rw [e6] at hh'
        simp only [Option.some.injEq, Obj.cells.injEq] at hh'
        obtain ⟨g1, _, g3⟩ := hh'
        have g1 : cells ++ tl = cells ++ tl' := by simpa using g1
        have g1 := List.append_cancel_left g1
        subst g1 g3
        refine ⟨tl.drop (m * sz), by rw [List.length_drop, e4, hsub]; omega, ?_⟩
        rw [r3, Nat.add_zero]
        have : splice (cells ++ tl) (n * sz) news = cells ++ news ++ tl.drop (m * sz) := by
          unfold splice
          rw [← hlen, List.take_left, List.drop_append, List.drop_eq_nil_of_le (by omega), s3]
          simp [hlen]
        rw [this]
  · have hold : (Builtin.firstCells sz n (.slice A n c)).run P w.drew = .ok cells.toArray w.drew := by
      by_cases hc0 : c = 0
      · subst hc0
        have hn0 : n = 0 := by omega
        subst hn0
        have hcells : cells = [] := List.eq_nil_of_length_eq_zero (by simpa using hlen)
        subst hcells
        cases A <;> simp [Builtin.firstCells, loadCells, loadCellsFrom]
      · obtain ⟨hA, hH⟩ := hk (by omega)
        subst hA
        have := run_loadCells_list (P := P) (w := w.drew) ⟨b, 0, none⟩ cells (fun i v hi => by
          rw [add_addr]
          exact R.drew.heap.cell R.drew.chg hH hi)
        rw [hlen] at this
        simp [Builtin.firstCells, this]
    obtain ⟨c', hc', hr⟩ := grow a w R (by omega) hold
    have hrun := exec_append ho (a := a) (P := P) (w := w) (by rw [R.ev hx]; exact hr)
    unfold Oper.wp
    rw [hrun]
    refine ⟨fun hh => (by cases hh), _, _, h (some ⟨w.heap.size, 0, none⟩) w.heap.size c' (fun _ => rfl) hc', ?_⟩
    have R' := R.put o.dst (.slice (some ⟨w.heap.size, 0, none⟩) (n + m) c')
    have hb : Below w.heap.size w (w.drew.alloc (.cells (cells.toArray ++ news.toArray ++ Builtin.zeroCells z.cells (c' - (n + m))) e)) := (Below.refl _ _).drew.alloc (Nat.le_refl _) _
    refine ⟨R'.df, R'.size, R'.fr, R.chg.trans (Chg.of_below hb), ?_⟩
    have := R.heap.new R.chg hb k (cells ++ news) (Builtin.zeroCells z.cells (c' - (n + m))).toList e (0, 0) (Or.inl rfl) w.heap.size (Nat.le_refl _) (by simp) (by
      have := heap_alloc_new w.drew (.cells (cells.toArray ++ news.toArray ++ Builtin.zeroCells z.cells (c' - (n + m))) e)
      rw [World.size_drew] at this
      rw [this]
      simp)
    rw [Array.length_toList, size_zeroCells', hzc] at this
    exact this
theorem wrap_i64 (m : Nat) (h : m ≤ 140737488355328) : IntKind.i64.wrap (m : Int) = (m : Int) := by
  unfold IntKind.wrap
  simp [IntKind.bits, IntKind.signed]
  omega
theorem run_appendZ_room {t tx ty e : TypeId} {sz by_ n c m : Nat} {A : Option Addr} {z : Value} {news : List Value} {w w' : World} (ht : P.underlying t = some (.slice e)) (htx : P.underlying tx = some (.int .i64)) (hz : tsz P e = some sz) (hby : tby P e = some by_) (hzz : tze P e = some z)
    (hm : m ≤ 140737488355328) (hb : m * by_ ≤ 140737488355328) (s3 : news.length = m * sz) (s2 : m * sz ≠ 0 → Builtin.zeroCells z.cells m = news.toArray) (hroom : n + m ≤ c)
    (hst : (match A with | some a => storeCells (a.add (n * sz)) news | none => pure ()).run P w = .ok () w') :
    (Builtin.append_ #[t, tx] ty #[.slice A n c, .int .i64 (m : Int)]).run P w = .ok (.slice A (n + m) c) w' := by
  obtain ⟨it, hi0, hi1⟩ := Option.map_eq_some_iff.1 (show (P.info? e).map (·.bytes) = _ from hby)
  have h1 : ¬ ((m : Int) < 0) := by omega
  have h2 : ¬ (281474976710656 < (m : Int) * (it.bytes : Int)) := by
    rw [hi1, ← Int.natCast_mul]
    omega
  by_cases h0 : m * sz = 0
  · have hn0 : news = [] := List.eq_nil_of_length_eq_zero (by omega)
    subst hn0
    cases A with
    | none =>
      have hw : w = w' := by simpa using hst
      subst hw
      simp [Builtin.append_, run_underlying ht, run_underlying htx, run_tsz hz, typeInfo, hi0, asInt, asIntOf, wrap_i64 m hm, h1, h2, hroom, h0]
    | some a =>
      dsimp only at hst
      simp [Builtin.append_, run_underlying ht, run_underlying htx, run_tsz hz, typeInfo, hi0, asInt, asIntOf, wrap_i64 m hm, h1, h2, hroom, h0, hst]
  · have s2 := s2 h0
    cases A with
    | none =>
      have hw : w = w' := by simpa using hst
      subst hw
      simp [Builtin.append_, run_underlying ht, run_underlying htx, run_tsz hz, run_tze hzz, typeInfo, hi0, asInt, asIntOf, wrap_i64 m hm, h1, h2, hroom, h0, s2]
    | some a =>
      dsimp only at hst
      simp [Builtin.append_, run_underlying ht, run_underlying htx, run_tsz hz, run_tze hzz, typeInfo, hi0, asInt, asIntOf, wrap_i64 m hm, h1, h2, hroom, h0, s2, hst]
theorem run_appendZ_grow {t tx ty e : TypeId} {sz by_ n c m : Nat} {A : Option Addr} {z : Value} {olds news : List Value} {w : World} (ht : P.underlying t = some (.slice e)) (htx : P.underlying tx = some (.int .i64)) (hz : tsz P e = some sz) (hby : tby P e = some by_) (hzz : tze P e = some z)
    (hm : m ≤ 140737488355328) (s3l : news.length = m * sz) (s2 : m * sz ≠ 0 → Builtin.zeroCells z.cells m = news.toArray) (s3 : (Builtin.firstCells sz n (.slice A n c)).run P w.drew = .ok olds.toArray w.drew) (hroom : c < n + m)
    (hmax : n + m ≤ 140737488355328) (hbytes : (n + m) * by_ ≤ 140737488355328) :
    ∃ c', n + m ≤ c' ∧ (Builtin.append_ #[t, tx] ty #[.slice A n c, .int .i64 (m : Int)]).run P w = .ok (.slice (some ⟨w.heap.size, 0, none⟩) (n + m) c') (w.drew.alloc (.cells (olds.toArray ++ news.toArray ++ Builtin.zeroCells z.cells (c' - (n + m))) e)) := by
  obtain ⟨it, hi0, hi1⟩ := Option.map_eq_some_iff.1 (show (P.info? e).map (·.bytes) = _ from hby)
  have h1 : ¬ ((m : Int) < 0) := by omega
  have hb : m * by_ ≤ 140737488355328 := Nat.le_trans (Nat.mul_le_mul_right _ (Nat.le_add_left m n)) hbytes
  have h2 : ¬ (281474976710656 < (m : Int) * (it.bytes : Int)) := by
    rw [hi1, ← Int.natCast_mul]
    omega
  have hn : ¬ (n + m ≤ c) := by omega
  have h63 : ¬ (9223372036854775807 < ((n : Int) + (m : Int))) := by omega
  have h48 := growslice_fits hroom hbytes
  have h48' : ¬ (281474976710656 < Builtin.nextslicecap (n + m) c * it.bytes) := by rw [hi1]; omega
  refine ⟨grownCap w (n + m) c e, grownCap_ge _ _ _ _, ?_⟩
  by_cases h0 : m * sz = 0
  · have hn0 : news = [] := List.eq_nil_of_length_eq_zero (by omega)
    subst hn0
    simp [Builtin.append_, run_underlying ht, run_underlying htx, run_tsz hz, run_tze hzz, typeInfo, hi0, asInt, asIntOf, wrap_i64 m hm, h1, h2, s3, hn, h63, h48', h0, Question.forced, newRow, grownCap]
  · have s2 := s2 h0
    simp [Builtin.append_, run_underlying ht, run_underlying htx, run_tsz hz, run_tze hzz, typeInfo, hi0, asInt, asIntOf, wrap_i64 m hm, h1, h2, s3, hn, h63, h48', h0, s2, Question.forced, newRow, grownCap]
    congr 2; apply Array.ext'; simp
theorem zeroCells_one (v : Value) (m : Nat) : Builtin.zeroCells #[v] m = (List.replicate m v).toArray := by
  apply Array.ext
  · simp [Builtin.zeroCells]
  · intro i h1 h2
    simp [Builtin.zeroCells, Nat.mod_one]
/-- append of m noughts, of cells of one kind. -/
theorem S_appendZ {α : Type} {f : α → Value} {l : List α} (d : Option Tmp) (k : Nat) (M : List α) (z0 : α) {t tx e : TypeId} {by_ b n c m rest : Nat} {A : Option Addr} {z : Value} {j : Int} {K : Fr → Hp → Prop}
    (ho : o.op = .call ⟨.builtin .append, #[x, y], #[t, tx]⟩) (ht : P.underlying t = some (.slice e)) (htx : P.underlying tx = some (.int .i64)) (hz : tsz P e = some 1) (hby : tby P e = some by_) (hzz : tze P e = some z) (hzc : z.cells = #[f z0])
    (hx : fr.ev x = some (.slice A n c)) (hk : 0 < c → A = some ⟨b, 0, none⟩ ∧ H k = some ⟨true, b, 0, e, l.map f, rest⟩) (hlen : l.length = n) (hcap : n + rest = c)
    (hy : fr.ev y = some (.int .i64 j)) (hj : j = (m : Int)) (h1 : ∀ u, (f u).oneCell' = true) (hmax : n + m ≤ 140737488355328) (hbytes : (n + m) * by_ ≤ 140737488355328) (hM : l ++ List.replicate m z0 = M)
    (h : ∀ (A' : Option Addr) (b' c' : Nat), (0 < c' → A' = some ⟨b', 0, none⟩) → M.length ≤ c' → K (fr.put E.n d (.slice A' M.length c')) (H.set k ⟨true, b', 0, e, M.map f, c' - M.length⟩)) (hd : o.dst = d := by rfl) : SStep P E true fr H o K := by
  subst hM hlen hj
  have hm : m ≤ 140737488355328 := by omega
  have hb : m * by_ ≤ 140737488355328 := Nat.le_trans (Nat.mul_le_mul_right _ (Nat.le_add_left m l.length)) hbytes
  have s3 : (List.replicate m (f z0)).length = m * 1 := by simp
  have s2 : m * 1 ≠ 0 → Builtin.zeroCells z.cells m = (List.replicate m (f z0)).toArray := fun _ => by rw [hzc, zeroCells_one]
  refine S_appendG (z := z) (by_ := by_) d k ho hx hk (by simp) (by omega) (by omega) s3 (fun a w R hr w' hst => ?_) (fun a w R hr ho2 => ?_) (by rw [hzc]; rfl) (fun u hu => by rw [List.eq_of_mem_replicate hu]; exact h1 z0) (by decide) (fun A' b' c' g1 g2 => ?_) hd
  · rw [R.ev hy]
    exact run_appendZ_room ht htx hz hby hzz hm hb s3 s2 hr hst
  · rw [R.ev hy]
    exact run_appendZ_grow ht htx hz hby hzz hm s3 s2 ho2 hr hmax hbytes
  · have := h A' b' c' g1 (by simpa using g2)
    rw [List.length_append, List.length_replicate, List.map_append, List.map_replicate] at this
    rw [Nat.mul_one]
    exact this
/-- append to a slice that is full: always in a new block; the old one may be another's. -/
theorem S_appendV {α : Type} {f : α → Value} {l L : List α} (d : Option Tmp) (k : Nat) (M : List α) {t tx e : TypeId} {D : TypeDesc} {by_ n c m : Nat} {A : Option Addr} {z : Value} {K : Fr → Hp → Prop}
    (ho : o.op = .call ⟨.builtin .append, #[x, y], #[t, tx]⟩) (ht : P.underlying t = some (.slice e)) (htx : P.underlying tx = some D) (hD : D = .string ∨ ∃ e', D = .slice e') (hz : tsz P e = some 1) (hby : tby P e = some by_) (hzz : tze P e = some z) (hzc : z.cells.size = 1)
    (hx : fr.ev x = some (.slice A n c)) (hsx : Src P E fr H 1 x n (l.map f)) (hroom : c < n + m)
    (hs : Src P E fr H 1 y m (L.map f)) (hmax : n + m ≤ 140737488355328) (hbytes : (n + m) * by_ ≤ 140737488355328) (hM : l ++ L = M)
    (h : ∀ (b' c' : Nat), M.length ≤ c' → K (fr.put E.n d (.slice (some ⟨b', 0, none⟩) M.length c')) (H.set k ⟨true, b', 0, e, M.map f, c' - M.length⟩)) (hd : o.dst = d := by rfl) : SStep P E true fr H o K := by
  subst hd hM
  intro a w R
  obtain ⟨s1, s2, s3⟩ := hs a w R
  have hold := (hsx a w.drew R.drew).2.1
  have hl := (hsx a w.drew R.drew).2.2
  rw [List.length_map, Nat.mul_one] at hl s3
  rw [R.drew.ev hx] at hold
  obtain ⟨c', hc', hr⟩ := run_append_grow (P := P) (ty := o.type) (A := A) ht htx hD hz hby hzz s1 (hs a w.drew R.drew).2.1 hold (by omega) hmax hbytes
  have hrun := exec_append ho (a := a) (P := P) (w := w) (by rw [R.ev hx]; exact hr)
  unfold Oper.wp
  rw [hrun]
  have hle : (l ++ L).length = n + m := by rw [List.length_append]; omega
  refine ⟨fun hh => (by cases hh), _, _, h w.heap.size c' (by omega), ?_⟩
  have R' := R.put o.dst (.slice (some ⟨w.heap.size, 0, none⟩) (l ++ L).length c')
  have hb : Below w.heap.size w (w.drew.alloc (.cells ((l.map f).toArray ++ (L.map f).toArray ++ Builtin.zeroCells z.cells (c' - (n + m))) e)) := (Below.refl _ _).drew.alloc (Nat.le_refl _) _
  rw [hle] at R' ⊢
  refine ⟨R'.df, R'.size, R'.fr, R.chg.trans (Chg.of_below hb), ?_⟩
  have := R.heap.new R.chg hb k ((l ++ L).map f) (Builtin.zeroCells z.cells (c' - (n + m))).toList e (0, 0) (Or.inl rfl) w.heap.size (Nat.le_refl _) (by simp) (by
    have := heap_alloc_new w.drew (.cells ((l.map f).toArray ++ (L.map f).toArray ++ Builtin.zeroCells z.cells (c' - (n + m))) e)
    rw [World.size_drew] at this
    rw [this]
    simp)
  rw [Array.length_toList, size_zeroCells', hzc, Nat.mul_one] at this
  exact this
end
end SE
end Go
