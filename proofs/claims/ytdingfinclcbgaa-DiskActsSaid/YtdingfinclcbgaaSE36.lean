/- Slices of structs: a row's cells are those of its elements, one behind the other. -/
import Derived.Test.YtdingfinclcbgaaSE35
import Derived.Test.YtdingfinclcbgaaSE27
namespace Go
namespace SE
open Go.RowKit
set_option linter.unusedVariables false
set_option linter.unusedSimpArgs false
theorem notd_t {p : Prop} [Decidable p] (h : (!decide p) = true) : ¬ p := fun h2 => by rw [decide_eq_true h2] at h; cases h
theorem notd_f {p : Prop} [Decidable p] (h : (!decide p) = false) : p := by
  by_cases h2 : p
  · exact h2
  · rw [decide_eq_false h2] at h; cases h
/-- How an element lies in cells. -/
structure Enc (α : Type) where
  f : α → List Value
  sz : Nat
  pos : 0 < sz
  len : ∀ a, (f a).length = sz
  one : ∀ a, ∀ u ∈ f a, u.oneCell' = true
def encs {α : Type} (e : Enc α) (L : List α) : List Value := L.flatMap e.f
section
variable {α : Type} {e : Enc α}
theorem encs_len (L : List α) : (encs e L).length = L.length * e.sz := by
  induction L with
  | nil => simp [encs]
  | cons a L ih =>
    unfold encs at ih ⊢
    rw [List.flatMap_cons, List.length_append, ih, e.len, List.length_cons, Nat.add_mul, Nat.one_mul, Nat.add_comm]
theorem encs_app (L M : List α) : encs e (L ++ M) = encs e L ++ encs e M := by simp [encs]
theorem encs_one (a : α) : encs e [a] = e.f a := by simp [encs]
theorem encs_nil : encs e ([] : List α) = [] := rfl
theorem encs_take (L : List α) (n : Nat) : (encs e L).take (n * e.sz) = encs e (L.take n) := by
  by_cases h : n ≤ L.length
  · have h1 : L = L.take n ++ L.drop n := (List.take_append_drop n L).symm
    have h2 : (encs e (L.take n)).length = n * e.sz := by rw [encs_len, List.length_take, Nat.min_eq_left h]
    conv => lhs; rw [h1, encs_app]
    rw [← h2, List.take_left]
  · rw [List.take_of_length_le (by rw [encs_len]; exact Nat.mul_le_mul_right _ (by omega)), List.take_of_length_le (by omega)]
theorem encs_drop (L : List α) (n : Nat) : (encs e L).drop (n * e.sz) = encs e (L.drop n) := by
  by_cases h : n ≤ L.length
  · have h1 : L = L.take n ++ L.drop n := (List.take_append_drop n L).symm
    have h2 : (encs e (L.take n)).length = n * e.sz := by rw [encs_len, List.length_take, Nat.min_eq_left h]
    conv => lhs; rw [h1, encs_app]
    rw [← h2, List.drop_left]
  · rw [List.drop_eq_nil_of_le (by rw [encs_len]; exact Nat.mul_le_mul_right _ (by omega)), List.drop_eq_nil_of_le (by omega)]
    rfl
theorem encs_part (L : List α) (d : α) {j p n : Nat} {cs : List Value} (hj : j < L.length) (hc : ((e.f (L.getD j d)).drop p).take n = cs) (hn : p + n ≤ e.sz) : ((encs e L).drop (j * e.sz + p)).take n = cs := by
  rw [← List.drop_drop, encs_drop, List.drop_eq_getElem_cons hj, show (L[j] :: L.drop (j + 1)) = [L[j]] ++ L.drop (j + 1) from rfl, encs_app, encs_one, List.drop_append_of_le_length (by rw [e.len]; omega), List.take_append_of_le_length (by rw [List.length_drop, e.len]; omega), ← hc]
  simp [List.getD_eq_getElem?_getD, hj]
theorem encs_cell (L : List α) (d : α) {j p : Nat} {v : Value} (hj : j < L.length) (hc : (e.f (L.getD j d))[p]? = some v) : (encs e L)[j * e.sz + p]? = some v := by
  have hp : p < e.sz := by
    have := (List.getElem?_eq_some_iff.1 hc).1
    rwa [e.len] at this
  obtain ⟨hlt, hv⟩ := List.getElem?_eq_some_iff.1 hc
  have h := encs_part (e := e) L d (n := 1) (p := p) (cs := [v]) hj (by rw [List.drop_eq_getElem_cons hlt, hv]; rfl) (by omega)
  have h2 := congrArg (fun z : List Value => z[0]?) h
  simpa using h2
theorem encs_ones (L : List α) : ∀ u ∈ encs e L, u.oneCell' = true := fun u hu => by
  obtain ⟨a, _, h⟩ := List.mem_flatMap.1 hu
  exact e.one a u h
theorem encs_set (L : List α) {j : Nat} (a : α) (hj : j < L.length) : splice (encs e L) (j * e.sz) (e.f a) = encs e (L.set j a) := by
  unfold splice
  rw [e.len, show j * e.sz + e.sz = (j + 1) * e.sz by rw [Nat.add_mul, Nat.one_mul], encs_take, encs_drop, List.set_eq_take_append_cons_drop, if_pos hj, encs_app, show a :: L.drop (j + 1) = [a] ++ L.drop (j + 1) from rfl, encs_app, encs_one, List.append_assoc]
end

section
variable {P : Program} {E : Env} {fr : Fr} {H : Hp} {o : Oper} {t ty : TypeId} {x y : Operand} {v : Value} {α : Type} {en : Enc α}
theorem Q_loadE1 {b m k s rest j p sz : Nat} {ow : Bool} {ty : TypeId} {D : TypeDesc} {L : List α} (d : α) (hs : en.sz = sz) (ho : o.op = .load t x) (hx : fr.ev x = some (.pointer (some ⟨b, m, none⟩))) (hD : P.underlying t = some D) (hd : aggD D = false)
    (hk : H k = some ⟨ow, b, s, ty, encs en L, rest⟩) (hm : s + (j * sz + p) = m) (hj : j < L.length) (hc : (en.f (L.getD j d))[p]? = some v) : QStep P E fr H o v := by
  subst hs
  exact Q_load ho hx hD hd hk rfl hm (encs_cell L d hj hc)
theorem Q_loadEN {b m k s rest j p n sz : Nat} {ow : Bool} {ty : TypeId} {D : TypeDesc} {L : List α} {cs : List Value} (d : α) (hs : en.sz = sz) (ho : o.op = .load t x) (hx : fr.ev x = some (.pointer (some ⟨b, m, none⟩))) (hD : P.underlying t = some D) (hd : aggD D = true) (hz : tsz P t = some n)
    (hk : H k = some ⟨ow, b, s, ty, encs en L, rest⟩) (hm : s + (j * sz + p) = m) (hj : j < L.length) (hc : ((en.f (L.getD j d)).drop p).take n = cs) (hn : cs.length = n) (hp : p + n ≤ sz) : QStep P E fr H o (.agg cs.toArray) := by
  subst hs
  exact Q_loadN ho hx hD hd hz hk rfl hm (encs_part L d hj hc hp) hn
theorem SrcE.all {L : List α} {m c b q k sz : Nat} {A : Option Addr} {r : Row} (hs : en.sz = sz) (hy : fr.ev y = some (.slice A m c)) (hA : 0 < m → A = some ⟨b, q, none⟩) (hk : 0 < m → H k = some r ∧ r.b = b ∧ r.s + 0 = q) (hl : L.length = m) (hc : r.cells = encs en L := by rfl) : Src P E fr H sz y m (encs en L) := by
  subst hs
  exact Src.row (j := 0) hy hA hk (by rw [hc, List.drop_zero, List.take_of_length_le (by rw [encs_len, hl]; exact Nat.le_refl _)]) (by rw [encs_len, hl])
theorem SrcE.part {L : List α} {m c b q k j sz : Nat} {A : Option Addr} {r : Row} (hs : en.sz = sz) (hy : fr.ev y = some (.slice A m c)) (hA : 0 < m → A = some ⟨b, q, none⟩) (hk : 0 < m → H k = some r ∧ r.b = b ∧ r.s + j * sz = q) (hl : j + m ≤ L.length) (hc : r.cells = encs en L := by rfl) : Src P E fr H sz y m (encs en ((L.drop j).take m)) := by
  subst hs
  exact Src.row (j := j * en.sz) hy hA hk (by rw [hc, encs_drop, encs_take]) (by rw [encs_len, List.length_take, List.length_drop, Nat.min_eq_left (by omega)])
theorem SrcE.tail {L : List α} {m c b q k j sz : Nat} {A : Option Addr} {r : Row} (hs : en.sz = sz) (hy : fr.ev y = some (.slice A m c)) (hA : 0 < m → A = some ⟨b, q, none⟩) (hk : 0 < m → H k = some r ∧ r.b = b ∧ r.s + j * sz = q) (hl : j + m = L.length) (hc : r.cells = encs en L := by rfl) : Src P E fr H sz y m (encs en (L.drop j)) := by
  have h := SrcE.part (P := P) (E := E) (en := en) (L := L) hs hy hA hk (Nat.le_of_eq hl) hc
  rwa [List.take_of_length_le (l := L.drop j) (by rw [List.length_drop]; omega)] at h
/-- append. -/
theorem S_appendE {l L : List α} (d : Option Tmp) (k : Nat) (M : List α) {t tx e : TypeId} {D : TypeDesc} {sz by_ b n c m rest : Nat} {A : Option Addr} {z : Value} {K : Fr → Hp → Prop} (hen : en.sz = sz)
    (ho : o.op = .call ⟨.builtin .append, #[x, y], #[t, tx]⟩) (ht : P.underlying t = some (.slice e)) (htx : P.underlying tx = some D) (hD : D = .string ∨ ∃ e', D = .slice e') (hz : tsz P e = some sz) (hby : tby P e = some by_) (hzz : tze P e = some z) (hzc : z.cells.size = sz)
    (hx : fr.ev x = some (.slice A n c)) (hk : 0 < c → A = some ⟨b, 0, none⟩ ∧ H k = some ⟨true, b, 0, e, encs en l, rest⟩) (hlen : l.length = n) (hcap : n * sz + rest = c * sz) (hnc : n ≤ c)
    (hs : Src P E fr H sz y m (encs en L)) (hmax : n + m ≤ 140737488355328) (hbytes : (n + m) * by_ ≤ 140737488355328) (hM : l ++ L = M) (hm : L.length = m)
    (h : ∀ (A' : Option Addr) (b' c' : Nat), (0 < c' → A' = some ⟨b', 0, none⟩) → M.length ≤ c' → K (fr.put E.n d (.slice A' M.length c')) (H.set k ⟨true, b', 0, e, encs en M, (c' - M.length) * sz⟩)) (hd : o.dst = d := by rfl) : SStep P E true fr H o K := by
  subst hM hlen hm hen
  refine S_append d k ho ht htx hD hz hby hzz hzc hx hk (encs_len l) hcap hnc hs (encs_ones L) en.pos hmax hbytes (fun A' b' c' g1 g2 => ?_) hd
  have := h A' b' c' g1 (by rwa [List.length_append])
  rwa [List.length_append, encs_app] at this
/-- append, in place: among the cells that are known. -/
theorem S_appendIn (d : Option Tmp) (k : Nat) {t tx e ty' : TypeId} {D : TypeDesc} {sz b n c m rest : Nat} {A : Option Addr} {cells news : List Value} {K : Fr → Hp → Prop}
    (ho : o.op = .call ⟨.builtin .append, #[x, y], #[t, tx]⟩) (ht : P.underlying t = some (.slice e)) (htx : P.underlying tx = some D) (hD : D = .string ∨ ∃ e', D = .slice e') (hz : tsz P e = some sz)
    (hx : fr.ev x = some (.slice A n c)) (hA : A = some ⟨b, 0, none⟩) (hk : H k = some ⟨true, b, 0, ty', cells, rest⟩) (hroom : n + m ≤ c) (hlen : n * sz + news.length ≤ cells.length) (hpos : cells.length + rest ≠ 0)
    (hs : Src P E fr H sz y m news) (h1 : ∀ u ∈ news, u.oneCell' = true)
    (h : K (fr.put E.n d (.slice A (n + m) c)) (H.set k ⟨true, b, 0, ty', splice cells (n * sz) news, rest⟩)) (hd : o.dst = d := by rfl) : SStep P E true fr H o K := by
  subst hd hA
  intro a w R
  obtain ⟨s1, s2, s3⟩ := hs a w R
  obtain ⟨_, e2, e3, tl, fz, e4, e5, e6⟩ := R.heap.own_ hk rfl hpos
  dsimp only at e2 e3 e4 e5 e6
  obtain ⟨w', r1, r2, r3⟩ := run_stores (P := P) b (n * sz) ty' fz news 0 (cells ++ tl) w e6 (by simp; omega) (by rcases e5 with e5 | e5; exact Or.inl e5; right; simp; omega) h1
  have hrun := exec_append ho (a := a) (P := P) (w := w) (by
    rw [R.ev hx]
    exact run_append_room (D := D) (A := some ⟨b, 0, none⟩) ht htx hD hz s1 s2 hroom (w' := w') (by
      dsimp only
      rw [add_addr, Nat.zero_add]
      exact r1))
  unfold Oper.wp
  rw [hrun]
  refine ⟨fun hh => (by cases hh), _, _, h, ?_⟩
  have R' := R.put o.dst (.slice (some ⟨b, 0, none⟩) (n + m) c)
  refine ⟨R'.df, R'.size, R'.fr, R.chg.trans_new r2 ?_, ?_⟩
  · intro q hq
    obtain rfl : q = b := by simpa using hq
    exact e3
  · refine R.heap.write (r := ⟨true, b, 0, ty', cells, rest⟩) hk rfl hpos (by dsimp only; rw [splice_length _ _ _ hlen]) r2 fun tl' fz' ht' hh' => ?_
    dsimp only at hh' ht' ⊢
    rw [e6] at hh'
    simp only [Option.some.injEq, Obj.cells.injEq] at hh'
    obtain ⟨g1, _, g3⟩ := hh'
    have g1 : cells ++ tl = cells ++ tl' := by simpa using g1
    have g1 := List.append_cancel_left g1
    subst g1 g3
    exact ⟨tl, e4, by rw [r3, Nat.add_zero, splice_append _ _ _ _ hlen]⟩
/-- clear. -/
theorem S_clear (d : Option Tmp) {k : Nat} {t e ty' : TypeId} {b p n c rest : Nat} {A : Option Addr} {z : Value} {cells zs : List Value} {K : Fr → Hp → Prop}
    (ho : o.op = .call ⟨.builtin .clear, #[x], #[t]⟩) (ht : P.underlying t = some (.slice e)) (hzz : tze P e = some z) (hx : fr.ev x = some (.slice A n c)) (hA : A = some ⟨b, p, none⟩) (hn : 0 < n)
    (hk : H k = some ⟨true, b, 0, ty', cells, rest⟩) (hz : (Builtin.zeroCells z.cells n).toList = zs) (h1 : ∀ u ∈ zs, u.oneCell' = true) (hlen : p + zs.length ≤ cells.length) (hpos : cells.length + rest ≠ 0)
    (h : K (fr.put E.n d (.tuple #[])) (H.set k ⟨true, b, 0, ty', splice cells p zs, rest⟩)) (hd : o.dst = d := by rfl) : SStep P E true fr H o K := by
  subst hd hA hz
  intro a w R
  obtain ⟨_, e2, e3, tl, fz, e4, e5, e6⟩ := R.heap.own_ hk rfl hpos
  dsimp only at e2 e3 e4 e5 e6
  obtain ⟨w', r1, r2, r3⟩ := run_stores (P := P) b p ty' fz (Builtin.zeroCells z.cells n).toList 0 (cells ++ tl) w e6 (by rw [List.length_append]; omega) (by rcases e5 with e5 | e5; exact Or.inl e5; right; rw [List.length_append]; omega) h1
  obtain ⟨n, rfl⟩ : ∃ q, n = q + 1 := ⟨n - 1, by omega⟩
  have hrun : (execOp a.eval o).run P w = .ok (.value (.tuple #[])) w' := by
    unfold execOp
    simp [ho, R.ev hx, resolve, invoke, builtin, Builtin.clear_, run_underlying ht, run_tze hzz, r1]
  unfold Oper.wp
  rw [hrun]
  refine ⟨fun hh => (by cases hh), _, _, h, ?_⟩
  have R' := R.put o.dst (.tuple #[])
  refine ⟨R'.df, R'.size, R'.fr, R.chg.trans_new r2 ?_, ?_⟩
  · intro q hq
    obtain rfl : q = b := by simpa using hq
    exact e3
  · refine R.heap.write (r := ⟨true, b, 0, ty', cells, rest⟩) hk rfl hpos (by dsimp only; rw [splice_length _ _ _ hlen]) r2 fun tl' fz' ht' hh' => ?_
    dsimp only at hh' ht' ⊢
    rw [e6] at hh'
    simp only [Option.some.injEq, Obj.cells.injEq] at hh'
    obtain ⟨g1, _, g3⟩ := hh'
    have g1 : cells ++ tl = cells ++ tl' := by simpa using g1
    have g1 := List.append_cancel_left g1
    subst g1 g3
    exact ⟨tl, e4, by rw [r3, Nat.add_zero, splice_append _ _ _ _ hlen]⟩
/-- A slice of one struct. -/
theorem S_buildSliceE (d : Option Tmp) (k : Nat) {cs : List Value} {e : TypeId} {sz : Nat} {z : Value} {K : Fr → Hp → Prop} (ho : o.op = .buildSlice t 1 #[(0, x)]) (ht : P.underlying t = some (.slice e)) (hz : tsz P e = some sz) (hzz : tze P e = some z) (hzc : z.cells.size = sz)
    (hx : fr.ev x = some (.agg cs.toArray)) (hl : cs.length = sz) (h24 : sz ≤ 2 ^ 24) (h0 : sz ≠ 0)
    (h : ∀ b, K (fr.put E.n d (.slice (some ⟨b, 0, none⟩) 1 1)) (H.set k ⟨true, b, 0, e, cs, 0⟩)) (hd : o.dst = d := by rfl) : SStep P E false fr H o K := by
  refine S_buildSlice d k ho ht hz hzz (n := 1) (vs := [(0, .agg cs.toArray)]) (cs := cs) (by omega) (by omega) (by simp [hx]) ?_ h hd
  subst hl
  refine fill_splice (off := 0) (n := cs.length) (vs := cs) (by simp) rfl rfl (by simp) ?_
  rw [splice_all _ _ (by simp)]
  rfl
end
end SE
end Go
