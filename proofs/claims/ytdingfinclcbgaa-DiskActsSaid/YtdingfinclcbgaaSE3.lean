/- Loads, stores, new blocks; regions; calls; loops. -/
import Derived.Test.YtdingfinclcbgaaSE2
import Derived.Test.YtdingfinclcbgaaRG
namespace Go
namespace SE
open Go.RowKit
set_option linter.unusedVariables false
set_option linter.unusedSimpArgs false

def aggD : TypeDesc → Bool
  | .struct _ | .array _ _ => true
  | _ => false
theorem run_isAgg {P : Program} {t : TypeId} {D : TypeDesc} (h : P.underlying t = some D) (w : World) : (isAgg t).run P w = .ok (aggD D) w := by
  unfold isAgg
  rw [Sem.run_bind, run_underlying h, Result.andThen_ok]
  cases D <;> rfl
theorem run_tsz {P : Program} {t : TypeId} {n : Nat} (h : tsz P t = some n) (w : World) : (sizeOf t).run P w = .ok n w := by
  obtain ⟨i, hi, hn⟩ := Option.map_eq_some_iff.1 h
  simp [sizeOf, typeInfo, hi, hn]
theorem run_tze {P : Program} {t : TypeId} {z : Value} (h : tze P t = some z) (w : World) : (zeroValue t).run P w = .ok z w := by
  obtain ⟨i, hi, hn⟩ := Option.bind_eq_some_iff.1 h
  simp [zeroValue, typeInfo, hi, hn]

theorem run_load_ {P : Program} {p : Addr} {v : Value} {w : World} (h : w.cell? p = some v) : (load p).run P w = .ok v w := by
  unfold load Sem.run
  rw [h]
  rfl
def splice {α : Type} (cur : List α) (p : Nat) (vs : List α) : List α := cur.take p ++ vs ++ cur.drop (p + vs.length)
theorem splice_nil {α : Type} (cur : List α) (p : Nat) : splice cur p [] = cur := by simp [splice]
theorem splice_cons {α : Type} (cur : List α) (p : Nat) (v : α) (vs : List α) (h : p < cur.length) : splice (cur.set p v) (p + 1) vs = splice cur p (v :: vs) := by
  unfold splice
  rw [List.take_set, List.drop_set]
  have h1 : (List.take (p + 1) cur).set p v = List.take p cur ++ [v] := by
    rw [List.take_succ_eq_append_getElem h, List.set_append_right _ _ (by simp; omega)]
    have : p - (List.take p cur).length = 0 := by simp; omega
    rw [this]
    rfl
  rw [h1, if_pos (by omega), show p + 1 + vs.length = p + (v :: vs).length by simp; omega]
  simp only [List.append_assoc, List.singleton_append]
theorem splice_length {α : Type} (cur : List α) (p : Nat) (vs : List α) (h : p + vs.length ≤ cur.length) : (splice cur p vs).length = cur.length := by
  simp [splice]; omega
theorem splice_all {α : Type} (cur vs : List α) (h : vs.length = cur.length) : splice cur 0 vs = vs := by
  simp [splice, h]
theorem splice_append {α : Type} (cs tl vs : List α) (p : Nat) (h : p + vs.length ≤ cs.length) : splice (cs ++ tl) p vs = splice cs p vs ++ tl := by
  unfold splice
  rw [List.take_append_of_le_length (by omega), List.drop_append_of_le_length (by omega)]
  simp

theorem run_stores {P : Program} (b o : Nat) (t : TypeId) (fz : Nat × Nat) : ∀ (vs : List Value) (i : Nat) (cur : List Value) (w : World), w.heap[b]? = some (.cells cur.toArray t fz) → o + i + vs.length ≤ cur.length → (fz = (0, 0) ∨ cur.length ≤ fz.1) → (∀ v ∈ vs, v.oneCell' = true) →
    ∃ w', (storeCells ⟨b, o, none⟩ vs i).run P w = .ok () w' ∧ Chg [b] w w' ∧ w'.heap[b]? = some (.cells (splice cur (o + i) vs).toArray t fz)
  | [], i, cur, w, hb, _, _, _ => ⟨w, rfl, Chg.refl _ _, by rw [splice_nil]; exact hb⟩
  | v :: vs, i, cur, w, hb, hl, hf, h1 => by
    have hi : o + i < cur.length := by simp at hl; omega
    have hcell : w.cell? ⟨b, o + i, none⟩ = some cur[o + i] := by rw [cell_of_row w b _ _ _ _ hb]; simp [hi]
    have hfro : w.frozen? ⟨b, o + i, none⟩ = false := by
      simp only [World.frozen?, hb]
      rcases hf with rfl | hf
      · simp
      · simp; omega
    have hst : (store ((⟨b, o, none⟩ : Addr).add i) v).run P w = .ok () (w.setCell ⟨b, o + i, none⟩ v) := by
      rw [add_addr, run_store P w _ v _ (h1 v (by simp))]
      simp [hcell, hfro]
    have hb1 : (w.setCell ⟨b, o + i, none⟩ v).heap[b]? = some (.cells (cur.set (o + i) v).toArray t fz) := by
      simp [World.setCell, Array.getElem?_modify, hb]
    have hc1 : Chg [b] w (w.setCell ⟨b, o + i, none⟩ v) := ⟨rfl, rfl, rfl, by simp [World.setCell], fun k _ hk => Below.heap_setCell _ _ _ _ (by simpa using hk)⟩
    obtain ⟨w', r1, r2, r3⟩ := run_stores (P := P) b o t fz vs (i + 1) (cur.set (o + i) v) _ hb1 (by simp at hl ⊢; omega) (by simpa using hf) (fun x hx => h1 x (by simp [hx]))
    refine ⟨w', ?_, hc1.trans r2, ?_⟩
    · simp only [storeCells, Sem.run_bind, hst, Result.andThen_ok, r1]
    · rw [r3, show o + (i + 1) = (o + i) + 1 by omega, splice_cons _ _ _ _ hi]

/-- An effect. -/
def SStep (P : Program) (E : Env) (any : Bool) (fr : Fr) (H : Hp) (o : Oper) (K : Fr → Hp → Prop) : Prop :=
  ∀ a w, Rep E fr H a w → o.wp P a w (fun a' w' => (any = false → Below w.heap.size w w') ∧ ∃ fr' H', K fr' H' ∧ Rep E fr' H' a' w') (fun _ _ _ => False)

section
variable {P : Program} {E : Env} {fr : Fr} {H : Hp} {o : Oper} {t ty : TypeId} {x y : Operand} {v : Value}

/-! ### Loads -/
theorem Q_load {b m k j : Nat} {r : Row} {D : TypeDesc} (ho : o.op = .load t x) (hx : fr.ev x = some (.pointer (some ⟨b, m, none⟩))) (hD : P.underlying t = some D) (hd : aggD D = false)
    (hk : H k = some r) (hb : r.b = b) (hm : r.s + j = m) (hj : r.cells[j]? = some v) : QStep P E fr H o v := by
  intro a w R
  subst hb hm
  have hc := R.heap.cell R.chg hk hj
  unfold execOp
  simp [ho, R.ev hx, Instr.loadAt, Instr.sureAddr, loadVar, run_isAgg hD, hd, load, Sem.run, hc]
/-- A row of one's own. -/
theorem Q_loadO {b m k rest : Nat} {ow : Bool} {ty : TypeId} {cs : List Value} {D : TypeDesc} (ho : o.op = .load t x) (hx : fr.ev x = some (.pointer (some ⟨b, m, none⟩))) (hD : P.underlying t = some D) (hd : aggD D = false)
    (hk : H k = some ⟨ow, b, 0, ty, cs, rest⟩) (hj : cs[m]? = some v) : QStep P E fr H o v := Q_load ho hx hD hd hk rfl (Nat.zero_add m) hj
/-- .. whose cells are one kind's. -/
theorem Q_loadM {α : Type} {f : α → Value} {l : List α} {b m k rest : Nat} {ow : Bool} {ty : TypeId} {D : TypeDesc} (d : α) (ho : o.op = .load t x) (hx : fr.ev x = some (.pointer (some ⟨b, m, none⟩))) (hD : P.underlying t = some D) (hd : aggD D = false)
    (hk : H k = some ⟨ow, b, 0, ty, l.map f, rest⟩) (hj : m < l.length) : QStep P E fr H o (f (l.getD m d)) :=
  Q_loadO ho hx hD hd hk (by simp [hj])
theorem Q_loadR {α : Type} {f : α → Value} {l : List α} {b m k s rest j : Nat} {ow : Bool} {ty : TypeId} {D : TypeDesc} (d : α) (ho : o.op = .load t x) (hx : fr.ev x = some (.pointer (some ⟨b, m, none⟩))) (hD : P.underlying t = some D) (hd : aggD D = false)
    (hk : H k = some ⟨ow, b, s, ty, l.map f, rest⟩) (hm : s + j = m) (hj : j < l.length) : QStep P E fr H o (f (l.getD j d)) :=
  Q_load ho hx hD hd hk rfl hm (by simp [hj])
theorem Q_loadN {b m k j n : Nat} {r : Row} {D : TypeDesc} {cs : List Value} (ho : o.op = .load t x) (hx : fr.ev x = some (.pointer (some ⟨b, m, none⟩))) (hD : P.underlying t = some D) (hd : aggD D = true) (hz : tsz P t = some n)
    (hk : H k = some r) (hb : r.b = b) (hm : r.s + j = m) (hc : (r.cells.drop j).take n = cs) (hn : cs.length = n) : QStep P E fr H o (.agg cs.toArray) := by
  intro a w R
  subst hb hm hn
  have h1 := run_loadCells_list (P := P) (w := w) ⟨r.b, r.s + j, none⟩ cs (fun i v hi => by
    rw [add_addr, Nat.add_assoc]
    refine R.heap.cell R.chg hk ?_
    rw [← hc] at hi
    rw [← List.getElem?_drop]
    rw [List.getElem?_take] at hi
    split at hi
    · exact hi
    · cases hi)
  unfold execOp
  simp [ho, R.ev hx, Instr.loadAt, Instr.sureAddr, loadVar, run_isAgg hD, hd, run_tsz hz, h1]
theorem Q_loadA {b k rest n : Nat} {ow : Bool} {ty : TypeId} {D : TypeDesc} {cs : List Value} (ho : o.op = .load t x) (hx : fr.ev x = some (.pointer (some ⟨b, 0, none⟩))) (hD : P.underlying t = some D) (hd : aggD D = true) (hz : tsz P t = some n) (hn : cs.length = n)
    (hk : H k = some ⟨ow, b, 0, ty, cs, rest⟩) : QStep P E fr H o (.agg cs.toArray) :=
  Q_loadN (j := 0) ho hx hD hd hz hk rfl rfl (by subst hn; simp) hn

/-! ### Stores -/
theorem S_storeN (d : Option Tmp) {b m k rest : Nat} {ty : TypeId} {cs vs : List Value} {K : Fr → Hp → Prop} (ho : o.op = .store t x y) (hx : fr.ev x = some (.pointer (some ⟨b, m, none⟩))) (hy : fr.ev y = some v) (hz : tsz P t = some vs.length) (hv : v.cells = vs.toArray) (h1 : ∀ u ∈ vs, u.oneCell' = true) (hpos : vs ≠ [])
    (hk : H k = some ⟨true, b, 0, ty, cs, rest⟩) (hm : m + vs.length ≤ cs.length) (h : K (fr.put E.n d undef) (H.set k ⟨true, b, 0, ty, splice cs m vs, rest⟩)) (hd : o.dst = d := by rfl) : SStep P E true fr H o K := by
  subst hd
  intro a w R
  have hvp : 0 < vs.length := List.length_pos_iff.2 hpos
  have hz0 : cs.length + rest ≠ 0 := by omega
  obtain ⟨_, e2, _, tl, fz, e4, e5, e6⟩ := R.heap.own_ hk rfl hz0
  dsimp only at e2 e4 e5 e6
  obtain ⟨w', r1, r2, r3⟩ := run_stores (P := P) b m ty fz vs 0 (cs ++ tl) w e6 (by simp; omega) (by rcases e5 with e5 | e5; exact Or.inl e5; right; simp; omega) h1
  have hsz : v.cells.size = vs.length := by rw [hv]; simp
  unfold Oper.wp execOp
  simp [ho, R.ev hx, R.ev hy, Instr.storeAt, Instr.sureAddr, storeVar, run_tsz hz, hsz, hv, r1, Oper.upon]
  refine ⟨_, _, h, ?_⟩
  have R' := R.put o.dst undef
  refine ⟨R'.df, R'.size, R'.fr, R.chg.trans_new r2 ?_, ?_⟩
  · intro q hq
    obtain rfl : q = b := by simpa using hq
    exact (R.heap.own_ hk rfl hz0).2.2.1
  · refine R.heap.write (r := ⟨true, b, 0, ty, cs, rest⟩) hk rfl hz0 (by rw [splice_length _ _ _ hm]) r2 fun tl' fz' ht' hh' => ?_
    dsimp only at hh' ht' ⊢
    rw [e6] at hh'
    simp only [Option.some.injEq, Obj.cells.injEq] at hh'
    obtain ⟨g1, _, g3⟩ := hh'
    have g1 : cs ++ tl = cs ++ tl' := by simpa using g1
    have g1 := List.append_cancel_left g1
    subst g1 g3
    refine ⟨tl, ht', ?_⟩
    rw [r3, Nat.add_zero, splice_append _ _ _ _ hm]
theorem splice_one {α : Type} (cs : List α) (m : Nat) (v : α) (h : m < cs.length) : splice cs m [v] = cs.set m v := by
  rw [← splice_cons _ _ _ _ h, splice_nil]
theorem S_store (d : Option Tmp) {b m k rest : Nat} {ty : TypeId} {cs : List Value} {K : Fr → Hp → Prop} (ho : o.op = .store t x y) (hx : fr.ev x = some (.pointer (some ⟨b, m, none⟩))) (hy : fr.ev y = some v) (hz : tsz P t = some 1) (hv : v.cells = #[v]) (h1 : v.oneCell' = true)
    (hk : H k = some ⟨true, b, 0, ty, cs, rest⟩) (hm : m < cs.length) (h : K (fr.put E.n d undef) (H.set k ⟨true, b, 0, ty, cs.set m v, rest⟩)) (hd : o.dst = d := by rfl) : SStep P E true fr H o K :=
  S_storeN d (vs := [v]) ho hx hy hz hv (by simpa using h1) (by simp) hk (by simp; omega) (by rw [splice_one _ _ _ hm]; exact h) hd
theorem S_storeM (d : Option Tmp) {α : Type} {f : α → Value} {l : List α} {u : α} {b m k rest : Nat} {ty : TypeId} {K : Fr → Hp → Prop} (ho : o.op = .store t x y) (hx : fr.ev x = some (.pointer (some ⟨b, m, none⟩))) (hy : fr.ev y = some (f u)) (hz : tsz P t = some 1) (hv : (f u).cells = #[f u]) (h1 : (f u).oneCell' = true)
    (hk : H k = some ⟨true, b, 0, ty, l.map f, rest⟩) (hm : m < l.length) (h : K (fr.put E.n d undef) (H.set k ⟨true, b, 0, ty, (l.set m u).map f, rest⟩)) (hd : o.dst = d := by rfl) : SStep P E true fr H o K :=
  S_store d ho hx hy hz hv h1 hk (by simpa using hm) (by rw [← List.map_set]; exact h) hd
theorem S_storeA (d : Option Tmp) {b k rest : Nat} {ty : TypeId} {cs vs : List Value} {K : Fr → Hp → Prop} (ho : o.op = .store t x y) (hx : fr.ev x = some (.pointer (some ⟨b, 0, none⟩))) (hy : fr.ev y = some v) (hz : tsz P t = some vs.length) (hv : v.cells = vs.toArray) (h1 : ∀ u ∈ vs, u.oneCell' = true) (hpos : vs ≠ [])
    (hk : H k = some ⟨true, b, 0, ty, cs, rest⟩) (hm : vs.length = cs.length) (h : K (fr.put E.n d undef) (H.set k ⟨true, b, 0, ty, vs, rest⟩)) (hd : o.dst = d := by rfl) : SStep P E true fr H o K :=
  S_storeN d ho hx hy hz hv h1 hpos hk (by omega) (by rw [splice_all _ _ hm]; exact h) hd

/-! ### New variables -/
theorem S_alloc (d : Option Tmp) (k : Nat) {e : TypeId} {z : Value} {zs : List Value} {K : Fr → Hp → Prop} (ho : o.op = .alloc e) (hz : tze P e = some z) (hc : z.cells.toList = zs)
    (h : ∀ b, K (fr.put E.n d (.pointer (some ⟨b, 0, none⟩))) (H.set k ⟨true, b, 0, e, zs, 0⟩)) (hd : o.dst = d := by rfl) : SStep P E false fr H o K := by
  subst hd
  intro a w R
  subst hc
  unfold Oper.wp execOp
  simp [ho, Instr.alloc, run_tze hz, newVar, newRow, newObj, Oper.upon]
  have hb : Below w.heap.size w (w.alloc (.cells z.cells e)) := (Below.refl _ _).alloc (Nat.le_refl _) _
  refine ⟨hb, _, _, h w.heap.size, ?_⟩
  have R' := R.put o.dst (.pointer (some ⟨w.heap.size, 0, none⟩))
  exact ⟨R'.df, R'.size, R'.fr, R.chg.trans (Chg.of_below hb), R.heap.alloc R.chg k _ _⟩
theorem S_box (d : Option Tmp) (k : Nat) {e : TypeId} {zs : List Value} {K : Fr → Hp → Prop} (ho : o.op = .box e x) (hx : fr.ev x = some v) (hc : v.cells.toList = zs)
    (h : ∀ b, K (fr.put E.n d (.pointer (some ⟨b, 0, none⟩))) (H.set k ⟨true, b, 0, e, zs, 0⟩)) (hd : o.dst = d := by rfl) : SStep P E false fr H o K := by
  subst hd
  intro a w R
  subst hc
  unfold Oper.wp execOp
  simp [ho, R.ev hx, Instr.box, newVar, newRow, newObj, Oper.upon]
  have hb : Below w.heap.size w (w.alloc (.cells v.cells e)) := (Below.refl _ _).alloc (Nat.le_refl _) _
  refine ⟨hb, _, _, h w.heap.size, ?_⟩
  have R' := R.put o.dst (.pointer (some ⟨w.heap.size, 0, none⟩))
  exact ⟨R'.df, R'.size, R'.fr, R.chg.trans (Chg.of_below hb), R.heap.alloc R.chg k _ _⟩

/-! ### The walk over a region -/
variable {ops : Array Oper} {Q : Exit → Act → World → Prop} {rest : List Oper}
theorem At.q (d : Option Tmp) (h : QStep P E fr H o v) (h' : At E (fr.put E.n d v) H (wpList P ops Q rest)) (hg : o.guard = none := by rfl) (hd : o.dst = d := by rfl) : At E fr H (wpList P ops Q (o :: rest)) := by
  intro a w R
  refine wpList_plain hg fun K hK => ?_
  unfold Oper.wp
  rw [h a w R]
  subst hd
  exact hK _ _ (h' _ _ (R.put o.dst v))
theorem At.p (d : Option Tmp) (h : PStep P fr o v) (h' : At E (fr.put E.n d v) H (wpList P ops Q rest)) (hg : o.guard = none := by rfl) (hd : o.dst = d := by rfl) : At E fr H (wpList P ops Q (o :: rest)) := At.q d h.q h' hg hd
theorem At.s {any : Bool} (h : SStep P E any fr H o (fun fr' H' => At E fr' H' (wpList P ops Q rest))) (hg : o.guard = none := by rfl) : At E fr H (wpList P ops Q (o :: rest)) := by
  intro a w R
  refine wpList_plain hg fun K hK => ?_
  exact RG.wp_monoQ (fun a' w' ⟨_, fr', H', h1, h2⟩ => hK _ _ (h1 _ _ h2)) (fun _ _ _ h => h.elim) (fun ⟨_, _, h⟩ => h.elim) (h a w R)
theorem At.nil (h : At E fr H (Q .normal)) : At E fr H (wpList P ops Q []) := h
theorem wanted_of {j : Nat} {want : Bool} (hg : o.guard = some (j, want)) {t : Tmp} (hj : (ops[j]?).bind (·.dst) = some t) {bb : Bool} (hb : fr t = some (.bool bb)) {a : Act} {w : World} (R : Rep E fr H a w) :
    Region.wanted o (yielded ops a.tmps) = (bb == want) := by
  have h1 := R.fr t _ hb
  simp only [Region.wanted, hg, yielded, hj, Option.bind_some, h1]
  cases bb <;> cases want <;> rfl
/-- A guarded operation that comes. -/
theorem At.gy {j : Nat} {want bb : Bool} {t : Tmp} (hb : fr t = some (.bool bb)) (hw : bb = want) (hg : o.guard = some (j, want)) (hj : (ops[j]?).bind (·.dst) = some t)
    (h : At E fr H (wpList P ops Q ({ o with guard := none } :: rest))) : At E fr H (wpList P ops Q (o :: rest)) := by
  intro a w R
  have h1 := wanted_of (E := E) (H := H) hg hj hb R
  have h2 := h a w R
  subst hw
  unfold wpList at h2 ⊢
  rw [h1]
  simp only [Region.wanted, if_true, beq_self_eq_true] at h2 ⊢
  exact h2
/-- .. that doesn't. -/
theorem At.gn (d : Option Tmp) {j : Nat} {want bb : Bool} {t : Tmp} (hb : fr t = some (.bool bb)) (hw : bb = !want) (hg : o.guard = some (j, want)) (hj : (ops[j]?).bind (·.dst) = some t)
    (h : At E (fr.put E.n d undef) H (wpList P ops Q rest)) (hd : o.dst = d := by rfl) : At E fr H (wpList P ops Q (o :: rest)) := by
  intro a w R
  subst hd
  have h1 := wanted_of (E := E) (H := H) hg hj hb R
  have h2 := h _ w (R.put o.dst undef)
  subst hw
  unfold wpList
  rw [h1]
  cases want <;> simpa using h2

/-! ### Code -/
theorem At.region {id : Nat} {l : List Oper} (h : At E fr H (wpList P l.toArray Q l)) : At E fr H ((Code.region id l.toArray false).wp P Q) := fun a w R => wp_region_lit (h a w R)
theorem At.seq {c d : Code} (h : At E fr H (c.wp P (Exit.then (d.wp P Q) Q))) : At E fr H ((Code.seq c d).wp P Q) := fun a w R => wp_seq (h a w R)
theorem At.next {K : Act → World → Prop} (h : At E fr H K) : At E fr H (Exit.then K Q .normal) := h
theorem At.block {id : Nat} {c : Code} (h : At E fr H (c.wp P (Exit.inBlock id Q))) : At E fr H ((Code.block id c).wp P Q) := fun a w R => wp_block (h a w R)
theorem At.exit {id : Nat} (h : At E fr H (Q (.exit id))) : At E fr H ((Code.exit id).wp P Q) := fun a w R => wp_exit (h a w R)
theorem At.skip (h : At E fr H (Q .normal)) : At E fr H (Code.skip.wp P Q) := fun a w R => wp_skip (h a w R)
theorem At.ret (h : At E fr H (Q .ret)) : At E fr H (Code.ret.wp P Q) := fun a w R => wp_ret (h a w R)
theorem At.cond {c : Operand} {p q : Code} {bb : Bool} (hc : fr.ev c = some (.bool bb)) (h1 : bb = true → At E fr H (p.wp P Q)) (h2 : bb = false → At E fr H (q.wp P Q)) : At E fr H ((Code.cond c p q).wp P Q) := by
  intro a w R
  refine wp_cond (t := bb) (R.ev hc) ?_
  cases bb
  · exact h2 rfl a w R
  · exact h1 rfl a w R
theorem rounds_mono {c : Code} : ∀ (n : Nat) (a : Act) (w : World), Code.rounds P c Q n a w → Code.rounds P c Q (n + 1) a w
  | 0, _, _, h => h.elim
  | n + 1, a, w, h => by
    rw [rounds_succ] at h ⊢
    refine wp_mono h fun e a w q => ?_
    cases e with
    | normal => exact rounds_mono n a w q
    | exit id => exact q
    | goto l => exact q
    | ret => exact q
    | panic c => exact q
    | outgrown => exact q
theorem rounds_le {c : Code} {a : Act} {w : World} {m n : Nat} (h : m ≤ n) (h1 : Code.rounds P c Q m a w) : Code.rounds P c Q n a w := by
  induction h with
  | refl => exact h1
  | step _ ih => exact rounds_mono _ _ _ ih
/-- A loop: I m: at most m rounds more. -/
theorem At.loop {c : Code} (I : Nat → Fr → Hp → Prop) (m : Nat) (h0 : I m fr H)
    (h : ∀ m fr H, I m fr H → ∀ K : Act → World → Prop, (∀ m' fr' H', m' < m → I m' fr' H' → At E fr' H' K) → At E fr H (c.wp P (Exit.then K Q))) : At E fr H ((Code.loop c).wp P Q) := by
  have key : ∀ n m fr H, I m fr H → m < n → At E fr H (Code.rounds P c Q n) := by
    intro n
    induction n with
    | zero => intro m fr H _ hm; omega
    | succ n ih =>
      intro m fr H hI hm a w R
      rw [rounds_succ]
      exact h m fr H hI _ (fun m' fr' H' hm' hI' => ih m' fr' H' hI' (by omega)) a w R
  exact fun a w R => wp_loop_rounds (m + 1) (key (m + 1) m fr H h0 (by omega) a w R)

/-! ### A region that draws its order -/
/-- The walk in its one order. -/
abbrev WX (P : Program) (l : List Oper) (Q : Exit → Act → World → Prop) (n : Nat) (segs : List RG.Seg) : Act → World → Prop :=
  RG.W P l Q RG.Ext RG.ClX (fun a' w' => ∀ w2, RG.Ext w' w2 → wpList P l.toArray Q (l.drop n) a' w2) segs
theorem At.draws {id : Nat} {l : List Oper} (n : Nat) (anyL : List Nat) (segs : List RG.Seg) (hm : P.follows .mixedOrders = true) (hB : RG.okB l.toArray n anyL segs = true)
    (h : At E fr H (WX P l Q n segs)) : At E fr H ((Code.region id l.toArray true).wp P Q) :=
  fun a w R => RG.regionX n anyL segs hm hB (h a _ R.drew)
variable {l : List Oper} {n : Nat} {segs : List RG.Seg} {s any : Bool} {is : List Nat} {i : Nat}
theorem W_cons {Cl R : World → World → Prop} {F : Act → World → Prop} {a : Act} {w : World} {A : Act} (h : ∀ w', (s = true ∨ RG.Ext w w') → ∀ Y : Act → Prop, Y A → wpQuiet P l.toArray (Cl w') Y (RG.pick l [i]) a) (h' : RG.W P l Q R Cl F (.q s is :: segs) A w) :
    RG.W P l Q R Cl F (.q s (i :: is) :: segs) a w := by
  obtain ⟨B, h1, h2⟩ := h'
  refine ⟨B, fun w' hw' => ?_, h2⟩
  have h3 := h w' hw' _ (h1 w' hw')
  unfold RG.pick at h3 ⊢
  simp only [List.map_cons, List.map_nil] at h3 ⊢
  unfold wpQuiet at h3 ⊢
  split
  · rename_i hw
    rw [if_pos hw] at h3
    obtain ⟨v, y1, y2⟩ := h3
    exact ⟨v, y1, y2⟩
  · rename_i hw
    rw [if_neg hw] at h3
    exact h3
theorem W_qnil {Cl R : World → World → Prop} {F : Act → World → Prop} {a : Act} {w : World} (h : RG.W P l Q R Cl F segs a w) : RG.W P l Q R Cl F (.q s [] :: segs) a w := ⟨a, fun _ _ => rfl, h⟩
theorem At.wqn (h : At E fr H (WX P l Q n segs)) : At E fr H (WX P l Q n (.q s [] :: segs)) := fun a w R => W_qnil (h a w R)
theorem At.wq (d : Option Tmp) (h : QStep P E fr H (l.getD i default) v) (h' : At E (fr.put E.n d v) H (WX P l Q n (.q false is :: segs))) (hg : (l.getD i default).guard = none := by rfl) (hd : (l.getD i default).dst = d := by rfl) : At E fr H (WX P l Q n (.q false (i :: is) :: segs)) := by
  intro a w R
  subst hd
  refine W_cons (fun w' hw' Y hY => ?_) (h' _ w (R.put _ v))
  have hw' : RG.Ext w w' := by simpa using hw'
  show wpQuiet P l.toArray (RG.ClX w') Y [l.getD i default] a
  unfold wpQuiet
  rw [if_pos (by unfold Region.wanted; rw [hg])]
  refine ⟨v, fun w2 hw2 => ?_, hY⟩
  unfold Oper.quietAt
  rw [h a w2 (R.below (RG.Ext.trans hw' hw2.ext))]
  exact ⟨rfl, rfl⟩
theorem At.wp (d : Option Tmp) {b : Bool} (h : PStep P fr (l.getD i default) v) (h' : At E (fr.put E.n d v) H (WX P l Q n (.q b is :: segs))) (hg : (l.getD i default).guard = none := by rfl) (hd : (l.getD i default).dst = d := by rfl) : At E fr H (WX P l Q n (.q b (i :: is) :: segs)) := by
  intro a w R
  subst hd
  refine W_cons (fun w' hw' Y hY => ?_) (h' _ w (R.put _ v))
  show wpQuiet P l.toArray (RG.ClX w') Y [l.getD i default] a
  unfold wpQuiet
  rw [if_pos (by unfold Region.wanted; rw [hg])]
  refine ⟨v, fun w2 hw2 => ?_, hY⟩
  unfold Oper.quietAt
  rw [h a R.fr w2]
  exact ⟨rfl, rfl⟩
theorem At.wgy (d : Option Tmp) {b : Bool} {j : Nat} {want bb : Bool} {t : Tmp} (hb : fr t = some (.bool bb)) (hw : bb = want) (hg : (l.getD i default).guard = some (j, want)) (hj : (l.toArray[j]?).bind (·.dst) = some t)
    (h : PStep P fr (l.getD i default) v) (h' : At E (fr.put E.n d v) H (WX P l Q n (.q b is :: segs))) (hd : (l.getD i default).dst = d := by rfl) : At E fr H (WX P l Q n (.q b (i :: is) :: segs)) := by
  intro a w R
  subst hd
  refine W_cons (fun w' hw' Y hY => ?_) (h' _ w (R.put _ v))
  show wpQuiet P l.toArray (RG.ClX w') Y [l.getD i default] a
  unfold wpQuiet
  rw [if_pos (by rw [wanted_of (E := E) (H := H) hg hj hb R, hw]; simp)]
  refine ⟨v, fun w2 hw2 => ?_, hY⟩
  unfold Oper.quietAt
  rw [h a R.fr w2]
  exact ⟨rfl, rfl⟩
theorem At.wgyq (d : Option Tmp) {j : Nat} {want bb : Bool} {t : Tmp} (hb : fr t = some (.bool bb)) (hw : bb = want) (hg : (l.getD i default).guard = some (j, want)) (hj : (l.toArray[j]?).bind (·.dst) = some t)
    (h : QStep P E fr H (l.getD i default) v) (h' : At E (fr.put E.n d v) H (WX P l Q n (.q false is :: segs))) (hd : (l.getD i default).dst = d := by rfl) : At E fr H (WX P l Q n (.q false (i :: is) :: segs)) := by
  intro a w R
  subst hd
  refine W_cons (fun w' hw' Y hY => ?_) (h' _ w (R.put _ v))
  have hw' : RG.Ext w w' := by simpa using hw'
  show wpQuiet P l.toArray (RG.ClX w') Y [l.getD i default] a
  unfold wpQuiet
  rw [if_pos (by rw [wanted_of (E := E) (H := H) hg hj hb R, hw]; simp)]
  refine ⟨v, fun w2 hw2 => ?_, hY⟩
  unfold Oper.quietAt
  rw [h a w2 (R.below (RG.Ext.trans hw' hw2.ext))]
  exact ⟨rfl, rfl⟩
theorem At.wgn (d : Option Tmp) {b : Bool} {j : Nat} {want bb : Bool} {t : Tmp} (hb : fr t = some (.bool bb)) (hw : bb = !want) (hg : (l.getD i default).guard = some (j, want)) (hj : (l.toArray[j]?).bind (·.dst) = some t)
    (h' : At E (fr.put E.n d undef) H (WX P l Q n (.q b is :: segs))) (hd : (l.getD i default).dst = d := by rfl) : At E fr H (WX P l Q n (.q b (i :: is) :: segs)) := by
  intro a w R
  subst hd
  refine W_cons (fun w' hw' Y hY => ?_) (h' _ w (R.put _ undef))
  show wpQuiet P l.toArray (RG.ClX w') Y [l.getD i default] a
  unfold wpQuiet
  rw [if_neg (by rw [wanted_of (E := E) (H := H) hg hj hb R, hw]; cases want <;> simp)]
  exact hY
/-- The operation that acts. -/
theorem At.we {j : Nat} (h : SStep P E any fr H (l.getD j default) (fun fr' H' => At E fr' H' (WX P l Q n segs))) (hg : (l.getD j default).guard = none := by rfl) : At E fr H (WX P l Q n (.e any j :: segs)) := by
  intro a w R
  refine RG.W_f fun w' hw' K hKo hK => ?_
  show wpList P l.toArray K [l.getD j default] a w'
  refine wpList_plain hg fun K' hK' => ?_
  refine RG.wp_monoQ (fun a' w'' ⟨h1, fr', H', h2, h3⟩ => hK' _ _ (hK _ _ ⟨h1, h2 _ _ h3⟩)) (fun _ _ _ h => h.elim) (fun ⟨_, _, h⟩ => h.elim) (h a w' (R.below hw'))
/-- The tail. -/
theorem At.wt {rest : List Oper} (hr : l.drop n = rest) (h : At E fr H (wpList P l.toArray Q rest)) : At E fr H (WX P l Q n []) := by
  intro a w R
  subst hr
  exact fun w2 hw2 => h a w2 (R.below hw2)

/-! ### Calls -/
def entersB (P : Program) (f : FuncId) : Bool := match P.funcs[f]? with
  | some fn => fn.name != "runtime.NumGoroutine" && fn.body.isSome
  | none => false
theorem run_enters {f : FuncId} (h : entersB P f = true) (args : Array Value) (w : World) : (callFunc f args).run P w = .ok (.enter f args) w := by
  unfold entersB at h
  split at h
  · rename_i fn hf
    simp only [Bool.and_eq_true, bne_iff_ne, ne_eq] at h
    unfold callFunc
    have h3 : fn.body.isNone = false := by cases hb : fn.body with
      | none => rw [hb] at h; simp at h
      | some c => rfl
    simp [program, hf, h.1, Sem.run]
    intro hn
    rw [hn] at h3
    cases h3
  · cases h
def ArgsOk (fr : Fr) (xs : List Operand) (vs : List Value) : Prop := xs.map fr.ev = vs.map some
theorem ArgsOk.eval {a : Act} (hf : FrOk fr a) : ∀ {xs : List Operand} {vs : List Value}, ArgsOk fr xs vs → xs.map a.eval = vs
  | [], [], _ => rfl
  | [], v :: vs, h => by simp [ArgsOk] at h
  | x :: xs, [], h => by simp [ArgsOk] at h
  | x :: xs, v :: vs, h => by
    simp only [ArgsOk, List.map_cons, List.cons.injEq] at h
    rw [List.map_cons, hf.ev h.1, ArgsOk.eval hf (xs := xs) (vs := vs) h.2]
theorem run_call {f : FuncId} {xs : List Operand} {tys : Array TypeId} {vs : List Value} (ho : o.op = .call ⟨.value (.func f), xs.toArray, tys⟩) (he : entersB P f = true) (ha : ArgsOk fr xs vs) {a : Act} (hf : FrOk fr a) (w : World) :
    (execOp a.eval o).run P w = .ok (.enter f vs.toArray) w := by
  unfold execOp
  have h1 := ha.eval hf
  simp [ho, resolve, Act.eval, Deferred.ofValue, invoke, h1, run_enters he]
/-- A call whose callee's contract tells what becomes of the rows. -/
theorem S_call (d : Option Tmp) {f : FuncId} {xs : List Operand} {tys : Array TypeId} {vs : List Value} {K : Fr → Hp → Prop} (ho : o.op = .call ⟨.value (.func f), xs.toArray, tys⟩) (he : entersB P f = true) (ha : ArgsOk fr xs vs)
    (h : ∀ w, Chg E.S E.W0 w → HR E H w → Calls P f vs.toArray w fun e w' => ∃ v H', e = .returned v ∧ (any = false → Below w.heap.size w w') ∧ Chg E.S E.W0 w' ∧ HR E H' w' ∧ K (fr.put E.n d v) H') (hd : o.dst = d := by rfl) : SStep P E any fr H o K := by
  subst hd
  intro a w R
  unfold Oper.wp
  rw [run_call ho he ha R.fr w]
  refine (h w R.chg R.heap).mono fun e w' ⟨v, H', he, h1, h2, h3, h4⟩ => ?_
  subst he
  have R' := R.put o.dst v
  exact ⟨h1, _, _, h4, R'.df, R'.size, R'.fr, h2, h3⟩
/-- .. that leaves nothing but its answer. -/
theorem S_callP (d : Option Tmp) {f : FuncId} {xs : List Operand} {tys : Array TypeId} {vs : List Value} {K : Fr → Hp → Prop} (ho : o.op = .call ⟨.value (.func f), xs.toArray, tys⟩) (he : entersB P f = true) (ha : ArgsOk fr xs vs)
    (h : ∀ w, Chg E.S E.W0 w → HR E H w → Calls P f vs.toArray w fun e w' => e = .returned v ∧ Below w.heap.size w w') (hK : K (fr.put E.n d v) H) (hd : o.dst = d := by rfl) : SStep P E false fr H o K :=
  S_call d ho he ha (fun w hw hH => (h w hw hH).mono fun e w' ⟨h1, h2⟩ => ⟨v, H, h1, fun _ => h2, hw.trans (Chg.of_below h2), hH.below h2, hK⟩) hd
/-- A quiet call, in a region that draws. -/
theorem At.wc (d : Option Tmp) {f : FuncId} {xs : List Operand} {tys : Array TypeId} {vs : List Value} (ho : (l.getD i default).op = .call ⟨.value (.func f), xs.toArray, tys⟩) (he : entersB P f = true) (ha : ArgsOk fr xs vs)
    (h : ∀ w, Chg E.S E.W0 w → HR E H w → Calls P f vs.toArray w fun e w' => e = .returned v ∧ Below w.heap.size w w')
    (h' : At E (fr.put E.n d v) H (WX P l Q n (.q false is :: segs))) (hg : (l.getD i default).guard = none := by rfl) (hd : (l.getD i default).dst = d := by rfl) : At E fr H (WX P l Q n (.q false (i :: is) :: segs)) := by
  intro a w R
  subst hd
  refine W_cons (fun w' hw' Y hY => ?_) (h' _ w (R.put _ v))
  have hw' : RG.Ext w w' := by simpa using hw'
  show wpQuiet P l.toArray (RG.ClX w') Y [l.getD i default] a
  unfold wpQuiet
  rw [if_pos (by unfold Region.wanted; rw [hg])]
  refine ⟨v, fun w2 hw2 => ?_, hY⟩
  unfold Oper.quietAt
  have R2 := R.below (RG.Ext.trans hw' hw2.ext)
  rw [run_call ho he ha R.fr w2]
  exact ⟨rfl, (h w2 R2.chg R2.heap).mono fun e w3 ⟨h1, h2⟩ => ⟨h1, RG.ClX.mk (RG.Ext.trans hw2.ext h2)⟩⟩
/-! ### The end -/
def ResOk (fr : Fr) : List ResultVar → List Value → Prop
  | [], [] => True
  | .tmp t :: rs, v :: vs => fr t = some v ∧ ResOk fr rs vs
  | _, _ => False
theorem ResOk.eq {a : Act} (hf : FrOk fr a) : ∀ {rs : List ResultVar} {vs : List Value}, ResOk fr rs vs → ∃ ts : List Tmp, rs = ts.map .tmp ∧ ts.map (fun t => a.tmps.getD t undef) = vs
  | [], [], _ => ⟨[], rfl, rfl⟩
  | .tmp t :: rs, v :: vs, h => by
    obtain ⟨ts, h1, h2⟩ := ResOk.eq hf h.2
    refine ⟨t :: ts, by rw [h1]; rfl, ?_⟩
    have h3 := hf t v h.1
    rw [List.map_cons, h2]
    simp [h3]
  | [], _ :: _, h => h.elim
  | .tmp _ :: _, [], h => h.elim
  | .cell _ _ :: _, [], h => h.elim
  | .cell _ _ :: _, _ :: _, h => h.elim
def retV : List Value → Value
  | [v] => v
  | vs => .tuple vs.toArray
theorem run_results {fn : Func} {tmps : Array Value} {ts : List Tmp} (h : fn.results = (ts.map ResultVar.tmp).toArray) (hl : ts.length ≤ 4) (w : World) :
    (results fn tmps).run P w = .ok (retV (ts.map fun t => tmps.getD t undef)) w := by
  match ts, h, hl with
  | [], h, _ => simp [results, h, retV]
  | [a], h, _ => simp [results, h, retV]
  | [a, b], h, _ => simp [results, h, retV]
  | [a, b, c], h, _ => simp [results, h, retV]
  | [a, b, c, d], h, _ => simp [results, h, retV]
  | a :: b :: c :: d :: e :: r, _, hl => simp at hl
theorem At.done {fn : Func} {rs : List ResultVar} {vs : List Value} {R : Ending → World → Prop} (hE : E.df = []) (hr : fn.results = rs.toArray) (hv : ResOk fr rs vs) (h : ∀ w, Chg E.S E.W0 w → HR E H w → R (.returned (retV vs)) w) (hl : rs.length ≤ 4 := by decide) : At E fr H (bodyPost P fn R .ret) := by
  intro a w Rp
  obtain ⟨ts, h1, h2⟩ := ResOk.eq Rp.fr hv
  subst h1 h2
  exact ⟨Rp.df.trans hE, _, run_results hr (Nat.le_trans (Nat.le_of_eq (List.length_map ResultVar.tmp).symm) hl) w, h w Rp.chg Rp.heap⟩
theorem At.fall {fn : Func} {rs : List ResultVar} {vs : List Value} {R : Ending → World → Prop} (hE : E.df = []) (hr : fn.results = rs.toArray) (hv : ResOk fr rs vs) (h : ∀ w, Chg E.S E.W0 w → HR E H w → R (.returned (retV vs)) w) (hl : rs.length ≤ 4 := by decide) : At E fr H (bodyPost P fn R .normal) := At.done (P := P) hE hr hv h hl
def frA (args : List Value) : Fr := fun i => args[i]?
/-- The beginning. -/
theorem enter {f : FuncId} {fn : Func} {c : Code} {args : List Value} {w : World} {R : Ending → World → Prop} {n : Nat} (S : List Nat) (H : Hp) (hf : P.funcs[f]? = some fn) (hb : fn.body = some c) (hn : fn.ntmps = n) (hle : args.length ≤ n)
    (hH : HR ⟨w, S, n, []⟩ H w) (h : At ⟨w, S, n, []⟩ (frA args) H (c.wp P (bodyPost P fn R))) : Calls P f args.toArray w R := by
  refine calls_of_wp hf hb (h _ w ⟨rfl, ?_, ?_, Chg.refl _ _, hH⟩)
  · subst hn; simp; omega
  · intro i v hi
    have h2 : args[i]? = some v := hi
    have h3 := (List.getElem?_eq_some_iff.1 h2).1
    rw [Array.getElem?_append_left (by simpa using h3)]
    simpa using h2
end
end SE
end Go
