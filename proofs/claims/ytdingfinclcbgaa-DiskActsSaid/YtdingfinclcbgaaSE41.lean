/- Families beside rows of one's own; elements read where they lie. -/
import Derived.Test.YtdingfinclcbgaaSE40
import Derived.KernelRfl
namespace Go
namespace SE
open Go.RowKit
set_option linter.unusedVariables false
set_option linter.unusedSimpArgs false
/-- Other labels, and rows that are only read under as many as one likes. -/
theorem HR.pull {E : Env} {H H' : Hp} {w : World} (h : HR E H w) (hs : ∀ k r, H' k = some r → ∃ j, H j = some r ∧ (r.own = true → j = k)) : HR E H' w := by
  constructor
  · intro k r hk
    obtain ⟨j, hj, _⟩ := hs k r hk
    exact h.row j r hj
  · intro k k' r r' hk hk' ho ho' hne h1 h2
    obtain ⟨j, hj, e⟩ := hs k r hk
    obtain ⟨j', hj', e'⟩ := hs k' r' hk'
    obtain rfl := e ho
    obtain rfl := e' ho'
    exact h.apart _ _ _ _ hj hj' ho ho' hne h1 h2
theorem At.pull {E : Env} {fr : Fr} {H H' : Hp} {T : Act → World → Prop} (hs : ∀ k r, H' k = some r → ∃ j, H j = some r ∧ (r.own = true → j = k)) (h : At E fr H' T) : At E fr H T :=
  fun a w R => h a w ⟨R.df, R.size, R.fr, R.chg, R.heap.pull hs⟩
/-- A row that is only read, under one label more. -/
theorem At.see {E : Env} {fr : Fr} {H : Hp} {T : Act → World → Prop} (k j : Nat) {r : Row} (hk : H j = some r) (ho : r.own = false) (h : At E fr (H.set k r) T) : At E fr H T :=
  At.pull (fun i x hx => by
    rcases Hp.set_some hx with ⟨rfl, rfl⟩ | ⟨_, hx⟩
    · exact ⟨j, hk, fun h => by rw [ho] at h; cases h⟩
    · exact ⟨i, hx, fun _ => rfl⟩) h
/-- A row of no cells. -/
theorem At.row0 {E : Env} {fr : Fr} {H : Hp} {T : Act → World → Prop} (k : Nat) {r : Row} (ho : r.own = false) (hc : r.cells = []) (h : At E fr (H.set k r) T) : At E fr H T := fun a w R => by
  refine h a w ⟨R.df, R.size, R.fr, R.chg, ?_, ?_⟩
  · intro i x hx
    rcases Hp.set_some hx with ⟨rfl, rfl⟩ | ⟨_, hx⟩
    · show (match x.own with | true => _ | false => _)
      rw [ho]
      exact fun h => absurd hc h
    · exact R.heap.row i x hx
  · intro i i' x x' hx hx' h1 h2 hne g1 g2
    rcases Hp.set_some hx with ⟨rfl, rfl⟩ | ⟨_, hx⟩
    · rw [ho] at h1; cases h1
    rcases Hp.set_some hx' with ⟨rfl, rfl⟩ | ⟨_, hx'⟩
    · rw [ho] at h2; cases h2
    exact R.heap.apart _ _ _ _ hx hx' h1 h2 hne g1 g2
/-- An element of a family that is only read. -/
theorem At.famSee {E : Env} {fr : Fr} {H : Hp} {T : Act → World → Prop} (k : Nat) (b : Nat) (es : List BG) (i : Nat) {x : BG} (hx : es.getD i default = x) (hF : FamOk H (famR b es)) (h : At E fr (H.set k x.vrow) T) : At E fr H T := by
  subst hx
  rcases Nat.lt_or_ge i es.length with hi | hi
  · exact At.see k (lf b i) (hF i (dlt_iff.2 hi)) rfl h
  · refine At.row0 k rfl ?_ h
    rw [List.getD_eq_getElem?_getD, List.getElem?_eq_none hi]
    rfl
/-- Two families at a function's beginning. -/
theorem HR.famR2 {E : Env} {w : World} {fixed : List Row} {es es2 : List BG} {b b2 : Nat} (h : HR E (hL (fixed ++ es.map BG.vrow ++ es2.map BG.vrow)) w) : HR E (famsOf (hL fixed) [SE.famR b es, SE.famR b2 es2]) w := by
  refine h.pull fun k r hk => ?_
  rcases famsOf_some hk with ⟨f, hf, i, hi, _, rfl⟩ | ⟨_, hk⟩
  · rcases List.mem_cons.1 hf with rfl | hf
    · have hi : i < es.length := dlt_iff.1 hi
      refine ⟨fixed.length + i, ?_, fun h => by cases h⟩
      show (fixed ++ es.map BG.vrow ++ es2.map BG.vrow)[fixed.length + i]? = _
      rw [List.append_assoc, List.getElem?_append_right (Nat.le_add_right _ _), Nat.add_sub_cancel_left, List.getElem?_append_left (by simpa using hi), List.getElem?_map, List.getElem?_eq_getElem hi]
      refine congrArg some ?_
      show _ = BG.vrow (List.getD _ i default)
      rw [List.getD_eq_getElem?_getD, List.getElem?_eq_getElem hi]
      rfl
    · rw [List.mem_singleton.1 hf] at hi ⊢
      have hi : i < es2.length := dlt_iff.1 hi
      refine ⟨(fixed ++ es.map BG.vrow).length + i, ?_, fun h => by cases h⟩
      show (fixed ++ es.map BG.vrow ++ es2.map BG.vrow)[(fixed ++ es.map BG.vrow).length + i]? = _
      rw [List.getElem?_append_right (Nat.le_add_right _ _), Nat.add_sub_cancel_left, List.getElem?_map, List.getElem?_eq_getElem hi]
      refine congrArg some ?_
      show _ = BG.vrow (List.getD _ i default)
      rw [List.getD_eq_getElem?_getD, List.getElem?_eq_getElem hi]
      rfl
  · refine ⟨k, ?_, fun _ => rfl⟩
    have hk : fixed[k]? = some r := hk
    show (fixed ++ es.map BG.vrow ++ es2.map BG.vrow)[k]? = some r
    rw [List.append_assoc, List.getElem?_append_left (List.getElem?_eq_some_iff.1 hk).1, hk]
section
variable {P : Program}
theorem Con.enterF2 (b b2 : Nat) {f : FuncId} {fn : Func} {c : Code} {args : List Value} {fixed : List Row} {es es2 : List BG} {post : Value → List Row → Prop} {n : Nat} (hf : P.funcs[f]? = some fn) (hn : fn.ntmps = n) (hle : args.length ≤ n) (hb : fn.body = some c)
    (h : ∀ w, At ⟨w, ownB (fixed ++ es.map BG.vrow ++ es2.map BG.vrow), n, []⟩ (frA args) (famsOf (hL fixed) [famR b es, famR b2 es2])
      (c.wp P (bodyPost P fn fun e w' => ∃ v rows', e = .returned v ∧ post v rows' ∧ Chg (ownB (fixed ++ es.map BG.vrow ++ es2.map BG.vrow)) w w' ∧ (∀ r ∈ rows', r.own = true) ∧ HR ⟨w, ownB (fixed ++ es.map BG.vrow ++ es2.map BG.vrow), 0, []⟩ (hL rows') w'))) : Con P f args (fixed ++ es.map BG.vrow ++ es2.map BG.vrow) post :=
  Con.enter hf hn hle hb fun w a w1 R => h w a w1 ⟨R.df, R.size, R.fr, R.chg, R.heap.famR2⟩
end
/-- A family's elements among a call's views, beside rows of the callee's own. -/
theorem viewsFO {H : Hp} {owns views : List (Nat × Row)} {b : Nat} {ty : TypeId} {es : List BG} (hV : ViewsOk H owns views) (hF : FamOk H (famG b ty es)) (hes : ∀ e ∈ es, e.ok) (hl : AllL (fun p => Nat.blt p.1 b = true) owns) : ViewsOk H owns (views ++ famV b es) := by
  refine AllL.of_mem fun p hp => ?_
  rcases List.mem_append.1 hp with hp | hp
  · exact hV.mem p hp
  · obtain ⟨i, hi, rfl⟩ := List.mem_map.1 hp
    have hi : i < es.length := List.mem_range.1 hi
    refine Or.inr ⟨fun hm => ?_, _, hF i (dlt_iff.2 hi), BG.see (hes _ (getDG_mem hi))⟩
    obtain ⟨q, hq, hq2⟩ := List.mem_map.1 hm
    have h1 : q.1 < b := Nat.lt_of_lt_of_le (Nat.lt_of_succ_le (Nat.le_of_ble_eq_true (hl.mem q hq))) (Nat.le_refl _)
    have h2 : q.1 = b + 16 * i := hq2
    omega
theorem viewsRO {H : Hp} {owns views : List (Nat × Row)} {b : Nat} {es : List BG} (hV : ViewsOk H owns views) (hF : FamOk H (famR b es)) (hl : AllL (fun p => Nat.blt p.1 b = true) owns) : ViewsOk H owns (views ++ famV b es) := by
  refine AllL.of_mem fun p hp => ?_
  rcases List.mem_append.1 hp with hp | hp
  · exact hV.mem p hp
  · obtain ⟨i, hi, rfl⟩ := List.mem_map.1 hp
    have hi : i < es.length := List.mem_range.1 hi
    refine Or.inr ⟨fun hm => ?_, _, hF i (dlt_iff.2 hi), View.all⟩
    obtain ⟨q, hq, hq2⟩ := List.mem_map.1 hm
    have h1 : q.1 < b := Nat.lt_of_lt_of_le (Nat.lt_of_succ_le (Nat.le_of_ble_eq_true (hl.mem q hq))) (Nat.le_refl _)
    have h2 : q.1 = b + 16 * i := hq2
    omega
/-- What is known of a parameter's elements. -/
def BG.okR (e : BG) : Prop := (0 < e.l.length → e.A = some ⟨e.b, e.q, none⟩) ∧ e.l.length ≤ e.c ∧ e.c ≤ 9223372036854775807
theorem BG.adrR {e : BG} (h : e.okR) (h0 : 0 < e.l.length) : e.A = some ⟨e.b, e.q, none⟩ := h.1 h0
theorem BG.leR {e : BG} (h : e.okR) : e.l.length ≤ e.c ∧ e.c ≤ 9223372036854775807 := h.2
section
variable {P : Program} {E : Env} {fr : Fr} {H : Hp} {o : Oper} {x : Operand}
theorem Q_cast {v v' : Value} (h : v = v') (q : QStep P E fr H o v) : QStep P E fr H o v' := h ▸ q
/-- An element as a string, where it lies. -/
theorem Q_strG {s d e : TypeId} (b i : Nat) {ty : TypeId} {es : List BG} (hF : FamOk H (famG b ty es)) (hi : i < es.length) (hes : ∀ e ∈ es, e.ok) (ho : o.op = .convert s d x) (hs : P.underlying s = some (.slice e)) (he : P.underlying e = some (.int .u8)) (hd : P.underlying d = some .string)
    (hx : fr.ev x = some (es.getD i default).v) : QStep P E fr H o (strV (es.getD i default).l) := by
  have hok := hes _ (getDG_mem hi)
  refine Q_strN (l := (es.getD i default).l) (n := (es.getD i default).l.length) (k := lf b i) (j := (es.getD i default).q) rfl ho hs he hd hx (fun h => BG.adr hok h) (fun _ => ⟨hF i (dlt_iff.2 hi), rfl, Nat.zero_add _⟩) ?_
  show (((es.getD i default).w.map u8V).drop _).take _ = _
  rw [← List.map_drop, ← List.map_take, hok.2.2.1]
theorem Q_strR {s d e : TypeId} (b i : Nat) {es : List BG} (hF : FamOk H (famR b es)) (hi : i < es.length) (hes : ∀ e ∈ es, e.okR) (ho : o.op = .convert s d x) (hs : P.underlying s = some (.slice e)) (he : P.underlying e = some (.int .u8)) (hd : P.underlying d = some .string)
    (hx : fr.ev x = some (es.getD i default).v) : QStep P E fr H o (strV (es.getD i default).l) := by
  have hok := hes _ (getDG_mem hi)
  refine Q_strN (l := (es.getD i default).l) (n := (es.getD i default).l.length) (k := lf b i) (j := 0) rfl ho hs he hd hx (fun h => BG.adrR hok h) (fun _ => ⟨hF i (dlt_iff.2 hi), rfl, Nat.add_zero _⟩) ?_
  show (((es.getD i default).l.map u8V).drop 0).take _ = _
  rw [List.drop_zero, List.take_of_length_le (by simp)]
theorem Q_str0 {s d e : TypeId} (ho : o.op = .convert s d x) (hs : P.underlying s = some (.slice e)) (he : P.underlying e = some (.int .u8)) (hd : P.underlying d = some .string)
    (hx : fr.ev x = some (.slice none 0 0)) : QStep P E fr H o (strV []) :=
  Q_strN (l := []) (n := 0) (k := 0) (j := 0) (b := 0) (q := 0) (r := ⟨false, 0, 0, 0, [], 0⟩) rfl ho hs he hd hx (fun h => absurd h (Nat.lt_irrefl 0)) (fun h => absurd h (Nat.lt_irrefl 0)) rfl
end
/-- A list of cells out of its elements. -/
theorem encs_of {α : Type} (en : Enc α) (Q : α → Prop) : ∀ (n : Nat) (cs : List Value), cs.length = n * en.sz → (∀ i, i < n → ∃ a, (cs.drop (i * en.sz)).take en.sz = en.f a ∧ Q a) → ∃ L : List α, cs = encs en L ∧ L.length = n ∧ ∀ e ∈ L, Q e
  | 0, cs, hl, _ => ⟨[], List.eq_nil_of_length_eq_zero (by simpa using hl), rfl, fun e he => nomatch he⟩
  | n + 1, cs, hl, h => by
    obtain ⟨a, ha, hq⟩ := h 0 (by omega)
    rw [Nat.zero_mul, List.drop_zero] at ha
    obtain ⟨L, hL, hn, hb⟩ := encs_of en Q n (cs.drop en.sz) (by rw [List.length_drop, hl, Nat.add_mul, Nat.one_mul]; omega) fun i hi => by
      obtain ⟨a, ha⟩ := h (i + 1) (by omega)
      refine ⟨a, ?_⟩
      rwa [List.drop_drop, show en.sz + i * en.sz = (i + 1) * en.sz by rw [Nat.add_mul, Nat.one_mul]; omega]
    refine ⟨a :: L, ?_, by simp [hn], fun e he => ?_⟩
    · rw [← List.take_append_drop en.sz cs, ha, hL]
      rfl
    · rcases List.mem_cons.1 he with rfl | he
      · exact hq
      · exact hb e he
theorem FamOk.sets {f : Fam} : ∀ {ks : List Nat} {rs : List Row} {H : Hp}, (ks.all fun k => Nat.blt k f.b) = true → FamOk H f → FamOk (H.sets ks rs) f
  | [], _, _, _, h => by
    unfold Hp.sets
    exact h
  | _ :: _, [], _, _, h => by
    unfold Hp.sets
    exact h
  | k :: ks, r :: rs, H, hl, h => by
    rw [List.all_cons, Bool.and_eq_true] at hl
    show FamOk ((H.set k r).sets ks rs) f
    exact FamOk.sets hl.2 (FamOk.set hl.1 h)
theorem FamOk.dels {f : Fam} : ∀ {ks : List Nat} {H : Hp}, (ks.all fun k => Nat.blt k f.b) = true → FamOk H f → FamOk (H.dels ks) f
  | [], _, _, h => h
  | k :: ks, H, hl, h => by
    rw [List.all_cons, Bool.and_eq_true] at hl
    show FamOk ((H.del k).dels ks) f
    exact FamOk.dels hl.2 (FamOk.del hl.1 h)
theorem FK2 {H : Hp} {f : Fam} (h : FamOk H f := by repeat (first | exact rfl | assumption | with_reducible exact FamOk.hd | with_reducible refine FamOk.set ?_ ?_ | with_reducible refine FamOk.del ?_ ?_ | with_reducible refine FamOk.tl ?_ ?_ | with_reducible refine FamOk.sets ?_ ?_ | with_reducible refine FamOk.dels ?_ ?_ | with_reducible refine FamOk.emp ?_ | refine FamOk.hovr (by kernel_rfl) ?_ | refine FamOk.swap rfl rfl ?_)) : FamOk H f := h
example (H : Hp) (r : Row) (es fs : List BG) : FamOk ((((famsOf H [famG 100000 5 es, famR 100001 fs]).set 11 r).dels [12]).sets [13, 14] [r, r]) (famR 100001 fs) := FK2
example (H : Hp) (r : Row) (es fs : List BG) : FamOk (famsOf ((((famsOf H [famG 100000 5 es, famR 100001 fs]).set 11 r).dels [12]).sets [13, 14] [r, r]) [famG 100002 6 es]) (famR 100001 fs) := FK2
end SE
end Go
