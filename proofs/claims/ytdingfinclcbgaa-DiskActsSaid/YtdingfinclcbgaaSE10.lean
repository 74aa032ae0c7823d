/- Results that lie in cells; a function that holds a range over a function: its beginning and its end; an iterator's yield. -/
import Derived.Test.YtdingfinclcbgaaSE9
namespace Go
namespace SE
open Go.RowKit
set_option linter.unusedVariables false
set_option linter.unusedSimpArgs false
/-- What the function answers, at whatever state that matches. -/
def ResV (P : Program) (fr : Fr) (H : Hp) (fn : Func) (v : Value) : Prop := ∀ E a w, Rep E fr H a w → (results fn a.tmps).run P w = .ok v w
section
variable {P : Program} {E : Env} {fr : Fr} {H : Hp} {fn : Func}
theorem ResV.tmps {rs : List ResultVar} {vs : List Value} (hr : fn.results = rs.toArray) (hv : ResOk fr rs vs) (hl : rs.length ≤ 4 := by decide) : ResV P fr H fn (retV vs) := by
  intro E a w Rp
  obtain ⟨ts, h1, h2⟩ := ResOk.eq Rp.fr hv
  subst h1 h2
  exact run_results hr (Nat.le_trans (Nat.le_of_eq (List.length_map ResultVar.tmp).symm) hl) w
theorem run_cellres {tmps : Array Value} {t : Tmp} {ty : TypeId} {p : Addr} {v : Value} {w : World} (hr : fn.results = #[.cell t ty]) (ht : tmps[t]? = some (.pointer (some p))) (hl : (loadVar ty p).run P w = .ok v w) : (results fn tmps).run P w = .ok v w := by
  simp [results, hr, ht, asAddr, hl]
theorem ResV.cellA {t : Tmp} {ty ty' : TypeId} {b k rest n : Nat} {ow : Bool} {cs : List Value} {D : TypeDesc} (hr : fn.results = #[.cell t ty]) (ht : fr t = some (.pointer (some ⟨b, 0, none⟩))) (hD : P.underlying ty = some D) (hd : aggD D = true) (hz : tsz P ty = some n) (hn : cs.length = n)
    (hk : H k = some ⟨ow, b, 0, ty', cs, rest⟩) : ResV P fr H fn (.agg cs.toArray) := by
  intro E a w R
  subst hn
  refine run_cellres hr (R.fr _ _ ht) ?_
  have h1 := run_loadCells_list (P := P) (w := w) ⟨b, 0, none⟩ cs (fun i v hi => by
    rw [add_addr]
    exact R.heap.cell R.chg hk hi)
  simp [loadVar, run_isAgg hD, hd, run_tsz hz, h1]
theorem ResV.cell1 {t : Tmp} {ty ty' : TypeId} {b k rest : Nat} {ow : Bool} {cs : List Value} {v : Value} {D : TypeDesc} (hr : fn.results = #[.cell t ty]) (ht : fr t = some (.pointer (some ⟨b, 0, none⟩))) (hD : P.underlying ty = some D) (hd : aggD D = false)
    (hk : H k = some ⟨ow, b, 0, ty', cs, rest⟩) (hv : cs[0]? = some v) : ResV P fr H fn v := by
  intro E a w R
  refine run_cellres hr (R.fr _ _ ht) ?_
  have hc := R.heap.cell R.chg hk hv
  simp only [Nat.zero_add] at hc
  simp [loadVar, run_isAgg hD, hd, load, Sem.run, hc]

/-- What a contract's walk has to show at its end. -/
abbrev Ends (rows : List Row) (post : Value → List Row → Prop) (w0 : World) : Ending → World → Prop := fun e w' => ∃ v rows', e = .returned v ∧ post v rows' ∧ Chg (ownB rows) w0 w' ∧ (∀ r ∈ rows', r.own = true) ∧ HR ⟨w0, ownB rows, 0, []⟩ (hL rows') w'
theorem ends_of {rows rows' : List Row} {post : Value → List Row → Prop} {w0 w : World} {m : Nat} {v : Value} {df : List Deferred} (ks : List Nat) (hk : ks.map H = rows'.map some) (hd : ks.Nodup) (ho : ∀ r ∈ rows', r.own = true) (hp : post v rows')
    (hw : Chg (ownB rows) w0 w) (hH : HR ⟨w0, ownB rows, m, df⟩ H w) : Ends rows post w0 (.returned v) w := by
  refine ⟨_, rows', rfl, hp, hw, ho, ?_⟩
  have hat : ∀ i r, hL rows' i = some r → ∃ k, ks[i]? = some k ∧ H k = some r := fun i r hi => by
    have h1 : (rows'.map some)[i]? = some (some r) := by
      rw [List.getElem?_map]
      unfold hL at hi
      rw [hi]
      rfl
    rw [← hk, List.getElem?_map, Option.map_eq_some_iff] at h1
    exact h1
  refine ⟨fun i r hi => ?_, fun i j r r' hi hj h1 h2 hne hz hz' => ?_⟩
  · obtain ⟨k, _, hk2⟩ := hat i r hi
    exact hH.row k r hk2
  · obtain ⟨k, hk1, hk2⟩ := hat i r hi
    obtain ⟨k', hk1', hk2'⟩ := hat j r' hj
    refine hH.apart k k' r r' hk2 hk2' h1 h2 (fun he => hne ?_) hz hz'
    subst he
    exact nodup_inj hd hk1 hk1'
theorem At.giveV {v : Value} {rows : List Row} {post : Value → List Row → Prop} {w0 : World} {m : Nat} {T : Exit} (hT : T = .ret ∨ T = .normal) (ks : List Nat) {rows' : List Row} (hres : ResV P fr H fn v)
    (hk : ks.map H = rows'.map some) (hd : ks.Nodup) (ho : ∀ r ∈ rows', r.own = true) (hp : post v rows') :
    At ⟨w0, ownB rows, m, []⟩ fr H (bodyPost P fn (Ends rows post w0) T) := by
  intro a w R
  have key : bodyPost P fn (Ends rows post w0) .ret a w := ⟨R.df, _, hres _ _ _ R, ends_of ks hk hd ho hp R.chg R.heap⟩
  rcases hT with rfl | rfl <;> exact key
/-- The end of a function that holds a range over a function. -/
theorem At.giveM {v : Value} {rows : List Row} {post : Value → List Row → Prop} {w0 w1 : World} {m D : Nat} {T : Exit} (hX : Re ⟨w0, ownB rows, m, []⟩ w1 [D]) (hD : w1.heap[D]? = some (.deferred (some []))) (hT : T = .ret ∨ T = .normal) (ks : List Nat) {rows' : List Row} (hres : ResV P fr H fn v)
    (hk : ks.map H = rows'.map some) (hd : ks.Nodup) (ho : ∀ r ∈ rows', r.own = true) (hp : post v rows') :
    At (Env.re ⟨w0, ownB rows, m, []⟩ w1 [D] [{ target := .collected D, args := #[] }]) fr H (bodyPostM Fence.wide 1 P fn (Ends rows post w0) T) := by
  intro a w R
  have hdf : a.defers = [{ target := .collected D, args := #[] }] := R.df
  have hD2 : w.heap[D]? = some (.deferred (some [])) := (hX.keep R.chg (by simp)).trans hD
  have c1 := hX.chg_back R.chg
  have h1 := hX.hr_back R.chg R.heap
  have c2 : Chg (ownB rows) w0 (w.putObj D (.deferred none)) := Chg.putObj c1 (hX.new D (by simp)).1
  have h2 : HR ⟨w0, ownB rows, m, []⟩ H (w.putObj D (.deferred none)) := h1.putObj c1 hD2 rfl
  have R2 : Rep ⟨w0, ownB rows, m, a.defers⟩ fr H a (w.putObj D (.deferred none)) := ⟨rfl, R.size, R.fr, c2, ⟨h2.row, h2.apart⟩⟩
  have key : bodyPostM Fence.wide 1 P fn (Ends rows post w0) .ret a w := by
    show LeavesInM Fence.wide 1 P fn a.tmps _ a.defers .returning w
    rw [hdf]
    refine ⟨by simp, Or.inl ⟨D, _, rfl, run_takeDeferred hD2, ?_⟩⟩
    exact ⟨v, hres _ _ _ R2, ends_of (df := []) (m := m) ks hk hd ho hp c2 h2⟩
  rcases hT with rfl | rfl <;> exact key
theorem Con.enterM {f : FuncId} {c : Code} {args : List Value} {rows : List Row} {post : Value → List Row → Prop} {n : Nat} (hf : P.funcs[f]? = some fn) (hn : fn.ntmps = n) (hle : args.length ≤ n) (hb : fn.body = some c)
    (h : ∀ w, (∀ k ∈ ownB rows, k < w.heap.size) → At ⟨w, ownB rows, n, []⟩ (frA args) (hL rows) (c.wp P (bodyPostM Fence.wide 1 P fn (Ends rows post w)))) : Con P f args rows post := by
  intro w hw
  refine callsIn_wide.1 (callsIn_of_wp_marks (F := Fence.wide) (n := 1) hf hb trivial (wpIn_wide.2 (h w ?_ _ w ⟨rfl, ?_, ?_, Chg.refl _ _, ⟨hw.row, hw.apart⟩⟩)))
  · intro k hk
    obtain ⟨r, h1, h2, h3, rfl⟩ := mem_ownB.1 hk
    obtain ⟨i, hi⟩ := List.getElem?_of_mem h1
    exact (hw.own_ (k := i) hi h2 h3).2.1
  · subst hn; simp; omega
  · intro i v hi
    have h2 : args[i]? = some v := hi
    have h3 := (List.getElem?_eq_some_iff.1 h2).1
    rw [Array.getElem?_append_left (by simpa using h3)]
    simpa using h2
end
/-! ### An iterator's own walk -/
def chunkV (p : Option Addr) (len k i : Nat) : Value := .slice (p.map (·.add (i * k))) (min k (len - i * k)) (min k (len - i * k))
def chunksV (p : Option Addr) (len k : Nat) : List Value := (List.range ((len + k - 1) / k)).map (chunkV p len k)
theorem chunksV_len {p : Option Addr} {len k : Nat} : (chunksV p len k).length = (len + k - 1) / k := by simp [chunksV]
theorem chunksV_at {p : Option Addr} {len k i : Nat} (hk : 0 < k) (h : i * k < len) : (chunksV p len k)[i]? = some (chunkV p len k i) ∧ i < (len + k - 1) / k := by
  have : i < (len + k - 1) / k := by
    refine (Nat.lt_div_iff_mul_lt hk).2 ?_
    omega
  exact ⟨by simp [chunksV, this], this⟩
theorem chunksV_end {len k i : Nat} (hk : 0 < k) (h : len ≤ i * k) : (len + k - 1) / k ≤ i := by
  refine Nat.lt_succ_iff.1 ((Nat.div_lt_iff_lt_mul hk).2 ?_)
  rw [Nat.succ_mul]
  omega
section
variable {P : Program} {E : Env} {fr : Fr} {H : Hp} {Q : Exit → Act → World → Prop}
/-- A walk that reads only may begin anew. -/
theorem Rep.seat {W0 w : World} {n : Nat} {df : List Deferred} {a : Act} (h : Rep ⟨W0, [], n, df⟩ fr H a w) (hv : ∀ k r, H k = some r → r.own = false) : Rep ⟨w, [], n, df⟩ fr H a w := by
  refine ⟨h.df, h.size, h.fr, Chg.refl _ _, ⟨fun k r hk => ?_, fun k k' r r' hk hk' ho => ?_⟩⟩
  · have h1 := h.heap.row k r hk
    unfold RowR at h1 ⊢
    rw [hv k r hk] at h1 ⊢
    intro hne
    obtain ⟨g1, g2, g3⟩ := h1 hne
    refine ⟨Nat.lt_of_lt_of_le g1 h.chg.size, by simp, fun j v hj => ?_⟩
    show w.cell? ⟨r.b, r.s + j, none⟩ = some v
    rw [World.cell?_of_block (w := W0) (h.chg.block r.b g1 (by simp))]
    exact g3 j v hj
  · rw [hv k r hk] at ho; cases ho
/-- .. at another world, where what it reads lies. -/
theorem Rep.other {W0 w w' : World} {n : Nat} {df : List Deferred} {a : Act} (h : Rep ⟨W0, [], n, df⟩ fr H a w) (hH : HR ⟨w', [], n, df⟩ H w') : Rep ⟨w', [], n, df⟩ fr H a w' := ⟨h.df, h.size, h.fr, Chg.refl _ _, hH⟩
theorem view_cell {W : World} {n b : Nat} {df : List Deferred} {v : Value} {r : Row} (hr : r = ⟨false, b, 0, 0, [v], 0⟩) (hc : W.cell? ⟨b, 0, none⟩ = some v) : RowR ⟨W, [], n, df⟩ r W := by
  subst hr
  intro _
  obtain ⟨o, ho, _⟩ := cells_of_cell' hc
  refine ⟨(Array.getElem?_eq_some_iff.1 ho).1, by simp, fun j u hj => ?_⟩
  match j, hj with
  | 0, hj =>
    obtain rfl : v = u := by simpa using hj
    exact hc
  | j + 1, hj => simp at hj
theorem HR.two {W : World} {n b1 b2 : Nat} {df : List Deferred} {v1 v2 : Value} (h1 : W.cell? ⟨b1, 0, none⟩ = some v1) (h2 : W.cell? ⟨b2, 0, none⟩ = some v2) : HR ⟨W, [], n, df⟩ (hOf [(0, ⟨false, b1, 0, 0, [v1], 0⟩), (1, ⟨false, b2, 0, 0, [v2], 0⟩)]) W := by
  have key : ∀ (k : Nat) (r : Row), hOf [(0, ⟨false, b1, 0, 0, [v1], 0⟩), (1, ⟨false, b2, 0, 0, [v2], 0⟩)] k = some r → r = ⟨false, b1, 0, 0, [v1], 0⟩ ∨ r = ⟨false, b2, 0, 0, [v2], 0⟩ := by
    intro k r h
    unfold hOf at h
    split at h
    · exact Or.inl (Option.some.inj h).symm
    · unfold hOf at h
      split at h
      · exact Or.inr (Option.some.inj h).symm
      · cases h
  refine ⟨fun k r hk => ?_, fun k k' r r' hk hk' ho => ?_⟩
  · rcases key k r hk with h | h
    · exact view_cell h h1
    · exact view_cell h h2
  · rcases key k r hk with h | h <;> rw [h] at ho <;> cases ho
/-- A region within which yield is called. -/
theorem list_then {ops : Array Oper} {n : Nat} {L2 : List Oper} (hQ : LetsOut Q → False) : ∀ (L1 : List Oper) (a : Act) (w : World), noDeferB L1 = true → wpList P ops (Exit.then (wpListIn Fence.wide n P ops Q L2) Q) L1 a w → wpListIn Fence.wide n P ops Q (L1 ++ L2) a w
  | [], a, w, _, h => h
  | o :: L, a, w, hd, h => by
    have hd1 := noDefer_mem hd List.mem_cons_self
    have hd2 : noDeferB L = true := by unfold noDeferB at hd ⊢; simp only [List.all_cons, Bool.and_eq_true] at hd; exact hd.2
    unfold wpList at h
    rw [List.cons_append]
    unfold wpListIn
    split at h
    · rename_i hw
      rw [if_pos hw]
      rcases h with h | h
      · have h2 : o.wpIn Fence.wide n P a w (wpList P ops (Exit.then (wpListIn Fence.wide n P ops Q L2) Q) L) (Exit.then (wpListIn Fence.wide n P ops Q L2) Q) := Oper.in_of (l0 := none) hd1 h
        refine ⟨h2.1, ?_⟩
        have h3 := h2.2
        generalize (o.semAt Fence.wide.round a.eval).run P w = r at h3 ⊢
        cases r with
        | ok x w' =>
          cases x <;> simp only [Oper.uponIn] at h3 ⊢
          all_goals first
            | exact list_then hQ L _ _ hd2 h3
            | exact h3.elim
            | exact ⟨h3.1, CallsIn.mono h3.2 (fun e w'' he => by cases e <;> first | exact list_then hQ L _ _ hd2 he | exact he)⟩
            | exact ⟨h3.1, RowsIn.mono h3.2 (fun _ _ he => list_then hQ L _ _ hd2 he)⟩
            | exact ⟨h3.1, RoundIn.mono h3.2 (fun e w'' he => by cases e <;> first | exact list_then hQ L _ _ hd2 he | exact he)⟩
        | halt x w' => cases x <;> simp only [Oper.uponIn] at h3 ⊢ <;> first | exact h3 | exact h3.elim
      · exact (hQ h.2).elim
    · rename_i hw
      rw [if_neg hw]
      exact ⟨fun _ _ => trivial, list_then hQ L _ w hd2 h⟩
theorem At.regionY {id : Nat} {l : List Oper} (L1 L2 : List Oper) (hl : l = L1 ++ L2) (hQ : LetsOut Q → False) (h : At E fr H (wpList P l.toArray (Exit.then (wpListIn Fence.wide 1 P l.toArray Q L2) Q) L1)) (hd : noDeferB L1 = true := by kernel_rfl) : At E fr H ((Code.region id l.toArray false).wp P Q) := by
  intro a w R
  refine (wpIn_wide (n := 1)).1 (wpIn_region_lit ?_)
  have := list_then hQ L1 a w hd (h a w R)
  rwa [← hl] at this
/-- yield's call. -/
theorem At.yld {ops : Array Oper} {o : Oper} {rest : List Oper} {l : Nat} {x y : Operand} {tys : Array TypeId} {v : Value} {J : World → Prop} {Jx : World → Prop} (ho : o.op = .call ⟨.value x, #[y], tys⟩) (hx : fr.ev x = some (.func (.yield l) #[] #[])) (hy : fr.ev y = some v)
    (h : ∀ a w, Rep E fr H a w → YieldAt Fence.wide 0 P l #[v] w fun e B => (e = .returned (.bool true) ∧ J B) ∨ (e = .returned (.bool false) ∧ Jx B))
    (ht : ∀ B, J B → ∀ a w, Rep E fr H a w → wpListIn Fence.wide 1 P ops Q rest (a.put o.dst (.bool true)) B) (hf : ∀ B, Jx B → ∀ a w, Rep E fr H a w → wpListIn Fence.wide 1 P ops Q rest (a.put o.dst (.bool false)) B) (hg : o.guard = none := by rfl) :
    At E fr H (wpListIn Fence.wide 1 P ops Q (o :: rest)) := by
  intro a w R
  refine wpListIn_plain hg fun K hK => ⟨fun _ _ => trivial, ?_⟩
  obtain ⟨fn, tmps, assign, body, h1, h2⟩ := h a w R
  have hrun : (execOp a.eval o).run P w = .ok (.round l fn tmps assign body) w := by
    unfold execOp
    simp [ho, resolve, R.ev hx, R.ev hy, Deferred.ofValue, invoke, h1]
  have hsem : (o.semAt Fence.wide.round a.eval).run P w = .ok (.round l fn tmps assign body) w := hrun
  rw [hsem]
  refine ⟨(fun h => by cases h), h2.mono ?_⟩
  rintro e B (⟨rfl, hJ⟩ | ⟨rfl, hJ⟩)
  · exact hK _ _ (ht B hJ a w R)
  · exact hK _ _ (hf B hJ a w R)
end
section
variable {P : Program} {fr : Fr} {H : Hp} {Q : Exit → Act → World → Prop} {fn : Func} {c : Code} {n : Nat} {xs : List Value} {b1 b2 : Nat} {v1 v2 : Value}
abbrev two (b1 b2 : Nat) (v1 v2 : Value) : Hp := hOf [(0, ⟨false, b1, 0, 0, [v1], 0⟩), (1, ⟨false, b2, 0, 0, [v2], 0⟩)]
abbrev C2 (b1 b2 : Nat) (v1 v2 : Value) : World → Prop := fun W => W.cell? ⟨b1, 0, none⟩ = some v1 ∧ W.cell? ⟨b2, 0, none⟩ = some v2
structure ItJ (P : Program) (l : Nat) (xs : List Value) (C : World → Prop) (J : Nat → World → Prop) (Jx : World → Prop) : Prop where
  below : ∀ i A B, J i A → Below A.heap.size A B → J i B
  belowX : ∀ A B, Jx A → Below A.heap.size A B → Jx B
  reads : ∀ i A, J i A → C A
  yields : ∀ i x A, J i A → xs[i]? = some x → YieldAt Fence.wide 0 P l #[x] A fun e B => (e = .returned (.bool true) ∧ J (i + 1) B) ∨ (e = .returned (.bool false) ∧ Jx B)
theorem Iter.enter2 {gf : FuncId} (hf : P.funcs[gf]? = some fn) (hn : fn.ntmps = n) (hle : 3 ≤ n) (hb : fn.body = some c)
    (h : ∀ l J Jx, ItJ P l xs (C2 b1 b2 v1 v2) J Jx → ∀ W, J 0 W → At ⟨W, [], n, []⟩ (frA [.func (.yield l) #[] #[], ptr b1 0, ptr b2 0]) (two b1 b2 v1 v2) (c.wp P (bodyPost P fn fun e B => (∃ v, e = .returned v) ∧ (J xs.length B ∨ Jx B)))) :
    Iter P gf [ptr b1 0, ptr b2 0] xs (C2 b1 b2 v1 v2) := by
  intro l J Jx W hJb hXb hJC hY h0
  have hI : ItJ P l xs (C2 b1 b2 v1 v2) J Jx := ⟨hJb, hXb, hJC, hY⟩
  refine calls_of_wp hf hb (h l J Jx hI W h0 _ W ⟨rfl, ?_, ?_, Chg.refl _ _, HR.two (hJC 0 W h0).1 (hJC 0 W h0).2⟩)
  · subst hn; simp; omega
  · intro i v hi
    have h2 : [Value.func (.yield l) #[] #[], ptr b1 0, ptr b2 0][i]? = some v := hi
    have h3 := (List.getElem?_eq_some_iff.1 h2).1
    have e : (#[Value.func (.yield l) #[] #[]] ++ [ptr b1 0, ptr b2 0].toArray : Array Value) = [Value.func (.yield l) #[] #[], ptr b1 0, ptr b2 0].toArray := rfl
    rw [e, Array.getElem?_append_left (by simpa using h3)]
    simpa using h2
theorem Iter.loop {J : Nat → World → Prop} {H0 : Hp} (frI : Nat → Fr)
    (h : ∀ i, i ≤ xs.length → ∀ W, J i W → ∀ K : Act → World → Prop, (i < xs.length → ∀ W', J (i + 1) W' → At ⟨W', [], n, []⟩ (frI (i + 1)) H0 K) → At ⟨W, [], n, []⟩ (frI i) H0 (c.wp P (Exit.then K Q))) {W : World} (h0 : J 0 W) :
    At ⟨W, [], n, []⟩ (frI 0) H0 ((Code.loop c).wp P Q) := by
  have key : ∀ m i, i + m = xs.length → ∀ W, J i W → At ⟨W, [], n, []⟩ (frI i) H0 (Code.rounds P c Q (m + 1)) := by
    intro m
    induction m with
    | zero =>
      intro i hi W hJ a w R
      rw [rounds_succ]
      exact h i (by omega) W hJ _ (fun hlt => by omega) a w R
    | succ m ih =>
      intro i hi W hJ a w R
      rw [rounds_succ]
      exact h i (by omega) W hJ _ (fun hlt W' hJ' => ih (i + 1) (by omega) W' hJ') a w R
  exact fun a w R => wp_loop_rounds (xs.length + 1) (key xs.length 0 (by omega) W h0 a w R)
theorem At.yld2 {ops : Array Oper} {o : Oper} {rest : List Oper} {l i : Nat} {x y : Operand} {tys : Array TypeId} {v : Value} {J : Nat → World → Prop} {Jx : World → Prop} {W : World} (hI : ItJ P l xs (C2 b1 b2 v1 v2) J Jx) (hJ : J i W) (d : Option Tmp)
    (ho : o.op = .call ⟨.value x, #[y], tys⟩) (hx : fr.ev x = some (.func (.yield l) #[] #[])) (hy : fr.ev y = some v) (hv : xs[i]? = some v)
    (ht : ∀ B, J (i + 1) B → At ⟨B, [], n, []⟩ (fr.put n d (.bool true)) (two b1 b2 v1 v2) (wpListIn Fence.wide 1 P ops Q rest)) (hf : ∀ B, Jx B → At ⟨B, [], n, []⟩ (fr.put n d (.bool false)) (fun _ => none) (wpListIn Fence.wide 1 P ops Q rest)) (hg : o.guard = none := by rfl) (hd : o.dst = d := by rfl) :
    At ⟨W, [], n, []⟩ fr (two b1 b2 v1 v2) (wpListIn Fence.wide 1 P ops Q (o :: rest)) := by
  subst hd
  refine At.yld ho hx hy (fun a w R => hI.yields i v w (hI.below i W w hJ R.chg.below) hv) (fun B hB a w R => ?_) (fun B hB a w R => ?_) hg
  · exact ht B hB _ _ ((R.other (HR.two (hI.reads _ _ hB).1 (hI.reads _ _ hB).2)).put o.dst (.bool true))
  · refine hf B hB _ _ ?_
    have R0 : Rep ⟨B, [], n, []⟩ fr (fun _ => none) a B := ⟨R.df, R.size, R.fr, Chg.refl _ _, ⟨(fun k r hk => by cases hk), (fun k k' r r' hk => by cases hk)⟩⟩
    exact R0.put o.dst (.bool false)
theorem At.listI {E : Env} {ops : Array Oper} {L : List Oper} (hQ : LetsOut Q → False) (h : At E fr H (wpList P ops Q L)) (hd : noDeferB L = true := by kernel_rfl) : At E fr H (wpListIn Fence.wide 1 P ops Q L) :=
  fun a w R => list_in (l0 := none) hQ L a w hd (h a w R)
theorem At.itEnd {W : World} {l : Nat} {J : Nat → World → Prop} {Jx : World → Prop} {C : World → Prop} {H0 : Hp} (hI : ItJ P l xs C J Jx) (hJ : J xs.length W) (hr : fn.results = #[]) : At ⟨W, [], n, []⟩ fr H0 (bodyPost P fn (fun e B => (∃ v, e = .returned v) ∧ (J xs.length B ∨ Jx B)) .normal) :=
  At.fall (rs := []) (vs := []) rfl hr trivial fun w hw _ => ⟨⟨_, rfl⟩, Or.inl (hI.below _ W w hJ hw.below)⟩
theorem P_makeFunc {o : Oper} {f : FuncId} {caps : List Operand} {vs : List Value} (ho : o.op = .makeFunc (.func f) #[] caps.toArray) (h : ArgsOk fr caps vs) : PStep P fr o (.func (.func f) #[] vs.toArray) := by
  intro a ha w
  have h1 := h.eval ha
  unfold execOp
  simp [ho, Instr.makeFunc, h1]
end

theorem chunksV_some {p : Option Addr} {len k i : Nat} {x : Value} (hk : 0 < k) (h : (chunksV p len k)[i]? = some x) : i * k < len ∧ x = chunkV p len k i := by
  have h1 := (List.getElem?_eq_some_iff.1 h).1
  rw [chunksV_len] at h1
  have h2 : i * k < len := by
    have := (Nat.lt_div_iff_mul_lt hk).1 h1
    omega
  refine ⟨h2, ?_⟩
  rw [(chunksV_at (p := p) hk h2).1] at h
  exact (Option.some.inj h).symm
theorem At.toF {E : Env} {fr : Fr} {H : Hp} {T : Act → World → Prop} (l : List (Nat × Value)) (hf : AllL (fun p => fr p.1 = some p.2) l) (h : At E (frOf l) H T) : At E fr H T :=
  h.weak (frOf_le hf.mem) (fun _ _ h => h)
theorem At.toH {E : Env} {fr : Fr} {H : Hp} {T : Act → World → Prop} (m : List (Nat × Row)) (hH : AllL (fun p => H p.1 = some p.2) m) (h : At E fr (hOf m) T) : At E fr H T :=
  h.weak (fun _ _ h => h) (hOf_le hH.mem)

theorem chunk_cut {p : Option Addr} {len k i : Nat} (hk : 0 < k) (h : i * k < len) : (chunksV p len k)[i]? = some (.slice (cut p (i * k) (i * k + min k (len - i * k)) 1) (i * k + min k (len - i * k) - i * k) (i * k + min k (len - i * k) - i * k)) := by
  rw [(chunksV_at hk h).1]
  unfold chunkV cut
  rw [if_neg (by omega), Nat.mul_one, Nat.add_sub_cancel_left]
theorem At.regionYk {P : Program} {E : Env} {fr : Fr} {H : Hp} {Q : Exit → Act → World → Prop} {id : Nat} {l : List Oper} (k : Nat) (hQ : LetsOut Q → False) (h : At E fr H (wpList P l.toArray (Exit.then (wpListIn Fence.wide 1 P l.toArray Q (l.drop k)) Q) (l.take k))) (hd : noDeferB (l.take k) = true := by kernel_rfl) : At E fr H ((Code.region id l.toArray false).wp P Q) :=
  At.regionY (l.take k) (l.drop k) (List.take_append_drop k l).symm hQ h hd
theorem chunk_addr0 {p : Option Addr} {b : Nat} (h : p = some ⟨b, 0, none⟩) (n : Nat) : p.map (·.add n) = some ⟨b, n, none⟩ := by
  subst h
  simp [add_addr]
end SE
end Go
