/- Arrays held against each other; a conversion of bytes to bytes. -/
import Derived.Test.YtdingfinclcbgaaSE10
import Derived.ChangeKeysEq
import Derived.Laws.StructEq
namespace Go
namespace SE
open Go.RowKit
set_option linter.unusedVariables false
set_option linter.unusedSimpArgs false
section
variable {P : Program} {E : Env} {fr : Fr} {H : Hp} {o : Oper} {t ty : TypeId} {x y : Operand} {v : Value} {Q : Exit → Act → World → Prop}
theorem run_part1 {e : TypeId} {D : TypeDesc} (hD : P.underlying e = some D) (hd : aggD D = false) {cs : Array Value} {i : Nat} {v : Value} (h : cs[i]? = some v) (w : World) : (part e cs i).run P w = .ok v w := by
  unfold part
  simp [run_isAgg hD, hd, h]
theorem run_equalIn_int' {e : TypeId} {k : IntKind} (hD : P.underlying e = some (.int k)) (d : Nat) (a b : Int) (w : World) : (Op.equalIn (d + 1) e (.int k a) (.int k b)).run P w = .ok (a == b) w := by
  simp [Op.equalIn, run_underlying hD]
theorem run_eqItems_w {n : Nat} {e : TypeId} {k : IntKind} (hD : P.underlying e = some (.int k)) (d : Nat) (xs ys : List (BitVec n)) (w : World) : ∀ is : List Nat, (∀ i ∈ is, i < xs.length ∧ i < ys.length) →
    (Op.eqItems (d + 1) e 1 (xs.map fun b => Value.int k (b.toNat : Int)).toArray (ys.map fun b => Value.int k (b.toNat : Int)).toArray is).run P w = .ok (is.all fun i => xs.getD i 0 == ys.getD i 0) w
  | [], _ => by simp [Op.eqItems]
  | i :: is, h => by
    have hi := h i (by simp)
    have h1 := run_part1 (P := P) (cs := (xs.map fun b => Value.int k (b.toNat : Int)).toArray) (i := i) (v := Value.int k ((xs.getD i 0).toNat : Int)) hD rfl (by simp [hi.1]) w
    have h2 := run_part1 (P := P) (cs := (ys.map fun b => Value.int k (b.toNat : Int)).toArray) (i := i) (v := Value.int k ((ys.getD i 0).toNat : Int)) hD rfl (by simp [hi.2]) w
    have ih := run_eqItems_w hD d xs ys w is fun j hj => h j (by simp [hj])
    simp only [Op.eqItems, Sem.run_bind, Nat.mul_one, h1, h2, Result.andThen_ok, run_equalIn_int' hD, List.all_cons]
    have e1 : (((xs.getD i 0).toNat : Int) == ((ys.getD i 0).toNat : Int)) = (xs.getD i 0 == ys.getD i 0) := by
      rw [Bool.eq_iff_iff]
      simp only [beq_iff_eq, Int.ofNat_inj]
      exact ⟨fun h => BitVec.eq_of_toNat_eq h, fun h => by rw [h]⟩
    rw [e1]
    cases hb : (xs.getD i 0 == ys.getD i 0)
    · simp
    · simpa using ih
theorem all_eq {n m : Nat} {xs ys : List (BitVec n)} (hx : xs.length = m) (hy : ys.length = m) : ((List.range m).all fun i => xs.getD i 0 == ys.getD i 0) = (xs == ys) := by
  rw [Bool.eq_iff_iff]
  simp only [List.all_eq_true, List.mem_range, beq_iff_eq]
  constructor
  · intro h
    apply List.ext_getElem (by rw [hx, hy])
    intro i h1 h2
    have := h i (by omega)
    simpa [h1, h2] using this
  · rintro rfl i _
    rfl
theorem run_eql_arr {n m : Nat} {t e : TypeId} {k : IntKind} {xs ys : List (BitVec n)} (ht : P.underlying t = some (.array m e)) (he : P.underlying e = some (.int k)) (hz : tsz P e = some 1) (hx : xs.length = m) (hy : ys.length = m) (w : World) :
    (Op.equal t (.agg (xs.map fun b => Value.int k (b.toNat : Int)).toArray) (.agg (ys.map fun b => Value.int k (b.toNat : Int)).toArray)).run P w = .ok (xs == ys) w := by
  obtain ⟨i, hi, hs⟩ := Option.map_eq_some_iff.1 hz
  have h1 := run_equalIn_array (P := P) w 9999 (t := t) (xs.map fun b => Value.int k (b.toNat : Int)).toArray (ys.map fun b => Value.int k (b.toNat : Int)).toArray ht hi
  have hc : P.cellsOf e = 1 := by simp [Program.cellsOf, hi, hs]
  rw [hc, run_eqItems_w he 9998 xs ys w _ (by intro i hi; rw [List.mem_range] at hi; omega), all_eq hx hy] at h1
  exact h1
theorem P_eql_arr {n m : Nat} {t e : TypeId} {k : IntKind} {xs ys : List (BitVec n)} (ho : o.op = .binOp .eql t x y ty) (ht : P.underlying t = some (.array m e)) (he : P.underlying e = some (.int k)) (hz : tsz P e = some 1) (hg : P.eqGuardType P.depth t = false)
    (hx : fr.ev x = some (.agg (xs.map fun b => Value.int k (b.toNat : Int)).toArray)) (hy : fr.ev y = some (.agg (ys.map fun b => Value.int k (b.toNat : Int)).toArray)) (hlx : xs.length = m) (hly : ys.length = m) : PStep P fr o (.bool (xs == ys)) := by
  intro a ha w
  have h := run_eql_arr (P := P) ht he hz hlx hly w
  unfold execOp
  simp [ho, ha.ev hx, ha.ev hy, eqGuard, binOp, h, program, hg, Sem.run]
theorem P_neq_arr {n m : Nat} {t e : TypeId} {k : IntKind} {xs ys : List (BitVec n)} (ho : o.op = .binOp .neq t x y ty) (ht : P.underlying t = some (.array m e)) (he : P.underlying e = some (.int k)) (hz : tsz P e = some 1) (hg : P.eqGuardType P.depth t = false)
    (hx : fr.ev x = some (.agg (xs.map fun b => Value.int k (b.toNat : Int)).toArray)) (hy : fr.ev y = some (.agg (ys.map fun b => Value.int k (b.toNat : Int)).toArray)) (hlx : xs.length = m) (hly : ys.length = m) : PStep P fr o (.bool (!(xs == ys))) := by
  intro a ha w
  have h := run_eql_arr (P := P) ht he hz hlx hly w
  unfold execOp
  simp [ho, ha.ev hx, ha.ev hy, eqGuard, binOp, h, program, hg, Sem.run]

/-! ### Bytes turned to bytes: the block bears a mark behind its end -/
theorem HR.refz {w w' : World} {k : Nat} {r : Row} {fz' : Nat × Nat → Nat × Nat} (h : HR E H w) (hk : H k = some r) (ho : r.own = true) (hz : r.cells.length + r.rest ≠ 0) (hc : Chg [r.b] w w')
    (hh : ∀ (cs : Array Value) (fz : Nat × Nat), w.heap[r.b]? = some (.cells cs r.ty fz) → w'.heap[r.b]? = some (.cells cs r.ty (fz' fz))) (hf : ∀ fz : Nat × Nat, (fz = (0, 0) ∨ r.cells.length + r.rest ≤ fz.1) → (fz' fz = (0, 0) ∨ r.cells.length + r.rest ≤ (fz' fz).1)) : HR E H w' := by
  obtain ⟨h1, h2, h3, tl, fz, h4, hfz, h5⟩ := h.own_ hk ho hz
  refine ⟨fun i x hx => ?_, h.apart⟩
  by_cases hik : i = k
  · subst hik
    rw [hk] at hx
    obtain rfl := Option.some.inj hx
    unfold RowR
    rw [ho]
    exact ⟨h1, fun _ => ⟨Nat.lt_of_lt_of_le h2 hc.size, h3, tl, fz' fz, h4, hf fz hfz, hh _ fz h5⟩⟩
  · exact (h.row i x hx).chg hc fun hxo hxz hm => h.apart i k x r hx hk hxo ho hik hxz hz (by simpa using hm)
theorem S_convB (d : Option Tmp) {e : TypeId} {b k n c rest : Nat} {cells : List Value} {K : Fr → Hp → Prop} (ho : o.op = .convert t t x) (ht : P.underlying t = some (.slice e)) (he : P.underlying e = some (.int .u8)) (hx : fr.ev x = some (.slice (some ⟨b, 0, none⟩) n c))
    (hk : H k = some ⟨true, b, 0, ty, cells, rest⟩) (hz : cells.length + rest ≠ 0) (h : K (fr.put E.n d (.slice (some ⟨b, 0, none⟩) n c)) H) (hd : o.dst = d := by rfl) : SStep P E true fr H o K := by
  subst hd
  intro a w R
  obtain ⟨_, e2, e3, tl, fz, e4, e5, e6⟩ := R.heap.own_ hk rfl hz
  dsimp only at e2 e3 e4 e5 e6
  have hrun : (execOp a.eval o).run P w = .ok (.value (.slice (some ⟨b, 0, none⟩) n c)) (w.freeze ⟨b, (cells ++ tl).length, none⟩ 1) := by
    unfold execOp
    have hs : w.shape? b = some (ty, (cells ++ tl).length) := by simp [World.shape?, e6]
    simp [ho, R.ev hx, convert, run_underlying ht, run_underlying he, markStringish, shape, Go.freeze, Sem.run, hs]
  unfold Oper.wp
  rw [hrun]
  have hc : Chg [b] w (w.freeze ⟨b, (cells ++ tl).length, none⟩ 1) := ⟨rfl, rfl, rfl, by simp [World.freeze], fun q _ hq => by
    have hq : b ≠ q := fun he => hq (by simp [he])
    simp [World.freeze, Array.getElem?_modify, hq]⟩
  have R' := R.put o.dst (.slice (some ⟨b, 0, none⟩) n c)
  refine ⟨fun hh => (by cases hh), _, _, h, R'.df, R'.size, R'.fr, R.chg.trans_new hc ?_, ?_⟩
  · intro q hq
    obtain rfl : q = b := by simpa using hq
    exact e3
  · refine R.heap.refz (fz' := fun z => if z.1 == z.2 then ((cells ++ tl).length, (cells ++ tl).length + 1) else (min z.1 (cells ++ tl).length, max z.2 ((cells ++ tl).length + 1))) hk rfl hz hc ?_ ?_
    · intro cs z hcs
      dsimp only at hcs ⊢
      obtain ⟨lo, hi⟩ := z
      simp [World.freeze, Array.getElem?_modify, hcs]
    · rintro ⟨lo, hi⟩ hz2
      right
      dsimp only at hz2 ⊢
      split
      · simp; omega
      · rename_i hne
        rcases hz2 with hz2 | hz2
        · simp at hz2 hne; omega
        · simp; omega

/-! ### A slice of parts, all told -/
def enumV : Nat → List Value → List (Nat × Value)
  | _, [] => []
  | k, v :: vs => (k, v) :: enumV (k + 1) vs
theorem fill_enum : ∀ (vs pre post : List Value), vs.length ≤ post.length → AllL (fun v => v.cells = #[v]) vs → Instr.fill (fun i => some (i * 1, 1)) (pre ++ post).toArray (enumV pre.length vs) = some (pre ++ vs ++ post.drop vs.length).toArray
  | [], pre, post, _, _ => by simp [enumV, Instr.fill]
  | v :: vs, pre, post, hl, h1 => by
    have hv : v.cells = #[v] := h1.mem v (by simp)
    have h2 : AllL (fun v => v.cells = #[v]) vs := by
      cases vs with
      | nil => exact trivial
      | cons u us => exact h1.2
    obtain ⟨p, post, rfl⟩ : ∃ p ps, post = p :: ps := by
      cases post with
      | nil => simp at hl
      | cons p ps => exact ⟨p, ps, rfl⟩
    have ih := fill_enum vs (pre ++ [v]) post (by simpa using hl) h2
    simp only [enumV, Instr.fill, hv]
    rw [if_neg (by simp)]
    have e : (#[v].zipIdx.foldl (fun cs (x : Value × Nat) => cs.setIfInBounds (pre.length * 1 + x.2) x.1) (pre ++ p :: post).toArray) = ((pre ++ [v]) ++ post).toArray := by
      simp
    have e2 : (List.foldl (fun cs (x : Value × Nat) => cs.setIfInBounds (pre.length * 1 + x.2) x.1) (pre ++ p :: post).toArray #[v].zipIdx.toList) = ((pre ++ [v]) ++ post).toArray := by
      simp
    simp only [List.length_append, List.length_cons, List.length_nil, Nat.zero_add] at ih
    rw [show Array.foldl (fun cs x => match x with | (c, j) => cs.setIfInBounds (pre.length * 1 + j) c) (pre ++ p :: post).toArray #[v].zipIdx = ((pre ++ [v]) ++ post).toArray from e, ih]
    simp
theorem S_buildSliceV (d : Option Tmp) (k : Nat) (vs : List Value) {e : TypeId} {n : Nat} {z : Value} {parts : List (Nat × Operand)} {K : Fr → Hp → Prop} (ho : o.op = .buildSlice t n parts.toArray) (ht : P.underlying t = some (.slice e)) (hz : tsz P e = some 1) (hzz : tze P e = some z) (hzc : z.cells.size = 1) (hn : vs.length = n) (hle : n * 1 ≤ 2 ^ 24) (h0 : n * 1 ≠ 0)
    (hp : parts.map (fun p => (p.1, fr.ev p.2)) = (enumV 0 vs).map (fun p => (p.1, some p.2))) (h1 : AllL (fun v => v.cells = #[v]) vs)
    (h : ∀ b, K (fr.put E.n d (.slice (some ⟨b, 0, none⟩) n n)) (H.set k ⟨true, b, 0, e, vs, 0⟩)) (hd : o.dst = d := by rfl) : SStep P E false fr H o K := by
  refine S_buildSlice d k ho ht hz hzz hle h0 hp ?_ h hd
  have hb : ((Array.range (n * 1)).map (z.cells[· % z.cells.size]!)) = ((Array.range (n * 1)).map (z.cells[· % z.cells.size]!)).toList.toArray := by apply Array.ext'; simp
  have := fill_enum vs [] ((Array.range (n * 1)).map (z.cells[· % z.cells.size]!)).toList (by simp; omega) h1
  simp only [List.nil_append, List.length_nil] at this
  rw [← hb] at this
  rw [this, List.drop_eq_nil_of_le (by simp; omega), List.append_nil]
theorem chunk_addr {p : Option Addr} {b q : Nat} (h : p = some ⟨b, q, none⟩) (n : Nat) : p.map (·.add n) = some ⟨b, q + n, none⟩ := by
  subst h
  simp [add_addr]

theorem SStep.up {any : Bool} {K : Fr → Hp → Prop} (h : SStep P E false fr H o K) : SStep P E any fr H o K := fun a w R =>
  RG.wp_monoQ (fun a' w' ⟨h1, h2⟩ => ⟨fun _ => h1 rfl, h2⟩) (fun _ _ _ h => h.elim) (fun ⟨_, _, h⟩ => h.elim) (h a w R)

variable {l : List Oper} {n : Nat} {segs : List RG.Seg} {is : List Nat} {i : Nat}
/-- A quiet call that stands behind a guard that holds. -/
theorem At.wcVg (d : Option Tmp) (views : List (Nat × Row)) {j : Nat} {want bb : Bool} {tt : Tmp} (hb : fr tt = some (.bool bb)) (hw : bb = want) (hg : (l.getD i default).guard = some (j, want)) (hj : (l.toArray[j]?).bind (·.dst) = some tt)
    {f : FuncId} {xs : List Operand} {tys : Array TypeId} {vs : List Value} (ho : (l.getD i default).op = .call ⟨.value (.func f), xs.toArray, tys⟩) (he : entersB P f = true) (ha : ArgsOk fr xs vs)
    (hV : ViewsOk H [] views) (hcon : Con P f vs (views.map (·.2)) fun u rows' => u = v ∧ rows' = [])
    (h' : At E (fr.put E.n d v) H (WX P l Q n (.q false is :: segs))) (hd : (l.getD i default).dst = d := by rfl) : At E fr H (WX P l Q n (.q false (i :: is) :: segs)) := by
  intro a w R
  subst hd
  refine W_cons (fun w' hw' Y hY => ?_) (h' _ w (R.put _ v))
  have hw' : RG.Ext w w' := by simpa using hw'
  show wpQuiet P l.toArray (RG.ClX w') Y [l.getD i default] a
  unfold wpQuiet
  rw [if_pos (by rw [wanted_of (E := E) (H := H) hg hj hb R, hw]; simp)]
  refine ⟨v, fun w2 hw2 => ?_, hY⟩
  unfold Oper.quietAt
  have R2 := R.below (RG.Ext.trans hw' hw2.ext)
  rw [run_call ho he ha R.fr w2]
  refine ⟨rfl, ?_⟩
  have hl0 := R2.heap.lift R2.chg [] views (by simp) (by simp) hV.mem
  simp only [List.map_nil, List.nil_append] at hl0
  refine (hcon w2 hl0).mono fun e w3 ⟨u, rows', h1, ⟨hu, _⟩, h3, h4, h5⟩ => ?_
  have hvo : ∀ p ∈ views, p.2.own = false := fun p hp => by
    rcases hV.mem p hp with h1 | ⟨_, r, _, h3, _⟩
    · exact h1.2
    · exact h3
  have hnil : ownB (views.map (·.2)) = [] := ownB_views fun r hr => by
    obtain ⟨p, hp, rfl⟩ := List.mem_map.1 hr
    exact hvo p hp
  rw [hnil] at h3
  exact ⟨hu ▸ h1, RG.ClX.mk (RG.Ext.trans hw2.ext h3.below)⟩

theorem P_conv_iwE {s d : TypeId} {k k' : IntKind} {n : Nat} {a : Int} {b : BitVec n} (hz : BitVec.ofInt n a = b) (hk : UK k n) (ho : o.op = .convert s d x) (hs : P.underlying s = some (.int k')) (hd : P.underlying d = some (.int k)) (hx : fr.ev x = some (.int k' a)) : PStep P fr o (.int k (b.toNat : Int)) :=
  hz ▸ P_conv_iw hk ho hs hd hx

/-! ### A small region that draws its order: all orders, one by one -/
theorem At.brute {id : Nat} (J : Fr → Hp → Prop) (hm : P.follows .mixedOrders = true)
    (h : ∀ K : Act → World → Prop, (∀ fr' H', J fr' H' → At E fr' H' K) → At E fr H (wpAny P .any l.toArray (Exit.then K Q) l.toArray.size (Array.replicate l.toArray.size false)))
    (h2 : ∀ fr' H', J fr' H' → At E fr' H' (Q .normal)) : At E fr H ((Code.region id l.toArray true).wp P Q) := by
  intro a w R
  have e : Exit.then (Q .normal) Q = Q := by
    funext e a w
    cases e <;> rfl
  have := h (Q .normal) h2 a w.drew R.drew
  rw [e] at this
  exact wp_region_any hm this
theorem At.anyStep {fuel : Nat} {listed : Array Bool} (rs : List Nat) (hr : Region.ready .any l.toArray listed = rs) (hne : rs ≠ []) (h : AllL (fun i => At E fr H (wpOp P l.toArray Q i (wpAny P .any l.toArray Q fuel (listed.setIfInBounds i true)))) rs) :
    At E fr H (wpAny P .any l.toArray Q (fuel + 1) listed) := by
  intro a w R
  refine ⟨fun h0 => absurd (hr.symm.trans h0) hne, fun i hi => ?_⟩
  rw [hr] at hi
  exact h.mem i hi a w R
theorem At.anyEnd {listed : Array Bool} (hr : Region.ready .any l.toArray listed = []) (h : At E fr H (Q .normal)) : At E fr H (wpAny P .any l.toArray Q 0 listed) := fun a w R => ⟨hr, h a w R⟩
theorem at_op {i : Nat} (h : i < l.length) : l.toArray[i]? = some (l.getD i default) := by simp [h]
theorem At.anyQ {K : Act → World → Prop} (d : Option Tmp) (h : QStep P E fr H (l.getD i default) v) (h' : At E (fr.put E.n d v) H K) (hi : i < l.length := by decide) (hg : (l.getD i default).guard = none := by rfl) (hd : (l.getD i default).dst = d := by rfl) : At E fr H (wpOp P l.toArray Q i K) := by
  intro a w R
  subst hd
  unfold wpOp
  rw [at_op hi]
  simp only [Region.wanted, hg, if_true]
  refine Or.inl ?_
  unfold Oper.wp
  rw [h a w R]
  exact h' _ _ (R.put _ v)
theorem At.anyP {K : Act → World → Prop} (d : Option Tmp) (h : PStep P fr (l.getD i default) v) (h' : At E (fr.put E.n d v) H K) (hi : i < l.length := by decide) (hg : (l.getD i default).guard = none := by rfl) (hd : (l.getD i default).dst = d := by rfl) : At E fr H (wpOp P l.toArray Q i K) := At.anyQ d h.q h' hi hg hd
theorem At.anyS {K : Act → World → Prop} {any : Bool} (h : SStep P E any fr H (l.getD i default) (fun fr' H' => At E fr' H' K)) (hi : i < l.length := by decide) (hg : (l.getD i default).guard = none := by rfl) : At E fr H (wpOp P l.toArray Q i K) := by
  intro a w R
  unfold wpOp
  rw [at_op hi]
  simp only [Region.wanted, hg, if_true]
  exact Or.inl (RG.wp_monoQ (fun a' w'' ⟨_, fr', H', h2, h3⟩ => h2 _ _ h3) (fun _ _ _ h => h.elim) (fun ⟨_, _, h⟩ => h.elim) (h a w R))
theorem P_min3 {k : IntKind} {p q r m : Int} {c : Call} {ts : Array TypeId} {z : Operand} (ho : o.op = .call c) (hc : c = ⟨.builtin .min, #[x, y, z], ts⟩) (hx : fr.ev x = some (.int k p)) (hy : fr.ev y = some (.int k q)) (hz : fr.ev z = some (.int k r)) (hm : min (min p q) r = m) : PStep P fr o (.int k m) := by
  intro a ha w; unfold execOp
  have h1 : (if q < p then q else p) = min p q := by omega
  have h2 : (if r < min p q then r else min p q) = m := by omega
  simp [ho, hc, ha.ev hx, ha.ev hy, ha.ev hz, resolve, invoke, builtin, Builtin.min_, Builtin.min2, h1, h2]
end
end SE
end Go
