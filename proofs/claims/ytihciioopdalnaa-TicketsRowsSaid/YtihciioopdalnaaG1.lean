import Derived.KernelRfl
import Derived.MapKept
import Derived.SizedLaws
import Derived.Test.YtihciioopdalnaaG0
/- All orders of a region that draws, by what is done so far; what only reads, or calls and leaves nothing, goes first. Generic (no program). -/
namespace Go
namespace SE
open Go.RowKit
set_option linter.unusedVariables false
set_option linter.unusedSimpArgs false
section
variable {P : Program} {E : Env} {fr : Fr} {H : Hp} {l : List Oper} {Q : Exit → Act → World → Prop} {v : Value} {i : Nat} {anyL : List Nat}
def EB (P : Program) (l : List Oper) (Q : Exit → Act → World → Prop) (anyL : List Nat) (f : Nat) (listed : Array Bool) : Act → World → Prop := fun a w =>
 HeadInv .any l.toArray l.toArray.size listed → RG.wpAnyE P .any l.toArray Q RG.Ext (fun j => anyL.contains j) l.toArray.size
  (fun listed a w => Region.ready .any l.toArray listed = [] ∧ ∀ w2, RG.Ext w w2 → Q .normal a w2) f listed a w
theorem At.into {T : Act → World → Prop} {l : List (Nat × Value)} {m : List (Nat × Row)} (h : At E (frOf l) (hOf m) T) (hf : l.map (fun p => fr p.1) = l.map (fun p => some p.2)) (hH : m.map (fun p => H p.1) = m.map (fun p => some p.2)) : At E fr H T :=
 h.weak (frOf_le fun p hp => List.map_inj_left.1 hf p hp) (hOf_le fun p hp => List.map_inj_left.1 hH p hp)
theorem At.bBruteG {id : Nat} (anyL : List Nat) (J : Fr → Hp → Prop) (hm : P.follows .mixedOrders = true)
  (h : ∀ K : Act → World → Prop, (∀ fr' H', J fr' H' → At E fr' H' K) → ∀ G : Nat → Array Bool → Fr → Hp → Prop, (∀ {f ls fr H}, G f ls fr H → At E fr H (EB P l (Exit.then K Q) anyL f ls)) → (∀ {f ls fr H}, At E fr H (EB P l (Exit.then K Q) anyL f ls) → G f ls fr H) → G l.length (Array.replicate l.toArray.size false) fr H)
  (h2 : ∀ fr' H', J fr' H' → At E fr' H' (Q .normal)) : At E fr H ((Code.region id l.toArray true).wp P Q) := by
 intro a w R
 have e : Exit.then (Q .normal) Q = Q := by
  funext e a w
  cases e <;> rfl
 have := h (Q .normal) h2 (fun f ls fr H => At E fr H (EB P l (Exit.then (Q .normal) Q) anyL f ls)) (fun h => h) (fun h => h) a w.drew R.drew
 rw [e] at this
 refine wp_region_any hm ?_
 have h3 := RG.wpAny_of_E (g := 0) (fun a => RG.Ext.refl a) (fun listed a w hL => ⟨hL.1, hL.2 w (RG.Ext.refl w)⟩) _ _ _ _ (this RG.inv0)
 simpa using h3
theorem At.bEnd {listed : Array Bool} (hr : Region.ready .any l.toArray listed = []) (h : At E fr H (Q .normal)) : At E fr H (EB P l Q anyL 0 listed) :=
 fun a w R _ => ⟨hr, fun w2 h2 => h a w2 (R.below h2)⟩
/-- One act's step. -/
def StepB (P : Program) (E : Env) (l : List Oper) (Q : Exit → Act → World → Prop) (anyL : List Nat) (fr : Fr) (H : Hp) (i : Nat) (K : Act → World → Prop) : Prop :=
 ∀ a w, Rep E fr H a w → wpOp P l.toArray (RG.QX Q) i (fun a' w'' => (anyL.contains i = false → RG.Ext w w'') ∧ K a' w'') a w
theorem At.bStep {fuel : Nat} {listed : Array Bool} (rs : List Nat) (hr : Region.ready .any l.toArray listed = rs) (hne : rs ≠ []) (h : AllL (fun i => StepB P E l Q anyL fr H i (EB P l Q anyL fuel (listed.setIfInBounds i true))) rs) :
  At E fr H (EB P l Q anyL (fuel + 1) listed) := by
 intro a w R inv
 refine ⟨fun h0 => absurd (hr.symm.trans h0) hne, fun w' hw' i hi => ?_⟩
 have hin : i < l.toArray.size := by
  obtain ⟨_, o, ho, _⟩ := mem_ready.1 hi
  exact (Array.getElem?_eq_some_iff.1 ho).1
 exact ⟨hin, wpOp_mono (fun a' w'' h3 => ⟨h3.1, h3.2 (inv.set hi hin)⟩) (h.mem i (by rw [← hr]; exact hi) a w' (R.below hw'))⟩
theorem At.bS {K : Act → World → Prop} (any : Bool) (hb : anyL.contains i = any) (h : SStep P E any fr H (l.getD i default) (fun fr' H' => At E fr' H' K)) (hi : i < l.length := by decide) (hg : (l.getD i default).guard = none := by rfl) : StepB P E l Q anyL fr H i K := by
 intro a w R
 unfold wpOp
 rw [at_op hi]
 simp only [Region.wanted, hg, if_true]
 exact Or.inl (RG.wp_monoQ (fun a' w'' ⟨h0, fr', H', h2, h3⟩ => ⟨fun hc => h0 (hb.symm.trans hc), h2 _ _ h3⟩) (fun _ _ _ h => h.elim) (fun ⟨_, _, h⟩ => h.elim) (h a w R))
/-- What reads, in any order. -/
theorem At.bSQ {K : Act → World → Prop} (d : Option Tmp) (h : QStep P E fr H (l.getD i default) v) (h' : At E (fr.put E.n d v) H K) (hi : i < l.length := by decide) (hg : (l.getD i default).guard = none := by rfl) (hd : (l.getD i default).dst = d := by rfl) : StepB P E l Q anyL fr H i K := by
 intro a w R
 unfold wpOp
 rw [at_op hi]
 simp only [Region.wanted, hg, if_true]
 refine Or.inl ?_
 unfold Oper.wp
 rw [h a w R]
 subst hd
 exact ⟨fun _ => RG.Ext.refl w, h' _ _ (R.put _ v)⟩
/-- Something quiet may go first. -/
theorem bFirst {fuel : Nat} {listed : Array Bool} (s : Bool) (i : Nat) (hsel : Region.noSelect l.toArray = true) (hB : RG.lexQ .any l.toArray l.toArray.size anyL s [i] listed = true)
  (hy : ∀ a w, Rep E fr H a w → ∀ w', (s = true ∨ RG.Ext w w') → wpQuiet P l.toArray (RG.ClX w') (fun a' => a' = a.put (l.getD i default).dst v) [l.getD i default] a)
  (h' : At E (fr.put E.n (l.getD i default).dst v) H (EB P l Q anyL fuel (listed.setIfInBounds i true))) : At E fr H (EB P l Q anyL (fuel + 1) listed) := by
 intro a w R inv
 have hwt : RG.waitB .any l.toArray l.toArray.size = true := by simp [RG.waitB]
 obtain ⟨hn, hw⟩ := RG.waitB_spec hwt
 exact RG.batch (s := s) (anyL := anyL) (n := l.toArray.size) (A := a.put (l.getD i default).dst v) (R := RG.Ext) (Cl := RG.ClX) (f := fuel) hsel hw hn (fun _ _ _ h k => RG.Ext.trans h k) (fun a b h => h) (fun w => RG.ClX.mk (RG.Ext.refl w)) (fun w x h => h.ext)
  (fun listed a w w' hL hr => ⟨hL.1, fun w2 h2 => hL.2 w2 (RG.Ext.trans hr h2)⟩) (fun listed a w hL j hj => by rw [hL.1] at hj; cases hj) [i] listed a inv hB (hy a w R) (fun inv' => h' _ w (R.put _ v) inv')
theorem wantedN {ops : Array Oper} {o : Oper} {t : Array Value} (hg : o.guard = none) : Region.wanted o (yielded ops t) = true := by unfold Region.wanted; rw [hg]
theorem At.bP {fuel : Nat} {listed : Array Bool} (i : Nat) (d : Option Tmp) (h : PStep P fr (l.getD i default) v) (hsel : Region.noSelect l.toArray = true) (hB : RG.lexQ .any l.toArray l.toArray.size anyL true [i] listed = true)
  (h' : At E (fr.put E.n d v) H (EB P l Q anyL fuel (listed.setIfInBounds i true))) (hg : (l.getD i default).guard = none := by rfl) (hd : (l.getD i default).dst = d := by rfl) : At E fr H (EB P l Q anyL (fuel + 1) listed) := by
 subst hd
 refine bFirst true i hsel hB (fun a w R w' _ => ?_) h'
 unfold wpQuiet
 rw [if_pos (wantedN hg)]
 exact ⟨v, fun w2 hw2 => by unfold Oper.quietAt; rw [h a R.fr w2]; exact ⟨rfl, rfl⟩, rfl⟩
theorem At.bQ {fuel : Nat} {listed : Array Bool} (i : Nat) (d : Option Tmp) (h : QStep P E fr H (l.getD i default) v) (hsel : Region.noSelect l.toArray = true) (hB : RG.lexQ .any l.toArray l.toArray.size anyL false [i] listed = true)
  (h' : At E (fr.put E.n d v) H (EB P l Q anyL fuel (listed.setIfInBounds i true))) (hg : (l.getD i default).guard = none := by rfl) (hd : (l.getD i default).dst = d := by rfl) : At E fr H (EB P l Q anyL (fuel + 1) listed) := by
 subst hd
 refine bFirst false i hsel hB (fun a w R w' hw' => ?_) h'
 have hw' : RG.Ext w w' := by simpa using hw'
 unfold wpQuiet
 rw [if_pos (wantedN hg)]
 exact ⟨v, fun w2 hw2 => by unfold Oper.quietAt; rw [h a w2 (R.below (RG.Ext.trans hw' hw2.ext))]; exact ⟨rfl, rfl⟩, rfl⟩
end
end SE
end Go


/- A region that draws its order, whatever the order: what each operation makes, each told once. Generic (no program). -/
namespace Go
namespace SE
open Go.RowKit
set_option linter.unusedVariables false
set_option linter.unusedSimpArgs false
/-- What an operation makes: a value; a new row; a row's cells. -/
inductive OK where
 | q (v : Value)
 | al (lab : Nat) (ty : TypeId) (cs : List Value)
 | st (lab : Nat) (b0 : Option Nat) (ty : TypeId) (cs : List Value) (rest : Nat)
instance : Inhabited OK := ⟨.q undef⟩
def bOf (A : Nat → Nat) (lab : Nat) : Option Nat → Nat
 | some b => b
 | none => A lab
def OK.val (A : Nat → Nat) : OK → Option Value
 | .q v => some v
 | .al lab _ _ => some (.pointer (some ⟨A lab, 0, none⟩))
 | .st _ _ _ _ _ => none
def OK.isAl (k : Nat) : OK → Bool
 | .al lab _ _ => Nat.beq lab k
 | _ => false
def OK.isSt (k : Nat) : OK → Bool
 | .st lab _ _ _ _ => Nat.beq lab k
 | _ => false
def onsB (o : Oper) : List Nat := (o.after.toList.filter (Region.binds .any)).map (·.on)
def ancB (l : List Oper) : Nat → Nat → Nat → Bool
 | 0, _, _ => false
 | f + 1, j, i => (onsB (l.getD j default)).any fun e => Nat.beq e i || ancB l f e i
def isDst (o : Oper) (s : Nat) : Bool := match o.dst with
 | some d => Nat.beq d s
 | none => false
def dstB (l : List Oper) (s : Nat) : Bool := l.any fun o => isDst o s
def dstFree (l : List Oper) (j : Nat) : Bool := match (l.getD j default).dst with
 | none => true
 | some d => (List.range l.length).all fun j' => Nat.beq j' j || !isDst (l.getD j' default) d
def kindFree (l : List Oper) (ks : List OK) (j : Nat) : Bool := match ks.getD j default with
 | .q _ => true
 | .al lab _ _ => (List.range l.length).all fun j' => (Nat.beq j' j || !(ks.getD j' default).isAl lab) && (!(ks.getD j' default).isSt lab || (match ks.getD j' default with
  | .st _ none _ _ _ => ancB l l.length j' j
  | _ => false))
 | .st lab b0 _ _ _ => (l.getD j default).dst.isNone && (List.range l.length).all fun j' => Nat.beq j' j || !(ks.getD j' default).isSt lab
def okO (l : List Oper) (ks : List OK) : Bool :=
 Nat.beq ks.length l.length && (List.range l.length).all fun j => (onsB (l.getD j default)).all (fun e => Nat.blt e j) && dstFree l j && kindFree l ks j
/-- Who asks for the row comes first. -/
def touchB (l : List Oper) (ks : List OK) (i k : Nat) : Bool := (List.range l.length).all fun j => Nat.beq j i || !((ks.getD j default).isAl k || (ks.getD j default).isSt k) || ancB l l.length j i
def writeB (l : List Oper) (ks : List OK) (i k : Nat) : Bool := (List.range l.length).all fun j => Nat.beq j i || !(ks.getD j default).isSt k || ancB l l.length j i

structure OInv (l : List Oper) (ks : List OK) (fr : Fr) (H : Hp) (L : Array Bool) (A : Nat → Nat) (fr' : Fr) (H' : Hp) : Prop where
 init : ∀ s v, fr s = some v → dstB l s = false → fr' s = some v
 done : ∀ j d v, j < l.length → L.getD j false = true → (l.getD j default).dst = some d → (ks.getD j default).val A = some v → fr' d = some v
 row0 : ∀ k r, H k = some r → (∀ j, j < l.length → (ks.getD j default).isAl k = true ∨ (ks.getD j default).isSt k = true → L.getD j false = false) → H' k = some r
 rowA : ∀ j lab ty cs, j < l.length → ks.getD j default = .al lab ty cs → L.getD j false = true → (∀ j', j' < l.length → (ks.getD j' default).isSt lab = true → L.getD j' false = false) → H' lab = some ⟨true, A lab, 0, ty, cs, 0⟩
 rowS : ∀ j lab b0 ty cs rest, j < l.length → ks.getD j default = .st lab b0 ty cs rest → L.getD j false = true → H' lab = some ⟨true, bOf A lab b0, 0, ty, cs, rest⟩
structure ORdy (l : List Oper) (L : Array Bool) (i : Nat) : Prop where
 closed : ∀ j, j < l.length → L.getD j false = true → ∀ e ∈ onsB (l.getD j default), L.getD e false = true ∧ e < l.length
 lt : i < l.length
 un : L.getD i false = false
 ons : ∀ e ∈ onsB (l.getD i default), L.getD e false = true ∧ e < l.length

theorem anc_listed {l : List Oper} {L : Array Bool} (hc : ∀ j, j < l.length → L.getD j false = true → ∀ e ∈ onsB (l.getD j default), L.getD e false = true ∧ e < l.length) :
  ∀ (f j i : Nat), (∀ e ∈ onsB (l.getD j default), L.getD e false = true ∧ e < l.length) → ancB l f j i = true → L.getD i false = true
 | 0, j, i, _, h => by simp [ancB] at h
 | f + 1, j, i, ho, h => by
  unfold ancB at h
  obtain ⟨e, he, h⟩ := List.any_eq_true.1 h
  rcases Bool.or_eq_true_iff.1 h with h | h
  · rw [← Nat.eq_of_beq_eq_true h]; exact (ho e he).1
  · exact anc_listed hc f e i (hc e (ho e he).2 (ho e he).1) h

section
variable {l : List Oper} {ks : List OK} {fr fr' : Fr} {H H' : Hp} {L : Array Bool} {A : Nat → Nat} {i : Nat}
theorem ORdy.anc (R : ORdy l L i) {j : Nat} (h : ancB l l.length i j = true) : L.getD j false = true := anc_listed R.closed _ _ _ R.ons h
theorem ORdy.not (R : ORdy l L i) {j : Nat} (hj : j < l.length) (h : (Nat.beq j i || ancB l l.length j i) = true) : L.getD j false = false := by
 rcases Bool.or_eq_true_iff.1 h with h | h
 · rw [Nat.eq_of_beq_eq_true h]; exact R.un
 ·
  cases hL : L.getD j false with
  | false => rfl
  | true =>
   have h1 := anc_listed R.closed _ _ _ (R.closed j hj hL) h
   rw [R.un] at h1; cases h1
theorem OInv.slotD (I : OInv l ks fr H L A fr' H') (R : ORdy l L i) (j : Nat) {d : Nat} {v : Value} (hj : (Nat.blt j l.length && ancB l l.length i j) = true) (hd : (l.getD j default).dst = some d) (hv : (ks.getD j default).val A = some v) : fr' d = some v := by
 rw [Bool.and_eq_true] at hj
 exact I.done j d v (by simpa using hj.1) (R.anc hj.2) hd hv
theorem OInv.get0 (I : OInv l ks fr H L A fr' H') (R : ORdy l L i) {k : Nat} {r : Row} (h : H k = some r) (ht : touchB l ks i k = true) : H' k = some r := by
 refine I.row0 k r h fun j hj hk => R.not hj ?_
 have h1 := List.all_eq_true.1 ht j (List.mem_range.2 hj)
 rcases hk with hk | hk <;> rw [hk] at h1 <;> simpa using h1
theorem OInv.getA (I : OInv l ks fr H L A fr' H') (R : ORdy l L i) (j : Nat) {lab : Nat} {ty : TypeId} {cs : List Value} (hj : (Nat.blt j l.length && ancB l l.length i j && writeB l ks i lab) = true) (hk : ks.getD j default = .al lab ty cs) : H' lab = some ⟨true, A lab, 0, ty, cs, 0⟩ := by
 rw [Bool.and_eq_true, Bool.and_eq_true] at hj
 refine I.rowA j lab ty cs (by simpa using hj.1.1) hk (R.anc hj.1.2) fun j' hj' hs => R.not hj' ?_
 have h1 := List.all_eq_true.1 hj.2 j' (List.mem_range.2 hj')
 rw [hs] at h1
 simpa using h1
end

/-- A step that yields a value and leaves what was there. -/
def OStep (P : Program) (E : Env) (fr : Fr) (H : Hp) (o : Oper) (v : Value) : Prop := ∀ a w, Rep E fr H a w → o.wp P a w (fun a' w' => a' = a.put o.dst v ∧ RG.Ext w w') (fun _ _ _ => False)
theorem QStep.o {P : Program} {E : Env} {fr : Fr} {H : Hp} {o : Oper} {v : Value} (h : QStep P E fr H o v) : OStep P E fr H o v := fun a w R => by
 unfold Oper.wp
 rw [h a w R]
 exact ⟨rfl, RG.Ext.refl w⟩
theorem PStep.o {P : Program} {E : Env} {fr : Fr} {H : Hp} {o : Oper} {v : Value} (h : PStep P fr o v) : OStep P E fr H o v := h.q.o
theorem OStep.weak {P : Program} {E : Env} {fr : Fr} {H : Hp} {o : Oper} {v : Value} {sl : List (Nat × Value)} {rw_ : List (Nat × Row)} (hs : AllL (fun p => fr p.1 = some p.2) sl) (hr : AllL (fun p => H p.1 = some p.2) rw_) (h : OStep P E (frOf sl) (hOf rw_) o v) : OStep P E fr H o v :=
 At.weak (T := fun a w => o.wp P a w (fun a' w' => a' = a.put o.dst v ∧ RG.Ext w w') (fun _ _ _ => False)) (frOf_le hs.mem) (hOf_le hr.mem) h
theorem O_call {P : Program} {E : Env} {fr : Fr} {H : Hp} {v : Value} {o : Oper} {f : FuncId} {xs : List Operand} {tys : Array TypeId} (views : List (Nat × Row)) {vs : List Value} (ho : o.op = .call ⟨.value (.func f), xs.toArray, tys⟩) (he : entersB P f = true) (ha : ArgsOk fr xs vs)
  (hV : ViewsOk H [] views) (hcon : Con P f vs (views.map (·.2)) fun u rows' => u = v ∧ rows' = []) : OStep P E fr H o v := fun a w R => by
 unfold Oper.wp
 rw [run_call ho he ha R.fr w]
 have hl0 := R.heap.lift R.chg [] views (by simp) (by simp) hV.mem
 simp only [List.map_nil, List.nil_append] at hl0
 refine (hcon w hl0).mono fun e w3 ⟨u, rows', h1, ⟨hu, _⟩, h3, h4, h5⟩ => ?_
 have hvo : ∀ p ∈ views, p.2.own = false := fun p hp => by
  rcases hV.mem p hp with h1 | ⟨_, r, _, h3, _⟩
  · exact h1.2
  · exact h3
 have hnil : ownB (views.map (·.2)) = [] := ownB_views fun r hr => by
  obtain ⟨p, hp, rfl⟩ := List.mem_map.1 hr
  exact hvo p hp
 rw [hnil] at h3
 subst h1 hu
 exact ⟨rfl, h3.below⟩

/-- What is owed of an operation. -/
def OGoal (P : Program) (E : Env) (fr : Fr) (H : Hp) (A : Nat → Nat) (o : Oper) : OK → Prop
 | .q v => OStep P E fr H o v
 | .al _ ty cs => ∃ z, o.op = .alloc ty ∧ tze P ty = some z ∧ z.cells.toList = cs
 | .st lab b0 ty cs rest => SStep P E true fr H o fun fr' H' => fr' = fr ∧ H' = H.set lab ⟨true, bOf A lab b0, 0, ty, cs, rest⟩

theorem OGoal.q {P : Program} {E : Env} {fr : Fr} {H : Hp} {A : Nat → Nat} {o : Oper} {k : OK} {v : Value} (hk : k = .q v) (h : OStep P E fr H o v) : OGoal P E fr H A o k := by subst hk; exact h
theorem OGoal.al {P : Program} {E : Env} {fr : Fr} {H : Hp} {A : Nat → Nat} {o : Oper} {k : OK} {lab : Nat} {ty : TypeId} {cs : List Value} {z : Value} (hk : k = .al lab ty cs) (ho : o.op = .alloc ty) (hz : tze P ty = some z) (hc : z.cells.toList = cs) : OGoal P E fr H A o k := by subst hk; exact ⟨z, ho, hz, hc⟩
theorem OGoal.st {P : Program} {E : Env} {fr : Fr} {H : Hp} {A : Nat → Nat} {o : Oper} {k : OK} {lab : Nat} {b0 : Option Nat} {ty : TypeId} {cs : List Value} {rest : Nat} (hk : k = .st lab b0 ty cs rest) (h : SStep P E true fr H o fun fr' H' => fr' = fr ∧ H' = H.set lab ⟨true, bOf A lab b0, 0, ty, cs, rest⟩) : OGoal P E fr H A o k := by subst hk; exact h

/-- The frame and the rows when all is done. -/
def ovr (A : Nat → Nat) : List Oper → List OK → Fr → Fr
 | o :: l, k :: ks, fr => match o.dst with
  | some d => fun s => match Nat.beq s d with
   | true => k.val A
   | false => ovr A l ks fr s
  | none => ovr A l ks fr
 | _, _, fr => fr
def stR (A : Nat → Nat) (k : Nat) : List OK → Option Row
 | [] => none
 | .st lab b0 ty cs rest :: ks => match Nat.beq lab k with
  | true => some ⟨true, bOf A lab b0, 0, ty, cs, rest⟩
  | false => stR A k ks
 | _ :: ks => stR A k ks
def alR (A : Nat → Nat) (k : Nat) : List OK → Option Row
 | [] => none
 | .al lab ty cs :: ks => match Nat.beq lab k with
  | true => some ⟨true, A lab, 0, ty, cs, 0⟩
  | false => alR A k ks
 | _ :: ks => alR A k ks
def hovr (A : Nat → Nat) (ks : List OK) (H : Hp) : Hp := fun k => match stR A k ks with
 | some r => some r
 | none => match alR A k ks with
  | some r => some r
  | none => H k

theorem ovr_some {A : Nat → Nat} {fr : Fr} {s : Nat} {v : Value} : ∀ {l : List Oper} {ks : List OK}, ks.length = l.length → ovr A l ks fr s = some v →
  (∃ j, j < l.length ∧ (l.getD j default).dst = some s ∧ (ks.getD j default).val A = some v) ∨ (fr s = some v ∧ dstB l s = false)
 | [], [], _, h => .inr ⟨h, rfl⟩
 | [], _ :: _, hl, _ => by simp at hl
 | _ :: _, [], hl, _ => by simp at hl
 | o :: l, k :: ks, hl, h => by
  have hl' : ks.length = l.length := by simpa using hl
  have up : ∀ {v : Value}, (isDst o s = false) → ovr A l ks fr s = some v → (∃ j, j < (o :: l).length ∧ ((o :: l).getD j default).dst = some s ∧ ((k :: ks).getD j default).val A = some v) ∨ (fr s = some v ∧ dstB (o :: l) s = false) := fun hd hv => by
   rcases ovr_some hl' hv with ⟨j, h1, h2, h3⟩ | ⟨h1, h2⟩
   · exact .inl ⟨j + 1, by simpa using h1, by simpa using h2, by simpa using h3⟩
   · exact .inr ⟨h1, by unfold dstB at *; simp [hd]; simpa using h2⟩
  cases hd : o.dst with
  | some d =>
   simp only [ovr, hd] at h
   split at h
   ·
    rename_i hb
    have hb : s = d := Nat.eq_of_beq_eq_true hb
    subst hb
    exact .inl ⟨0, by simp, by simpa using hd, by simpa using h⟩
   ·
    rename_i hb
    refine up ?_ h
    unfold isDst
    rw [hd]
    exact bnf (fun e => bne hb e.symm)
  | none =>
   simp only [ovr, hd] at h
   refine up ?_ h
   unfold isDst
   rw [hd]
theorem stR_some {A : Nat → Nat} {k : Nat} {r : Row} : ∀ {ks : List OK}, stR A k ks = some r → ∃ j b0 ty cs rest, j < ks.length ∧ ks.getD j default = .st k b0 ty cs rest ∧ r = ⟨true, bOf A k b0, 0, ty, cs, rest⟩
 | [], h => by simp [stR] at h
 | .st lab b0 ty cs rest :: ks, h => by
  unfold stR at h
  split at h
  ·
   rename_i hb
   have hb := Nat.eq_of_beq_eq_true hb
   subst hb
   exact ⟨0, b0, ty, cs, rest, by simp, by simp, (Option.some.inj h).symm⟩
  ·
   obtain ⟨j, b1, ty', cs', rest', h1, h2, h3⟩ := stR_some h
   exact ⟨j + 1, b1, ty', cs', rest', by simpa using h1, by simpa using h2, h3⟩
 | .q _ :: ks, h => by
  obtain ⟨j, b1, ty', cs', rest', h1, h2, h3⟩ := stR_some (ks := ks) h
  exact ⟨j + 1, b1, ty', cs', rest', by simpa using h1, by simpa using h2, h3⟩
 | .al _ _ _ :: ks, h => by
  obtain ⟨j, b1, ty', cs', rest', h1, h2, h3⟩ := stR_some (ks := ks) h
  exact ⟨j + 1, b1, ty', cs', rest', by simpa using h1, by simpa using h2, h3⟩
theorem stR_none {A : Nat → Nat} {k : Nat} : ∀ {ks : List OK}, stR A k ks = none → ∀ j, (ks.getD j default).isSt k = false
 | [], h, j => by simp [OK.isSt, default]
 | .st lab b0 ty cs rest :: ks, h, j => by
  unfold stR at h
  split at h
  · cases h
  ·
   rename_i hb
   cases j with
   | zero => simpa [OK.isSt] using hb
   | succ j => simpa using stR_none h j
 | .q _ :: ks, h, j => by
  cases j with
  | zero => simp [OK.isSt]
  | succ j => simpa using stR_none (ks := ks) h j
 | .al _ _ _ :: ks, h, j => by
  cases j with
  | zero => simp [OK.isSt]
  | succ j => simpa using stR_none (ks := ks) h j
theorem alR_some {A : Nat → Nat} {k : Nat} {r : Row} : ∀ {ks : List OK}, alR A k ks = some r → ∃ j ty cs, j < ks.length ∧ ks.getD j default = .al k ty cs ∧ r = ⟨true, A k, 0, ty, cs, 0⟩
 | [], h => by simp [alR] at h
 | .al lab ty cs :: ks, h => by
  unfold alR at h
  split at h
  ·
   rename_i hb
   have hb := Nat.eq_of_beq_eq_true hb
   subst hb
   exact ⟨0, ty, cs, by simp, by simp, (Option.some.inj h).symm⟩
  ·
   obtain ⟨j, ty', cs', h1, h2, h3⟩ := alR_some h
   exact ⟨j + 1, ty', cs', by simpa using h1, by simpa using h2, h3⟩
 | .q _ :: ks, h => by
  obtain ⟨j, ty', cs', h1, h2, h3⟩ := alR_some (ks := ks) h
  exact ⟨j + 1, ty', cs', by simpa using h1, by simpa using h2, h3⟩
 | .st _ _ _ _ _ :: ks, h => by
  obtain ⟨j, ty', cs', h1, h2, h3⟩ := alR_some (ks := ks) h
  exact ⟨j + 1, ty', cs', by simpa using h1, by simpa using h2, h3⟩
theorem alR_none {A : Nat → Nat} {k : Nat} : ∀ {ks : List OK}, alR A k ks = none → ∀ j, (ks.getD j default).isAl k = false
 | [], h, j => by simp [OK.isAl, default]
 | .al lab ty cs :: ks, h, j => by
  unfold alR at h
  split at h
  · cases h
  ·
   rename_i hb
   cases j with
   | zero => simpa [OK.isAl] using hb
   | succ j => simpa using alR_none h j
 | .q _ :: ks, h, j => by
  cases j with
  | zero => simp [OK.isAl]
  | succ j => simpa using alR_none (ks := ks) h j
 | .st _ _ _ _ _ :: ks, h, j => by
  cases j with
  | zero => simp [OK.isAl]
  | succ j => simpa using alR_none (ks := ks) h j

theorem cnt_one {f g : Nat → Bool} {i : Nat} (hf : f i = true) (hg : g i = false) (hne : ∀ j, j ≠ i → f j = g j) : ∀ n, i < n → (List.range n).countP f = (List.range n).countP g + 1
 | 0, h => by omega
 | n + 1, h => by
  rw [List.range_succ, List.countP_append, List.countP_append]
  by_cases hi : i = n
  ·
   subst hi
   have : (List.range i).countP f = (List.range i).countP g := List.countP_congr fun j hj => by rw [hne j (by have := List.mem_range.1 hj; omega)]
   simp [this, hf, hg]
  ·
   have h1 := cnt_one hf hg hne n (by omega)
   have h2 := hne n (Ne.symm hi)
   simp only [h1, List.countP_cons, List.countP_nil, h2]
   omega
theorem least {f : Nat → Bool} : ∀ (j : Nat), f j = false → ∃ i, i ≤ j ∧ f i = false ∧ ∀ k, k < i → f k = true := by
 intro j
 induction j using Nat.strongRecOn with
 | _ j ih =>
  intro hj
  by_cases h : ∃ k, k < j ∧ f k = false
  ·
   obtain ⟨k, h1, h2⟩ := h
   obtain ⟨i, h3, h4, h5⟩ := ih k h1 h2
   exact ⟨i, by omega, h4, h5⟩
  ·
   refine ⟨j, Nat.le_refl _, hj, fun k hk => ?_⟩
   cases hf : f k with
   | true => rfl
   | false => exact absurd ⟨k, hk, hf⟩ h

section
variable {l : List Oper} {ks : List OK} {fr fr' : Fr} {H H' : Hp} {L : Array Bool} {A : Nat → Nat} {i : Nat} {n : Nat}
theorem okO_spec (h : okO l ks = true) : ks.length = l.length ∧ ∀ j, j < l.length → (∀ e ∈ onsB (l.getD j default), e < j) ∧ dstFree l j = true ∧ kindFree l ks j = true := by
 unfold okO at h
 rw [Bool.and_eq_true] at h
 refine ⟨Nat.eq_of_beq_eq_true h.1, fun j hj => ?_⟩
 have h1 := List.all_eq_true.1 h.2 j (List.mem_range.2 hj)
 rw [Bool.and_eq_true, Bool.and_eq_true] at h1
 exact ⟨fun e he => by simpa using List.all_eq_true.1 h1.1.1 e he, h1.1.2, h1.2⟩
theorem dstFree_ne {d : Nat} (h : dstFree l i = true) (hi : (l.getD i default).dst = some d) {j : Nat} (hj : j < l.length) (hne : j ≠ i) : (l.getD j default).dst ≠ some d := by
 unfold dstFree at h
 rw [hi] at h
 have h1 := List.all_eq_true.1 h j (List.mem_range.2 hj)
 rw [bnf hne, Bool.false_or] at h1
 intro he
 unfold isDst at h1
 rw [he] at h1
 simp at h1
theorem put_same {d : Nat} {v : Value} (hd : d < n) : Fr.put n fr (some d) v d = some v := by
 have : Nat.blt d n = true := by simpa using hd
 simp [Fr.put, this]
theorem put_ne {d s : Nat} {v : Value} (hd : s ≠ d) : Fr.put n fr (some d) v s = fr s := by simp [Fr.put, bnf hd]
theorem set_back {j : Nat} (h : (L.setIfInBounds i true).getD j false = false) : L.getD j false = false := by
 cases hL : L.getD j false with
 | false => rfl
 | true => rw [getD_set_true hL] at h; cases h
theorem set_ne {j : Nat} (hne : j ≠ i) (h : (L.setIfInBounds i true).getD j false = true) : L.getD j false = true := by rwa [getD_set_ne false (Ne.symm hne)] at h
theorem set_at (hi : i < L.size) : (L.setIfInBounds i true).getD i false = true := by simp [hi]

/-- The frame's part of a step. -/
theorem OInv.fr_step (I : OInv l ks fr H L A fr' H') {A' : Nat → Nat} (hi : i < l.length) (hdf : dstFree l i = true) (v : Value) (hv : (l.getD i default).dst.isSome = true → (ks.getD i default).val A' = some v) (hlt : ∀ d, (l.getD i default).dst = some d → d < n)
  (hA : ∀ j, j < l.length → j ≠ i → (ks.getD j default).val A' = (ks.getD j default).val A) :
  (∀ s v', fr s = some v' → dstB l s = false → fr'.put n (l.getD i default).dst v s = some v') ∧
  (∀ j d v', j < l.length → (L.setIfInBounds i true).getD j false = true → (l.getD j default).dst = some d → (ks.getD j default).val A' = some v' → fr'.put n (l.getD i default).dst v d = some v') := by
 cases hd : (l.getD i default).dst with
 | none =>
  refine ⟨fun s v' h1 h2 => I.init s v' h1 h2, fun j d v' hj hL hjd hjv => ?_⟩
  have hne : j ≠ i := fun e => by subst e; rw [hd] at hjd; cases hjd
  exact I.done j d v' hj (set_ne hne hL) hjd (by rw [← hA j hj hne]; exact hjv)
 | some d =>
  refine ⟨fun s v' h1 h2 => ?_, fun j d' v' hj hL hjd hjv => ?_⟩
  ·
   rw [put_ne]
   · exact I.init s v' h1 h2
   ·
    rintro rfl
    have h3 : dstB l s = true := by
     unfold dstB
     refine List.any_eq_true.2 ⟨l.getD i default, ?_, ?_⟩
     · simp [hi]
     · unfold isDst; rw [hd]; simp
    rw [h2] at h3; cases h3
  ·
   by_cases hne : j = i
   ·
    subst hne
    rw [hd] at hjd
    cases hjd
    have h4 := hv (by rw [hd]; rfl)
    rw [hjv] at h4
    rw [put_same (hlt _ hd)]
    exact h4.symm
   ·
    rw [put_ne]
    · exact I.done j d' v' hj (set_ne hne hL) hjd (by rw [← hA j hj hne]; exact hjv)
    ·
     rintro rfl
     exact dstFree_ne hdf hd hj hne hjd
theorem OInv.q (I : OInv l ks fr H L A fr' H') (hi : i < l.length) (hdf : dstFree l i = true) {v : Value} (hk : ks.getD i default = .q v) (hlt : ∀ d, (l.getD i default).dst = some d → d < n) :
  OInv l ks fr H (L.setIfInBounds i true) A (fr'.put n (l.getD i default).dst v) H' := by
 obtain ⟨h1, h2⟩ := I.fr_step (A' := A) hi hdf v (fun _ => by rw [hk]; rfl) hlt (fun _ _ _ => rfl)
 refine ⟨h1, h2, fun k r hr hj => I.row0 k r hr fun j hj' ht => set_back (hj j hj' ht), fun j lab ty cs hj hkj hL hn => ?_, fun j lab b0 ty cs rest hj hkj hL => ?_⟩
 ·
  have hne : j ≠ i := fun e => by subst e; rw [hk] at hkj; cases hkj
  exact I.rowA j lab ty cs hj hkj (set_ne hne hL) fun j' hj' hs => set_back (hn j' hj' hs)
 ·
  have hne : j ≠ i := fun e => by subst e; rw [hk] at hkj; cases hkj
  exact I.rowS j lab b0 ty cs rest hj hkj (set_ne hne hL)
theorem OInv.al (I : OInv l ks fr H L A fr' H') (R : ORdy l L i) (hs : i < L.size) (hdf : dstFree l i = true) (hkf : kindFree l ks i = true) {lab : Nat} {ty : TypeId} {cs : List Value} (hk : ks.getD i default = .al lab ty cs) (hlt : ∀ d, (l.getD i default).dst = some d → d < n) (b : Nat) :
  OInv l ks fr H (L.setIfInBounds i true) (fun k => if k = lab then b else A k) (fr'.put n (l.getD i default).dst (.pointer (some ⟨b, 0, none⟩))) (H'.set lab ⟨true, b, 0, ty, cs, 0⟩) := by
 have hi := R.lt
 unfold kindFree at hkf
 rw [hk] at hkf
 have hkf' : ∀ j, j < l.length → (j = i ∨ (ks.getD j default).isAl lab = false) ∧ ((ks.getD j default).isSt lab = true → L.getD j false = false) := fun j hj => by
  have h1 := List.all_eq_true.1 hkf j (List.mem_range.2 hj)
  rw [Bool.and_eq_true] at h1
  refine ⟨?_, fun hst => ?_⟩
  ·
   rcases Bool.or_eq_true_iff.1 h1.1 with h2 | h2
   · exact .inl (Nat.eq_of_beq_eq_true h2)
   · exact .inr (by simpa using h2)
  ·
   rw [hst, Bool.not_true, Bool.false_or] at h1
   refine R.not hj ?_
   rw [Bool.or_eq_true]
   refine Or.inr ?_
   have h3 := h1.2
   split at h3
   · exact h3
   · cases h3
 have hA : ∀ j, j < l.length → j ≠ i → (ks.getD j default).val (fun k => if k = lab then b else A k) = (ks.getD j default).val A := fun j hj hne => by
  rcases (hkf' j hj).1 with h1 | h1
  · exact absurd h1 hne
  ·
   cases hkj : ks.getD j default with
   | q v => rfl
   | al lab' ty' cs' =>
    rw [hkj] at h1
    have : lab' ≠ lab := bne h1
    simp [OK.val, this]
   | st => rfl
 obtain ⟨h1, h2⟩ := I.fr_step (A' := fun k => if k = lab then b else A k) hi hdf (.pointer (some ⟨b, 0, none⟩)) (fun _ => by rw [hk]; simp [OK.val]) hlt hA
 have hthis : (L.setIfInBounds i true).getD i false = true := set_at hs
 refine ⟨h1, h2, fun k r hr hj => ?_, fun j lab' ty' cs' hj hkj hL hn => ?_, fun j lab' b0 ty' cs' rest hj hkj hL => ?_⟩
 ·
  have hne : k ≠ lab := by
   rintro rfl
   have := hj i hi (.inl (by rw [hk]; simp [OK.isAl]))
   rw [hthis] at this; cases this
  rw [Hp.set_ne _ _ hne]
  exact I.row0 k r hr fun j hj' ht => set_back (hj j hj' ht)
 ·
  by_cases hne : j = i
  ·
   subst hne
   rw [hk] at hkj
   cases hkj
   simp [Hp.set_same]
  ·
   have hl : lab' ≠ lab := by
    rcases (hkf' j hj).1 with h3 | h3
    · exact absurd h3 hne
    · rw [hkj] at h3; exact bne h3
   rw [Hp.set_ne _ _ hl]
   simp only [hl, if_false]
   exact I.rowA j lab' ty' cs' hj hkj (set_ne hne hL) fun j' hj' hs' => set_back (hn j' hj' hs')
 ·
  have hne : j ≠ i := fun e => by subst e; rw [hk] at hkj; cases hkj
  have hLj := set_ne hne hL
  have hl : lab' ≠ lab := by
   rintro rfl
   have := (hkf' j hj).2 (by rw [hkj]; simp [OK.isSt])
   rw [hLj] at this; cases this
  rw [Hp.set_ne _ _ hl]
  have := I.rowS j lab' b0 ty' cs' rest hj hkj hLj
  cases b0 with
  | some b1 => exact this
  | none => simpa [bOf, hl] using this
theorem OInv.st (I : OInv l ks fr H L A fr' H') (hi : i < l.length) (hs : i < L.size) (hkf : kindFree l ks i = true) {lab : Nat} {b0 : Option Nat} {ty : TypeId} {cs : List Value} {rest : Nat} (hk : ks.getD i default = .st lab b0 ty cs rest) :
  OInv l ks fr H (L.setIfInBounds i true) A fr' (H'.set lab ⟨true, bOf A lab b0, 0, ty, cs, rest⟩) := by
 unfold kindFree at hkf
 rw [hk] at hkf
 rw [Bool.and_eq_true] at hkf
 have hdn : (l.getD i default).dst = none := by
  cases hd : (l.getD i default).dst with
  | none => rfl
  | some d => rw [hd] at hkf; simp at hkf
 have hkf' : ∀ j, j < l.length → j ≠ i → (ks.getD j default).isSt lab = false := fun j hj hne => by
  have h1 := List.all_eq_true.1 hkf.2 j (List.mem_range.2 hj)
  rw [bnf hne, Bool.false_or] at h1
  simpa using h1
 have hthis : (L.setIfInBounds i true).getD i false = true := set_at hs
 refine ⟨I.init, fun j d v hj hL hjd hjv => ?_, fun k r hr hj => ?_, fun j lab' ty' cs' hj hkj hL hn => ?_, fun j lab' b0' ty' cs' rest' hj hkj hL => ?_⟩
 ·
  have hne : j ≠ i := fun e => by subst e; rw [hdn] at hjd; cases hjd
  exact I.done j d v hj (set_ne hne hL) hjd hjv
 ·
  have hne : k ≠ lab := by
   rintro rfl
   have := hj i hi (.inr (by rw [hk]; simp [OK.isSt]))
   rw [hthis] at this; cases this
  rw [Hp.set_ne _ _ hne]
  exact I.row0 k r hr fun j hj' ht => set_back (hj j hj' ht)
 ·
  have hne : j ≠ i := fun e => by subst e; rw [hk] at hkj; cases hkj
  have hl : lab' ≠ lab := by
   rintro rfl
   have := hn i hi (by rw [hk]; simp [OK.isSt])
   rw [hthis] at this; cases this
  rw [Hp.set_ne _ _ hl]
  exact I.rowA j lab' ty' cs' hj hkj (set_ne hne hL) fun j' hj' hs' => set_back (hn j' hj' hs')
 ·
  by_cases hne : j = i
  ·
   subst hne
   rw [hk] at hkj
   cases hkj
   simp [Hp.set_same]
  ·
   have hl : lab' ≠ lab := by
    have h3 := hkf' j hj hne
    rw [hkj] at h3; exact bne h3
   rw [Hp.set_ne _ _ hl]
   exact I.rowS j lab' b0' ty' cs' rest' hj hkj (set_ne hne hL)
end

section
variable {P : Program} {E : Env} {l : List Oper} {ks : List OK} {fr : Fr} {H : Hp} {Q : Exit → Act → World → Prop}
def dstLt (l : List Oper) (n : Nat) : Bool := l.all fun o => match o.dst with
 | some d => Nat.blt d n
 | none => true
theorem ord_go (hB : okO l ks = true) (hn : dstLt l E.n = true) (hg : (l.all fun o => o.guard.isNone) = true)
  (hs : ∀ i, i < l.length → ∀ L A fr' H', OInv l ks fr H L A fr' H' → ORdy l L i → OGoal P E fr' H' A (l.getD i default) (ks.getD i default))
  (h : ∀ A L fr' H', OInv l ks fr H L A fr' H' → (∀ j, j < l.length → L.getD j false = true) → At E fr' H' (Q .normal)) :
  ∀ (f : Nat) (L : Array Bool) A fr' H' a w, L.size = l.length → (∀ j, j < l.length → L.getD j false = true → ∀ e ∈ onsB (l.getD j default), L.getD e false = true) → (List.range l.length).countP (fun j => !L.getD j false) = f →
   OInv l ks fr H L A fr' H' → Rep E fr' H' a w → wpAny P .any l.toArray Q f L a w := by
 obtain ⟨hlen, hj⟩ := okO_spec hB
 have rdy : ∀ {L : Array Bool} {i : Nat}, L.size = l.length → i < l.length → L.getD i false = false → (∀ e ∈ onsB (l.getD i default), L.getD e false = true) → i ∈ Region.ready .any l.toArray L := fun {L i} hsz hi hL hons => by
  refine mem_ready.2 ⟨getD_in (by omega) hL, _, at_op hi, fun e he hb => hons e.on ?_⟩
  unfold onsB
  exact List.mem_map.2 ⟨e, List.mem_filter.2 ⟨by simpa using he, hb⟩, rfl⟩
 have ofrdy : ∀ {L : Array Bool} {i : Nat}, i ∈ Region.ready .any l.toArray L → i < l.length ∧ L.getD i false = false ∧ (∀ e ∈ onsB (l.getD i default), L.getD e false = true) := fun {L i} hr => by
  obtain ⟨h1, o, ho, h2⟩ := mem_ready.1 hr
  have hi : i < l.length := by simpa using (Array.getElem?_eq_some_iff.1 ho).1
  have : o = l.getD i default := Option.some.inj (ho.symm.trans (at_op hi))
  subst this
  refine ⟨hi, getD_both h1, fun e he => ?_⟩
  unfold onsB at he
  obtain ⟨x, hx, rfl⟩ := List.mem_map.1 he
  obtain ⟨hx1, hx2⟩ := List.mem_filter.1 hx
  exact h2 x (by simpa using hx1) hx2
 intro f
 induction f with
 | zero =>
  intro L A fr' H' a w hsz hcl hc I R
  have hall : ∀ j, j < l.length → L.getD j false = true := fun j hjl => by
   have := List.countP_eq_zero.1 hc j (List.mem_range.2 hjl)
   simpa using this
  refine ⟨List.eq_nil_iff_forall_not_mem.2 fun i hi => ?_, h A L fr' H' I hall a w R⟩
  obtain ⟨h1, h2, _⟩ := ofrdy hi
  rw [hall i h1] at h2; cases h2
 | succ f ih =>
  intro L A fr' H' a w hsz hcl hc I R
  refine ⟨fun h0 => ?_, fun i hi => ?_⟩
  ·
   exfalso
   have : ∃ j, j < l.length ∧ L.getD j false = false := by
    have h1 : 0 < (List.range l.length).countP (fun j => !L.getD j false) := by omega
    obtain ⟨j, hj1, hj2⟩ := List.countP_pos_iff.1 h1
    exact ⟨j, List.mem_range.1 hj1, by simpa using hj2⟩
   obtain ⟨j, hj1, hj2⟩ := this
   obtain ⟨i, hi1, hi2, hi3⟩ := least (f := fun j => L.getD j false) j hj2
   have := rdy hsz (by omega : i < l.length) hi2 (fun e he => hi3 e ((hj i (by omega)).1 e he))
   rw [h0] at this
   cases this
  ·
   obtain ⟨hil, hLi, hons⟩ := ofrdy hi
   obtain ⟨hlt1, hdf, hkf⟩ := hj i hil
   have RD : ORdy l L i := ⟨fun j hjl hLj e he => ⟨hcl j hjl hLj e he, Nat.lt_trans ((hj j hjl).1 e he) hjl⟩, hil, hLi, fun e he => ⟨hons e he, Nat.lt_trans (hlt1 e he) hil⟩⟩
   have hG := hs i hil L A fr' H' I RD
   have hmem : l.getD i default ∈ l := by simp [hil]
   have hgi : (l.getD i default).guard = none := by
    have := List.all_eq_true.1 hg _ hmem
    simpa using this
   have hdl : ∀ d, (l.getD i default).dst = some d → d < E.n := fun d hd => by
    have := List.all_eq_true.1 hn _ hmem
    rw [hd] at this
    simpa using this
   have hcl' : ∀ j, j < l.length → (L.setIfInBounds i true).getD j false = true → ∀ e ∈ onsB (l.getD j default), (L.setIfInBounds i true).getD e false = true := fun j hjl hLj e he => by
    by_cases hne : j = i
    · subst hne; exact getD_set_true (hons e he)
    · exact getD_set_true (hcl j hjl (set_ne hne hLj) e he)
   have hc' : (List.range l.length).countP (fun j => !(L.setIfInBounds i true).getD j false) = f := by
    have := cnt_one (f := fun j => !L.getD j false) (g := fun j => !(L.setIfInBounds i true).getD j false) (i := i) (by simp [hLi]) (by rw [set_at (by omega)]; rfl) (fun j hne => by rw [getD_set_ne false (Ne.symm hne)]) l.length hil
    omega
   have hsz' : (L.setIfInBounds i true).size = l.length := by simpa using hsz
   unfold wpOp
   rw [at_op hil]
   simp only [Region.wanted, hgi, if_true]
   refine Or.inl ?_
   cases hk : ks.getD i default with
   | q v =>
    rw [hk] at hG
    refine RG.wp_monoQ (fun a' w'' ⟨e, hE⟩ => ?_) (fun _ _ _ h => h.elim) (fun ⟨_, _, h⟩ => h.elim) (hG a w R)
    subst e
    exact ih _ A _ H' _ _ hsz' hcl' hc' (I.q hil hdf hk hdl) ((R.put _ v).below hE)
   | al lab ty cs =>
    rw [hk] at hG
    obtain ⟨z, ho, hz, hzc⟩ := hG
    refine RG.wp_monoQ (fun a' w'' ⟨_, fr2, H2, ⟨b, e1, e2⟩, R2⟩ => ?_) (fun _ _ _ h => h.elim) (fun ⟨_, _, h⟩ => h.elim)
     (S_alloc (K := fun f h => ∃ b, f = fr'.put E.n (l.getD i default).dst (.pointer (some ⟨b, 0, none⟩)) ∧ h = H'.set lab ⟨true, b, 0, ty, cs, 0⟩) _ lab ho hz hzc (fun b => ⟨b, rfl, rfl⟩) rfl a w R)
    subst e1 e2
    exact ih _ _ _ _ _ _ hsz' hcl' hc' (I.al RD (by omega) hdf hkf hk hdl b) R2
   | st lab b0 ty cs rest =>
    rw [hk] at hG
    refine RG.wp_monoQ (fun a' w'' ⟨_, fr2, H2, ⟨e1, e2⟩, R2⟩ => ?_) (fun _ _ _ h => h.elim) (fun ⟨_, _, h⟩ => h.elim) (hG a w R)
    subst e1 e2
    exact ih _ A _ _ _ _ hsz' hcl' hc' (I.st hil (by omega) hkf hk) R2
/-- A REGION THAT DRAWS ITS ORDER, WHATEVER THE ORDER. -/
theorem At.ord {id : Nat} (ks : List OK) (is : List Nat) (hm : P.follows .mixedOrders = true) (hB : okO l ks = true) (hn : dstLt l E.n = true) (hg : (l.all fun o => o.guard.isNone) = true) (his : List.range l.length = is)
  (hs : AllL (fun i => ∀ L A fr' H', OInv l ks fr H L A fr' H' → ORdy l L i → OGoal P E fr' H' A (l.getD i default) (ks.getD i default)) is)
  (h : ∀ A : Nat → Nat, At E (ovr A l ks fr) (hovr A ks H) (Q .normal)) : At E fr H ((Code.region id l.toArray true).wp P Q) := by
 intro a w R
 obtain ⟨hlen, hj⟩ := okO_spec hB
 refine wp_region_any hm ?_
 have h0 : ∀ j, (Array.replicate l.length false).getD j false = false := fun j => by
  by_cases hj : j < l.length
  · simp [hj]
  · simp [Array.getElem?_eq_none (xs := Array.replicate l.length false) (i := j) (by simp; omega)]
 refine ord_go hB hn hg (fun i hi => hs.mem i (by rw [← his]; exact List.mem_range.2 hi)) (fun A L fr' H' I hall => At.weak (fun s v hv => ?_) (fun k r hr => ?_) (h A)) l.length (Array.replicate l.length false) (fun _ => 0) fr H a w.drew (by simp) (fun j _ hL => absurd ((h0 j).symm.trans hL) (by simp)) (by
   rw [List.countP_eq_length.2 (fun j _ => by rw [h0]; rfl)]; simp) ⟨fun s v hv _ => hv, fun j d v _ hL => absurd ((h0 j).symm.trans hL) (by simp), fun k r hr _ => hr, fun j lab ty cs _ _ hL => absurd ((h0 j).symm.trans hL) (by simp), fun j lab b0 ty cs rest _ _ hL => absurd ((h0 j).symm.trans hL) (by simp)⟩ R.drew
 ·
  rcases ovr_some hlen hv with ⟨j, h1, h2, h3⟩ | ⟨h1, h2⟩
  · exact I.done j s v h1 (hall j h1) h2 h3
  · exact I.init s v h1 h2
 ·
  unfold hovr at hr
  split at hr
  ·
   rename_i r' h1
   cases hr
   obtain ⟨j, b0, ty, cs, rest, h2, h3, rfl⟩ := stR_some h1
   exact I.rowS j k b0 ty cs rest (by omega) h3 (hall j (by omega))
  ·
   rename_i h1
   have hst := stR_none h1
   split at hr
   ·
    rename_i r' h2
    cases hr
    obtain ⟨j, ty, cs, h3, h4, rfl⟩ := alR_some h2
    exact I.rowA j k ty cs (by omega) h4 (hall j (by omega)) fun j' _ hs => by rw [hst j'] at hs; cases hs
   ·
    rename_i h2
    have hal := alR_none h2
    refine I.row0 k r hr fun j _ ht => ?_
    rcases ht with ht | ht
    · rw [hal j] at ht; cases ht
    · rw [hst j] at ht; cases ht
end
end SE
end Go


/- Families of rows: row i under the label b + 16 * i, for the i that D allows. -/
namespace Go
namespace SE
open Go.RowKit
set_option linter.unusedVariables false
set_option linter.unusedSimpArgs false
structure Fam where
 b : Nat
 D : Nat → Bool
 F : Nat → Row
def lf (b i : Nat) : Nat := b + 16 * i
/-- Is the label one of the family's? -/
def Fam.has (f : Fam) (k : Nat) : Bool := Nat.ble f.b k && Nat.beq ((k - f.b) % 16) 0 && f.D ((k - f.b) / 16)
def famsOf (H : Hp) : List Fam → Hp
 | [] => H
 | f :: l => fun k => match f.has k with
  | true => some (f.F ((k - f.b) / 16))
  | false => famsOf H l k
def dlt (m i : Nat) : Bool := Nat.blt i m
def dbut (m j i : Nat) : Bool := Nat.blt i m && !Nat.beq i j
theorem beq_f (i j : Nat) : (Nat.beq i j = false) = ¬ (i = j) := propext ⟨fun h => bne h, fun h => bnf h⟩
theorem dlt_iff {m i : Nat} : dlt m i = true ↔ i < m := by simp [dlt]
theorem dbut_iff {m j i : Nat} : dbut m j i = true ↔ i < m ∧ i ≠ j := by simp [dbut, beq_f]
theorem lf_idx (b i : Nat) : (lf b i - b) / 16 = i := by unfold lf; omega
theorem lf_inj {b i j : Nat} (h : lf b i = lf b j) : i = j := by unfold lf at h; omega
theorem has_lf (f : Fam) (i : Nat) : f.has (lf f.b i) = f.D i := by
 unfold Fam.has
 rw [lf_idx, Nat.ble_eq_true_of_le (show f.b ≤ lf f.b i by unfold lf; omega)]
 have : (lf f.b i - f.b) % 16 = 0 := by unfold lf; omega
 rw [this]
 rfl
theorem has_some {f : Fam} {k : Nat} (h : f.has k = true) : ∃ i, k = lf f.b i ∧ f.D i = true := by
 unfold Fam.has at h
 simp only [Bool.and_eq_true, Nat.ble_eq, Nat.beq_eq] at h
 refine ⟨(k - f.b) / 16, ?_, h.2⟩
 unfold lf
 omega
theorem has_low {f : Fam} {k : Nat} (h : Nat.blt k f.b = true) : f.has k = false := by
 cases hh : f.has k with
 | false => rfl
 | true =>
  obtain ⟨i, rfl, _⟩ := has_some hh
  simp only [Nat.blt_eq] at h
  unfold lf at h
  omega
theorem hOf_mem {k : Nat} {r : Row} : ∀ {m : List (Nat × Row)}, hOf m k = some r → ∃ p ∈ m, p.1 = k
 | [], h => nomatch h
 | (k0, r0) :: m, h => by
  cases hb : Nat.beq k k0 with
  | true => exact ⟨_, List.mem_cons_self, (Nat.eq_of_beq_eq_true hb).symm⟩
  | false =>
   have h1 : (match Nat.beq k k0 with | true => some r0 | false => hOf m k) = some r := h
   rw [hb] at h1
   obtain ⟨p, hp, e⟩ := hOf_mem h1
   exact ⟨p, List.mem_cons_of_mem _ hp, e⟩
/-- The family's rows are there. -/
def FamOk (H : Hp) (f : Fam) : Prop := ∀ i, f.D i = true → H (lf f.b i) = some (f.F i)
theorem FamOk.hd {H : Hp} {f : Fam} {l : List Fam} : FamOk (famsOf H (f :: l)) f := fun i hi => by
 show (match f.has (lf f.b i) with | true => some (f.F ((lf f.b i - f.b) / 16)) | false => _) = _
 rw [has_lf, hi, lf_idx]
theorem FamOk.tl {H : Hp} {f g : Fam} {l : List Fam} (hb : (Nat.ble f.b (g.b + 15) && Nat.ble g.b (f.b + 15) && !Nat.beq f.b g.b) = true) (h : FamOk (famsOf H l) f) : FamOk (famsOf H (g :: l)) f := fun i hi => by
 have hn : g.has (lf f.b i) = false := by
  cases hh : g.has (lf f.b i) with
  | false => rfl
  | true =>
   obtain ⟨j, hj, _⟩ := has_some hh
   simp [beq_f] at hb
   unfold lf at hj
   omega
 show (match g.has (lf f.b i) with | true => some (g.F ((lf f.b i - g.b) / 16)) | false => famsOf H l (lf f.b i)) = _
 rw [hn]
 exact h i hi
theorem FamOk.set {H : Hp} {f : Fam} {k : Nat} {r : Row} (hk : Nat.blt k f.b = true) (h : FamOk H f) : FamOk (H.set k r) f := fun i hi => by
 rw [Hp.set_ne]
 · exact h i hi
 ·
  simp only [Nat.blt_eq] at hk
  unfold lf
  omega
theorem FamOk.del {H : Hp} {f : Fam} {k : Nat} (hk : Nat.blt k f.b = true) (h : FamOk H f) : FamOk (H.del k) f := fun i hi => by
 unfold Hp.del
 have : Nat.beq (lf f.b i) k = false := bnf (by simp only [Nat.blt_eq] at hk; unfold lf; omega)
 rw [this]
 exact h i hi
theorem FamOk.nil {H : Hp} {b : Nat} {D : Nat → Bool} {F : Nat → Row} (h : ∀ i, D i = false) : FamOk H ⟨b, D, F⟩ := fun i hi => by
 have hi : D i = true := hi
 rw [h i] at hi
 cases hi
theorem FamOk.congr {H : Hp} {b : Nat} {D D' : Nat → Bool} {F F' : Nat → Row} (h : FamOk H ⟨b, D, F⟩) (hF : ∀ i, D' i = true → D i = true ∧ F' i = F i) : FamOk H ⟨b, D', F'⟩ := fun i hi => by
 have h1 := h i (hF i hi).1
 show H (lf b i) = some (F' i)
 rw [(hF i hi).2]
 exact h1
def ksLow (b : Nat) (ks : List OK) : Bool := ks.all fun k => match k with
 | .al lab _ _ => Nat.blt lab b
 | .st lab _ _ _ _ => Nat.blt lab b
 | _ => true
theorem hovr_high {A : Nat → Nat} {H : Hp} {b k : Nat} (hb : b ≤ k) : ∀ {ks : List OK}, ksLow b ks = true → hovr A ks H k = H k := by
 intro ks hl
 have h1 : stR A k ks = none := by
  cases hh : stR A k ks with
  | none => rfl
  | some r =>
   obtain ⟨j, b0, ty, cs, rest, h2, h3, _⟩ := stR_some hh
   have h4 := List.all_eq_true.1 hl (ks.getD j default) (by rw [List.getD_eq_getElem?_getD, List.getElem?_eq_getElem h2]; exact List.getElem_mem h2)
   rw [h3] at h4
   simp at h4
   omega
 have h2 : alR A k ks = none := by
  cases hh : alR A k ks with
  | none => rfl
  | some r =>
   obtain ⟨j, ty, cs, h2, h3, _⟩ := alR_some hh
   have h4 := List.all_eq_true.1 hl (ks.getD j default) (by rw [List.getD_eq_getElem?_getD, List.getElem?_eq_getElem h2]; exact List.getElem_mem h2)
   rw [h3] at h4
   simp at h4
   omega
 unfold hovr
 rw [h1, h2]
theorem FamOk.hovr {H : Hp} {f : Fam} {A : Nat → Nat} {ks : List OK} (hl : ksLow f.b ks = true) (h : FamOk H f) : FamOk (hovr A ks H) f := fun i hi => by
 rw [hovr_high (show f.b ≤ lf f.b i by unfold lf; omega) hl]
 exact h i hi
theorem FamOk.swap {H : Hp} {f : Fam} {i j : Nat} (hi : Nat.blt i f.b = true) (hj : Nat.blt j f.b = true) (h : FamOk H f) : FamOk (fun k => H (if k = i then j else if k = j then i else k)) f := fun q hq => by
 simp only [Nat.blt_eq] at hi hj
 have h1 : lf f.b q ≠ i := by unfold lf; omega
 have h2 : lf f.b q ≠ j := by unfold lf; omega
 show H (if lf f.b q = i then j else if lf f.b q = j then i else lf f.b q) = _
 rw [if_neg h1, if_neg h2]
 exact h q hq
theorem FamOk.emp {H : Hp} {f : Fam} (h : FamOk H f) : FamOk (famsOf H []) f := h
theorem FK {H : Hp} {f : Fam} (h : FamOk H f := by repeat (first | assumption | exact FamOk.hd | refine FamOk.set rfl ?_ | refine FamOk.del rfl ?_ | refine FamOk.tl rfl ?_ | refine FamOk.emp ?_ | refine FamOk.hovr (by kernel_rfl) ?_ | refine FamOk.swap rfl rfl ?_)) : FamOk H f := h
theorem famsOf_some {H : Hp} {k : Nat} {r : Row} : ∀ {l : List Fam}, famsOf H l k = some r → (∃ f ∈ l, ∃ i, f.D i = true ∧ k = lf f.b i ∧ r = f.F i) ∨ (∀ f ∈ l, f.has k = false) ∧ H k = some r
 | [], h => Or.inr ⟨fun _ hf => (by cases hf), h⟩
 | f :: l, h => by
  cases hh : f.has k with
  | true =>
   have h1 : famsOf H (f :: l) k = some (f.F ((k - f.b) / 16)) := by
    show (match f.has k with | true => _ | false => _) = _
    rw [hh]
   rw [h1] at h
   obtain ⟨i, rfl, hi⟩ := has_some hh
   rw [lf_idx] at h
   exact Or.inl ⟨f, List.mem_cons_self, i, hi, rfl, (Option.some.inj h).symm⟩
  | false =>
   have h1 : famsOf H (f :: l) k = famsOf H l k := by
    show (match f.has k with | true => _ | false => _) = _
    rw [hh]
   rw [h1] at h
   rcases famsOf_some h with ⟨g, hg, i, h2⟩ | ⟨h2, h3⟩
   · exact Or.inl ⟨g, List.mem_cons_of_mem _ hg, i, h2⟩
   ·
    refine Or.inr ⟨fun g hg => ?_, h3⟩
    rcases List.mem_cons.1 hg with rfl | hg
    · exact hh
    · exact h2 g hg
theorem famsOf_low {H : Hp} {k : Nat} : ∀ {l : List Fam}, (∀ f ∈ l, f.has k = false) → famsOf H l k = H k
 | [], _ => rfl
 | f :: l, h => by
  show (match f.has k with | true => _ | false => _) = _
  rw [h f List.mem_cons_self]
  exact famsOf_low fun g hg => h g (List.mem_cons_of_mem _ hg)
def LowK (b k : Nat) (p : Nat × Row) : Prop := (Nat.blt p.1 b && !Nat.beq p.1 k) = true
def FarF (b k : Nat) (f : Fam) : Prop := (Nat.ble f.b (b + 15) && Nat.ble b (f.b + 15) && !Nat.beq f.b b && Nat.blt k f.b) = true
section
variable {E : Env} {fr : Fr} {H : Hp}
/-- Less is known, the families stay. -/
theorem At.toM {T : Act → World → Prop} (l : List (Nat × Value)) (m : List (Nat × Row)) (fs : List Fam) (hf : AllL (fun p => fr p.1 = some p.2) l) (hH : AllL (fun p => H p.1 = some p.2) m) (hF : AllL (FamOk H) fs) (h : At E (frOf l) (famsOf (hOf m) fs) T) : At E fr H T :=
 h.weak (frOf_le hf.mem) fun k r hk => by
  rcases famsOf_some hk with ⟨f, hf, i, hi, rfl, rfl⟩ | ⟨_, h2⟩
  · exact hF.mem f hf i hi
  · exact hOf_le hH.mem k r h2
/-- Other labels. -/
theorem At.ren {T : Act → World → Prop} {H' : Hp} (σ : Nat → Nat) (hs : ∀ k r, H' k = some r → H (σ k) = some r) (hi : ∀ k k' r r', H' k = some r → H' k' = some r' → σ k = σ k' → k = k') (h : At E fr H' T) : At E fr H T :=
 fun a w R => h a w ⟨R.df, R.size, R.fr, R.chg, ⟨fun k r hk => R.heap.row _ r (hs k r hk), fun k k' r r' hk hk' ho ho' hne hz hz' => R.heap.apart _ _ r r' (hs k r hk) (hs k' r' hk') ho ho' (fun e => hne (hi k k' r r' hk hk' e)) hz hz'⟩⟩
/-- A row goes to a family (the first one): under the number j. -/
theorem At.famPut {T : Act → World → Prop} {b k j : Nat} {D D' : Nat → Bool} {F F' : Nat → Row} {r : Row} {m : List (Nat × Row)} {fs : List Fam} (hk : AllL (LowK b k) m) (hkb : Nat.blt k b = true) (hfs : AllL (FarF b k) fs)
  (hF : ∀ i, D' i = true → i ≠ j → D i = true ∧ F' i = F i) (hr : F' j = r) (h : At E fr (famsOf (hOf m) (⟨b, D', F'⟩ :: fs)) T) : At E fr (famsOf (hOf ((k, r) :: m)) (⟨b, D, F⟩ :: fs)) T := by
 have hmem : ∀ k1 r1, hOf m k1 = some r1 → k1 < b ∧ k1 ≠ k := fun k1 r1 h1 => by
  obtain ⟨p, hp, rfl⟩ := hOf_mem h1
  have := hk.mem p hp
  simp [LowK, beq_f] at this
  exact this
 have hkb' : k < b := by simpa using hkb
 have hfs' : ∀ f ∈ fs, (∀ i j, lf f.b i ≠ lf b j) ∧ k < f.b := fun f hf => by
  have := hfs.mem f hf
  simp [FarF, beq_f] at this
  refine ⟨fun i j => ?_, this.2⟩
  unfold lf
  omega
 have hlow : ∀ f ∈ (⟨b, D, F⟩ : Fam) :: fs, f.has k = false := fun f hf => has_low (by
  rcases List.mem_cons.1 hf with rfl | hf
  · exact hkb
  · simpa using (hfs' f hf).2)
 have hatk : famsOf (hOf ((k, r) :: m)) (⟨b, D, F⟩ :: fs) k = some r := by
  rw [famsOf_low hlow]
  unfold hOf
  simp
 -- what the new map tells
 have key : ∀ k1 r1, famsOf (hOf m) (⟨b, D', F'⟩ :: fs) k1 = some r1 → (k1 = lf b j ∧ r1 = r) ∨ (k1 ≠ lf b j ∧ k1 ≠ k ∧ famsOf (hOf ((k, r) :: m)) (⟨b, D, F⟩ :: fs) k1 = some r1) := fun k1 r1 h1 => by
  rcases famsOf_some h1 with ⟨f, hf, i, hi, rfl, rfl⟩ | ⟨h2, h3⟩
  ·
   rcases List.mem_cons.1 hf with rfl | hf
   ·
    by_cases e : i = j
    ·
     subst e
     exact Or.inl ⟨rfl, hr⟩
    ·
     obtain ⟨g1, g2⟩ := hF i hi e
     refine Or.inr ⟨fun hh => e (lf_inj hh), fun hh => ?_, ?_⟩
     ·
      have : lf b i = k := hh
      unfold lf at this
      omega
     ·
      have := FamOk.hd (H := hOf ((k, r) :: m)) (f := ⟨b, D, F⟩) (l := fs) i g1
      show famsOf _ _ (lf b i) = some (F' i)
      rw [g2]
      exact this
   ·
    refine Or.inr ⟨(hfs' f hf).1 i j, fun hh => ?_, ?_⟩
    ·
     have := (hfs' f hf).2
     unfold lf at hh
     omega
    ·
     have hn : ∀ D0 F0, (⟨b, D0, F0⟩ : Fam).has (lf f.b i) = false := fun D0 F0 => by
      cases hh : (⟨b, D0, F0⟩ : Fam).has (lf f.b i) with
      | false => rfl
      | true =>
       obtain ⟨j2, hj, _⟩ := has_some hh
       exact absurd hj ((hfs' f hf).1 i j2)
     have hcut : ∀ (D0 : Nat → Bool) (F0 : Nat → Row) (H0 : Hp), famsOf H0 (⟨b, D0, F0⟩ :: fs) (lf f.b i) = famsOf H0 fs (lf f.b i) := fun D0 F0 H0 => by
      show (match (⟨b, D0, F0⟩ : Fam).has (lf f.b i) with | true => _ | false => _) = _
      rw [hn D0 F0]
     rw [hcut] at h1 ⊢
     have hne : lf f.b i ≠ k := by
      have := (hfs' f hf).2
      unfold lf
      omega
     rcases famsOf_some h1 with ⟨f2, hf2, i2, hi2, he2, hr2⟩ | ⟨h4, h5⟩
     · -- the same place in both
      have go : ∀ (l : List Fam), famsOf (hOf m) l (lf f.b i) = some (f.F i) → famsOf (hOf ((k, r) :: m)) l (lf f.b i) = some (f.F i) := fun l => by
       induction l with
       | nil =>
        intro h6
        show hOf ((k, r) :: m) (lf f.b i) = _
        unfold hOf
        rw [bnf hne]
        exact h6
       | cons g l ih =>
        intro h6
        cases hh : g.has (lf f.b i) with
        | true =>
         have e1 : ∀ H0 : Hp, famsOf H0 (g :: l) (lf f.b i) = some (g.F ((lf f.b i - g.b) / 16)) := fun H0 => by
          show (match g.has (lf f.b i) with | true => _ | false => _) = _
          rw [hh]
         rw [e1] at h6 ⊢
         exact h6
        | false =>
         have e1 : ∀ H0 : Hp, famsOf H0 (g :: l) (lf f.b i) = famsOf H0 l (lf f.b i) := fun H0 => by
          show (match g.has (lf f.b i) with | true => _ | false => _) = _
          rw [hh]
         rw [e1] at h6 ⊢
         exact ih h6
      exact go fs h1
     ·
      have := hmem _ _ h5
      have h7 : f.has (lf f.b i) = true := by rw [has_lf]; exact hi
      rw [h4 f hf] at h7
      cases h7
  ·
   obtain ⟨g1, g2⟩ := hmem k1 r1 h3
   refine Or.inr ⟨fun hh => ?_, g2, ?_⟩
   ·
    unfold lf at hh
    omega
   ·
    rw [famsOf_low]
    ·
     unfold hOf
     rw [bnf g2]
     exact h3
    ·
     intro f hf
     rcases List.mem_cons.1 hf with rfl | hf
     · exact has_low (by simpa using g1)
     · exact h2 f (List.mem_cons_of_mem _ hf)
 refine At.ren (fun k1 => if k1 = lf b j then k else k1) (fun k1 r1 h1 => ?_) (fun k1 k2 r1 r2 h1 h2 he => ?_) h
 ·
  rcases key k1 r1 h1 with ⟨e1, e2⟩ | ⟨e1, _, e3⟩
  ·
   show famsOf _ _ (if k1 = lf b j then k else k1) = _
   rw [if_pos e1, e2]
   exact hatk
  ·
   show famsOf _ _ (if k1 = lf b j then k else k1) = _
   rw [if_neg e1]
   exact e3
 ·
  rcases key k1 r1 h1 with ⟨e1, _⟩ | ⟨e1, e2, _⟩ <;> rcases key k2 r2 h2 with ⟨e3, _⟩ | ⟨e3, e4, _⟩
  · rw [e1, e3]
  ·
   rw [if_pos e1, if_neg e3] at he
   exact absurd he.symm e4
  ·
   rw [if_neg e1, if_pos e3] at he
   exact absurd he e2
  ·
   rw [if_neg e1, if_neg e3] at he
   exact he
/-- One family more. -/
theorem At.famNew {T : Act → World → Prop} {m : List (Nat × Row)} {fs : List Fam} (b : Nat) (F : Nat → Row) (h : At E fr (famsOf (hOf m) (⟨b, dlt 0, F⟩ :: fs)) T) : At E fr (famsOf (hOf m) fs) T :=
 h.weak (fun i v hv => hv) fun k r hk => by
  have hn : (⟨b, dlt 0, F⟩ : Fam).has k = false := by
   cases hh : (⟨b, dlt 0, F⟩ : Fam).has k with
   | false => rfl
   | true =>
    obtain ⟨i, _, hi⟩ := has_some hh
    have := dlt_iff.1 hi
    omega
  have h1 : (match (⟨b, dlt 0, F⟩ : Fam).has k with | true => some (F ((k - b) / 16)) | false => famsOf (hOf m) fs k) = some r := hk
  rw [hn] at h1
  exact h1
end
/-! ### Slices of bytes, in a slice -/
structure BE where
 A : Option Addr
 b : Nat
 c : Nat
 l : List (BitVec 8)
instance : Inhabited BE := ⟨⟨none, 0, 0, []⟩⟩
def BE.ok (e : BE) : Prop := (0 < e.c → e.A = some ⟨e.b, 0, none⟩) ∧ e.l.length ≤ e.c
theorem BE.adr {e : BE} (h : e.ok) (h0 : 0 < e.l.length) : e.A = some ⟨e.b, 0, none⟩ := h.1 (Nat.lt_of_lt_of_le h0 h.2)
theorem BE.okP {es : List BE} {x : BE} (h : ∀ e ∈ es, e.ok) (hx : x.ok) : ∀ e ∈ es ++ [x], e.ok := fun e he => by
 rcases List.mem_append.1 he with he | he
 · exact h e he
 · rw [List.mem_singleton.1 he]; exact hx
abbrev BE.v (e : BE) : Value := .slice e.A e.l.length e.c
abbrev BE.row (ty : TypeId) (e : BE) : Row := ⟨true, e.b, 0, ty, e.l.map u8V, e.c - e.l.length⟩
abbrev famB (b : Nat) (ty : TypeId) (es : List BE) : Fam := ⟨b, dlt es.length, fun i => (es.getD i default).row ty⟩
abbrev famBut (b : Nat) (ty : TypeId) (es : List BE) (j : Nat) : Fam := ⟨b, dbut es.length j, fun i => (es.getD i default).row ty⟩
theorem getD_left {es : List BE} {x : BE} {i : Nat} (h : i < es.length) : (es ++ [x]).getD i default = es.getD i default := by
 simp [List.getD_eq_getElem?_getD, List.getElem?_append_left h]
theorem getD_right {es : List BE} {x : BE} : (es ++ [x]).getD es.length default = x := by
 simp [List.getD_eq_getElem?_getD]
theorem getD_mem {es : List BE} {i : Nat} (h : i < es.length) : es.getD i default ∈ es := by
 rw [List.getD_eq_getElem?_getD, List.getElem?_eq_getElem h]
 exact List.getElem_mem h
section
variable {E : Env} {fr : Fr} {T : Act → World → Prop} {b k : Nat} {ty : TypeId} {es : List BE} {m : List (Nat × Row)} {fs : List Fam}
theorem At.famPush (e : BE) (hk : AllL (LowK b k) m) (hkb : Nat.blt k b = true) (hfs : AllL (FarF b k) fs) (h : At E fr (famsOf (hOf m) (famB b ty (es ++ [e]) :: fs)) T) : At E fr (famsOf (hOf ((k, e.row ty) :: m)) (famB b ty es :: fs)) T :=
 At.famPut (j := es.length) hk hkb hfs (fun i hi hne => by
  have h1 := dlt_iff.1 hi
  rw [List.length_append, List.length_singleton] at h1
  have h2 : i < es.length := by omega
  exact ⟨dlt_iff.2 h2, by rw [getD_left h2]⟩) (by rw [getD_right]) h
theorem FamOk.but {H : Hp} {j : Nat} (h : FamOk H (famB b ty es)) : FamOk H (famBut b ty es j) := h.congr fun i hi => ⟨dlt_iff.2 (dbut_iff.1 hi).1, rfl⟩
end
/-! ### Families handed over -/
def famK (b n : Nat) : List Nat := (List.range n).map (lf b)
theorem famK_mem {b n k : Nat} (h : k ∈ famK b n) : ∃ i, i < n ∧ k = lf b i := by
 obtain ⟨i, h1, rfl⟩ := List.mem_map.1 h
 exact ⟨i, List.mem_range.1 h1, rfl⟩
theorem famK_nodup (b n : Nat) : (famK b n).Nodup := by
 unfold famK
 rw [List.nodup_iff_pairwise_ne, List.pairwise_map]
 exact List.Pairwise.imp (fun h e => h (lf_inj e)) (List.nodup_iff_pairwise_ne.1 List.nodup_range)
theorem famK_app {ks : List Nat} {b n : Nat} (hk : ks.Nodup) (hl : AllL (fun k => Nat.blt k b = true) ks) : (ks ++ famK b n).Nodup := by
 rw [List.nodup_append]
 refine ⟨hk, famK_nodup b n, fun x hx y hy e => ?_⟩
 obtain ⟨i, _, rfl⟩ := famK_mem hy
 have := hl.mem x hx
 simp at this
 unfold lf at e
 omega
theorem rows_range (ty : TypeId) (es : List BE) : es.map (BE.row ty) = (List.range es.length).map fun i => (es.getD i default).row ty := by
 apply List.ext_getElem (by simp)
 intro i h1 h2
 have h3 : i < es.length := by simpa using h1
 simp [List.getD_eq_getElem?_getD, h3]
theorem give_fam {H : Hp} {ks : List Nat} {rs : List Row} {b : Nat} {ty : TypeId} {es : List BE} (h0 : ks.map H = rs.map some) (hF : FamOk H (famB b ty es)) : (ks ++ famK b es.length).map H = (rs ++ es.map (BE.row ty)).map some := by
 rw [List.map_append, List.map_append, h0, rows_range, famK, List.map_map, List.map_map]
 congr 1
 refine List.map_congr_left fun i hi => ?_
 exact hF i (dlt_iff.2 (List.mem_range.1 hi))
theorem own_fam {rs : List Row} {ty : TypeId} {es : List BE} (h : ∀ r ∈ rs, r.own = true) : ∀ r ∈ rs ++ es.map (BE.row ty), r.own = true := fun r hr => by
 rcases List.mem_append.1 hr with hr | hr
 · exact h r hr
 ·
  obtain ⟨e, _, rfl⟩ := List.mem_map.1 hr
  rfl
theorem Hp.sets_app : ∀ {ks ls : List Nat} {rs ss : List Row} {H : Hp}, ks.length = rs.length → H.sets (ks ++ ls) (rs ++ ss) = (H.sets ks rs).sets ls ss
 | [], _, [], _, _, _ => rfl
 | k :: ks, ls, r :: rs, ss, H, h => Hp.sets_app (ks := ks) (rs := rs) (H := H.set k r) (by simpa using h)
 | [], _, _ :: _, _, _, h => by simp at h
 | _ :: _, _, [], _, _, h => by simp at h
theorem sets_fam {b : Nat} {F : Nat → Row} : ∀ (n : Nat) (H : Hp), H.sets ((List.range n).map (lf b)) ((List.range n).map F) = famsOf H [⟨b, dlt n, F⟩]
 | 0, H => by
  funext k
  have hn : (⟨b, dlt 0, F⟩ : Fam).has k = false := by
   cases hh : (⟨b, dlt 0, F⟩ : Fam).has k with
   | false => rfl
   | true =>
    obtain ⟨i, _, hi⟩ := has_some hh
    have := dlt_iff.1 hi
    omega
  show H k = (match (⟨b, dlt 0, F⟩ : Fam).has k with | true => some (F ((k - b) / 16)) | false => H k)
  rw [hn]
 | n + 1, H => by
  rw [List.range_succ, List.map_append, List.map_append, Hp.sets_app (by simp), sets_fam n H]
  funext k
  show (famsOf H [⟨b, dlt n, F⟩]).set (lf b n) (F n) k = (match (⟨b, dlt (n + 1), F⟩ : Fam).has k with | true => some (F ((k - b) / 16)) | false => H k)
  by_cases e : k = lf b n
  ·
   subst e
   rw [Hp.set_same, show (⟨b, dlt (n + 1), F⟩ : Fam).has (lf b n) = true from (has_lf ⟨b, dlt (n + 1), F⟩ n).trans (dlt_iff.2 (Nat.lt_succ_self n)), lf_idx]
  ·
   rw [Hp.set_ne _ _ e]
   show (match (⟨b, dlt n, F⟩ : Fam).has k with | true => some (F ((k - b) / 16)) | false => H k) = _
   have : (⟨b, dlt n, F⟩ : Fam).has k = (⟨b, dlt (n + 1), F⟩ : Fam).has k := by
    cases h1 : (⟨b, dlt n, F⟩ : Fam).has k with
    | true =>
     obtain ⟨i, rfl, hi⟩ := has_some h1
     exact ((has_lf ⟨b, dlt (n + 1), F⟩ i).trans (dlt_iff.2 (Nat.lt_succ_of_lt (dlt_iff.1 hi)))).symm
    | false =>
     cases h2 : (⟨b, dlt (n + 1), F⟩ : Fam).has k with
     | false => rfl
     | true =>
      obtain ⟨i, rfl, hi⟩ := has_some h2
      have h3 : i < n + 1 := dlt_iff.1 hi
      have h4 : i ≠ n := fun h => e (by rw [h])
      have h5 := (has_lf ⟨b, dlt n, F⟩ i).trans (dlt_iff.2 (by omega))
      exact h5.symm.trans h1 |>.symm
   rw [this]
theorem sets_famB {b : Nat} {ty : TypeId} {es : List BE} {H : Hp} {ks : List Nat} {rs : List Row} (h : ks.length = rs.length) : H.sets (ks ++ famK b ((rs ++ es.map (BE.row ty)).length - ks.length)) (rs ++ es.map (BE.row ty)) = famsOf (H.sets ks rs) [famB b ty es] := by
 have e : (rs ++ es.map (BE.row ty)).length - ks.length = es.length := by simp; omega
 rw [e, Hp.sets_app h, rows_range]
 exact sets_fam _ _
section
variable {P : Program} {E : Env} {fr : Fr} {H : Hp} {o : Oper}
/-- A call whose answer holds a family. -/
theorem S_callRF (d : Option Tmp) (owns views : List (Nat × Row)) (ks : List Nat) (b : Nat) {f : FuncId} {xs : List Operand} {tys : Array TypeId} {vs : List Value} {K : Fr → Hp → Prop} {post : Value → List Row → Prop} (ho : o.op = .call ⟨.value (.func f), xs.toArray, tys⟩) (he : entersB P f = true) (ha : ArgsOk fr xs vs)
  (hO : OwnsOk H owns) (hd : (owns.map (·.1)).Nodup) (hV : ViewsOk H owns views) (hk : ks.Nodup) (hlow : AllL (fun k => Nat.blt k b = true) ks)
  (hcon : Con P f vs (owns.map (·.2) ++ views.map (·.2)) post) (hl : ∀ v rows', post v rows' → ks.length ≤ rows'.length)
  (h : ∀ v rows', post v rows' → K (fr.put E.n d v) ((H.dels (owns.map (·.1))).sets (ks ++ famK b (rows'.length - ks.length)) rows')) (hd : o.dst = d := by rfl) : SStep P E true fr H o K := by
 subst hd
 refine S_call _ ho he ha fun w hw hH => ?_
 refine (hcon w (hH.lift hw owns views hO.mem hd hV.mem)).mono fun e w' ⟨v, rows', h1, h2, h3, h4, h5⟩ => ?_
 have hvo : ∀ p ∈ views, p.2.own = false := fun p hp => by
  rcases hV.mem p hp with h1 | ⟨_, r, _, h3, _⟩
  · exact h1.2
  · exact h3
 obtain ⟨h6, h7⟩ := hH.back hw owns views hO.mem hvo h3 h4 h5 (ks ++ famK b (rows'.length - ks.length)) (by
  have := hl v rows' h2
  simp [famK]
  omega) (famK_app hk hlow)
 exact ⟨v, _, h1, fun h => (by cases h), h7, h6, h v rows' h2⟩
end
end SE
end Go


/- Slices of structs: a row's cells are those of its elements, one behind the other. -/
namespace Go
namespace SE
open Go.RowKit
set_option linter.unusedVariables false
set_option linter.unusedSimpArgs false
theorem notd_t {p : Prop} [Decidable p] (h : (!decide p) = true) : ¬ p := fun h2 => by rw [decide_eq_true h2] at h; cases h
theorem notd_f {p : Prop} [Decidable p] (h : (!decide p) = false) : p := by
 by_cases h2 : p
 · exact h2
 · rw [decide_eq_false h2] at h; cases h
/-- How an element lies in cells. -/
structure Enc (α : Type) where
 f : α → List Value
 sz : Nat
 pos : 0 < sz
 len : ∀ a, (f a).length = sz
 one : ∀ a, ∀ u ∈ f a, u.oneCell' = true
def encs {α : Type} (e : Enc α) (L : List α) : List Value := L.flatMap e.f
section
variable {α : Type} {e : Enc α}
theorem encs_len (L : List α) : (encs e L).length = L.length * e.sz := by
 induction L with
 | nil => simp [encs]
 | cons a L ih =>
  unfold encs at ih ⊢
  rw [List.flatMap_cons, List.length_append, ih, e.len, List.length_cons, Nat.add_mul, Nat.one_mul, Nat.add_comm]
theorem encs_app (L M : List α) : encs e (L ++ M) = encs e L ++ encs e M := by simp [encs]
theorem encs_one (a : α) : encs e [a] = e.f a := by simp [encs]
theorem encs_take (L : List α) (n : Nat) : (encs e L).take (n * e.sz) = encs e (L.take n) := by
 by_cases h : n ≤ L.length
 ·
  have h1 : L = L.take n ++ L.drop n := (List.take_append_drop n L).symm
  have h2 : (encs e (L.take n)).length = n * e.sz := by rw [encs_len, List.length_take, Nat.min_eq_left h]
  conv => lhs; rw [h1, encs_app]
  rw [← h2, List.take_left]
 · rw [List.take_of_length_le (by rw [encs_len]; exact Nat.mul_le_mul_right _ (by omega)), List.take_of_length_le (by omega)]
theorem encs_drop (L : List α) (n : Nat) : (encs e L).drop (n * e.sz) = encs e (L.drop n) := by
 by_cases h : n ≤ L.length
 ·
  have h1 : L = L.take n ++ L.drop n := (List.take_append_drop n L).symm
  have h2 : (encs e (L.take n)).length = n * e.sz := by rw [encs_len, List.length_take, Nat.min_eq_left h]
  conv => lhs; rw [h1, encs_app]
  rw [← h2, List.drop_left]
 ·
  rw [List.drop_eq_nil_of_le (by rw [encs_len]; exact Nat.mul_le_mul_right _ (by omega)), List.drop_eq_nil_of_le (by omega)]
  rfl
theorem encs_part (L : List α) (d : α) {j p n : Nat} {cs : List Value} (hj : j < L.length) (hc : ((e.f (L.getD j d)).drop p).take n = cs) (hn : p + n ≤ e.sz) : ((encs e L).drop (j * e.sz + p)).take n = cs := by
 rw [← List.drop_drop, encs_drop, List.drop_eq_getElem_cons hj, show (L[j] :: L.drop (j + 1)) = [L[j]] ++ L.drop (j + 1) from rfl, encs_app, encs_one, List.drop_append_of_le_length (by rw [e.len]; omega), List.take_append_of_le_length (by rw [List.length_drop, e.len]; omega), ← hc]
 simp [List.getD_eq_getElem?_getD, hj]
theorem encs_cell (L : List α) (d : α) {j p : Nat} {v : Value} (hj : j < L.length) (hc : (e.f (L.getD j d))[p]? = some v) : (encs e L)[j * e.sz + p]? = some v := by
 have hp : p < e.sz := by
  have := (List.getElem?_eq_some_iff.1 hc).1
  rwa [e.len] at this
 obtain ⟨hlt, hv⟩ := List.getElem?_eq_some_iff.1 hc
 have h := encs_part (e := e) L d (n := 1) (p := p) (cs := [v]) hj (by rw [List.drop_eq_getElem_cons hlt, hv]; rfl) (by omega)
 have h2 := congrArg (fun z : List Value => z[0]?) h
 simpa using h2
theorem encs_ones (L : List α) : ∀ u ∈ encs e L, u.oneCell' = true := fun u hu => by
 obtain ⟨a, _, h⟩ := List.mem_flatMap.1 hu
 exact e.one a u h
end

section
variable {P : Program} {E : Env} {fr : Fr} {H : Hp} {o : Oper} {t ty : TypeId} {x y : Operand} {v : Value} {α : Type} {en : Enc α}
theorem Q_loadE1 {b m k s rest j p sz : Nat} {ow : Bool} {ty : TypeId} {D : TypeDesc} {L : List α} (d : α) (hs : en.sz = sz) (ho : o.op = .load t x) (hx : fr.ev x = some (.pointer (some ⟨b, m, none⟩))) (hD : P.underlying t = some D) (hd : aggD D = false)
  (hk : H k = some ⟨ow, b, s, ty, encs en L, rest⟩) (hm : s + (j * sz + p) = m) (hj : j < L.length) (hc : (en.f (L.getD j d))[p]? = some v) : QStep P E fr H o v := by
 subst hs
 exact Q_load ho hx hD hd hk rfl hm (encs_cell L d hj hc)
theorem Q_loadEN {b m k s rest j p n sz : Nat} {ow : Bool} {ty : TypeId} {D : TypeDesc} {L : List α} {cs : List Value} (d : α) (hs : en.sz = sz) (ho : o.op = .load t x) (hx : fr.ev x = some (.pointer (some ⟨b, m, none⟩))) (hD : P.underlying t = some D) (hd : aggD D = true) (hz : tsz P t = some n)
  (hk : H k = some ⟨ow, b, s, ty, encs en L, rest⟩) (hm : s + (j * sz + p) = m) (hj : j < L.length) (hc : ((en.f (L.getD j d)).drop p).take n = cs) (hn : cs.length = n) (hp : p + n ≤ sz) : QStep P E fr H o (.agg cs.toArray) := by
 subst hs
 exact Q_loadN ho hx hD hd hz hk rfl hm (encs_part L d hj hc hp) hn
theorem SrcE.all {L : List α} {m c b q k sz : Nat} {A : Option Addr} {r : Row} (hs : en.sz = sz) (hy : fr.ev y = some (.slice A m c)) (hA : 0 < m → A = some ⟨b, q, none⟩) (hk : 0 < m → H k = some r ∧ r.b = b ∧ r.s + 0 = q) (hl : L.length = m) (hc : r.cells = encs en L := by rfl) : Src P E fr H sz y m (encs en L) := by
 subst hs
 exact Src.row (j := 0) hy hA hk (by rw [hc, List.drop_zero, List.take_of_length_le (by rw [encs_len, hl]; exact Nat.le_refl _)]) (by rw [encs_len, hl])
theorem SrcE.part {L : List α} {m c b q k j sz : Nat} {A : Option Addr} {r : Row} (hs : en.sz = sz) (hy : fr.ev y = some (.slice A m c)) (hA : 0 < m → A = some ⟨b, q, none⟩) (hk : 0 < m → H k = some r ∧ r.b = b ∧ r.s + j * sz = q) (hl : j + m ≤ L.length) (hc : r.cells = encs en L := by rfl) : Src P E fr H sz y m (encs en ((L.drop j).take m)) := by
 subst hs
 exact Src.row (j := j * en.sz) hy hA hk (by rw [hc, encs_drop, encs_take]) (by rw [encs_len, List.length_take, List.length_drop, Nat.min_eq_left (by omega)])
theorem SrcE.tail {L : List α} {m c b q k j sz : Nat} {A : Option Addr} {r : Row} (hs : en.sz = sz) (hy : fr.ev y = some (.slice A m c)) (hA : 0 < m → A = some ⟨b, q, none⟩) (hk : 0 < m → H k = some r ∧ r.b = b ∧ r.s + j * sz = q) (hl : j + m = L.length) (hc : r.cells = encs en L := by rfl) : Src P E fr H sz y m (encs en (L.drop j)) := by
 have h := SrcE.part (P := P) (E := E) (en := en) (L := L) hs hy hA hk (Nat.le_of_eq hl) hc
 rwa [List.take_of_length_le (l := L.drop j) (by rw [List.length_drop]; omega)] at h
/-- append. -/
theorem S_appendE {l L : List α} (d : Option Tmp) (k : Nat) (M : List α) {t tx e : TypeId} {D : TypeDesc} {sz by_ b n c m rest : Nat} {A : Option Addr} {z : Value} {K : Fr → Hp → Prop} (hen : en.sz = sz)
  (ho : o.op = .call ⟨.builtin .append, #[x, y], #[t, tx]⟩) (ht : P.underlying t = some (.slice e)) (htx : P.underlying tx = some D) (hD : D = .string ∨ ∃ e', D = .slice e') (hz : tsz P e = some sz) (hby : tby P e = some by_) (hzz : tze P e = some z) (hzc : z.cells.size = sz)
  (hx : fr.ev x = some (.slice A n c)) (hk : 0 < c → A = some ⟨b, 0, none⟩ ∧ H k = some ⟨true, b, 0, e, encs en l, rest⟩) (hlen : l.length = n) (hcap : n * sz + rest = c * sz) (hnc : n ≤ c)
  (hs : Src P E fr H sz y m (encs en L)) (hmax : n + m ≤ 140737488355328) (hbytes : (n + m) * by_ ≤ 140737488355328) (hM : l ++ L = M) (hm : L.length = m)
  (h : ∀ (A' : Option Addr) (b' c' : Nat), (0 < c' → A' = some ⟨b', 0, none⟩) → M.length ≤ c' → K (fr.put E.n d (.slice A' M.length c')) (H.set k ⟨true, b', 0, e, encs en M, (c' - M.length) * sz⟩)) (hd : o.dst = d := by rfl) : SStep P E true fr H o K := by
 subst hM hlen hm hen
 refine S_append d k ho ht htx hD hz hby hzz hzc hx hk (encs_len l) hcap hnc hs (encs_ones L) en.pos hmax hbytes (fun A' b' c' g1 g2 => ?_) hd
 have := h A' b' c' g1 (by rwa [List.length_append])
 rwa [List.length_append, encs_app] at this
/-- append, in place: among the cells that are known. -/
theorem S_appendIn (d : Option Tmp) (k : Nat) {t tx e ty' : TypeId} {D : TypeDesc} {sz b n c m rest : Nat} {A : Option Addr} {cells news : List Value} {K : Fr → Hp → Prop}
  (ho : o.op = .call ⟨.builtin .append, #[x, y], #[t, tx]⟩) (ht : P.underlying t = some (.slice e)) (htx : P.underlying tx = some D) (hD : D = .string ∨ ∃ e', D = .slice e') (hz : tsz P e = some sz)
  (hx : fr.ev x = some (.slice A n c)) (hA : A = some ⟨b, 0, none⟩) (hk : H k = some ⟨true, b, 0, ty', cells, rest⟩) (hroom : n + m ≤ c) (hlen : n * sz + news.length ≤ cells.length) (hpos : cells.length + rest ≠ 0)
  (hs : Src P E fr H sz y m news) (h1 : ∀ u ∈ news, u.oneCell' = true)
  (h : K (fr.put E.n d (.slice A (n + m) c)) (H.set k ⟨true, b, 0, ty', splice cells (n * sz) news, rest⟩)) (hd : o.dst = d := by rfl) : SStep P E true fr H o K := by
 subst hd hA
 intro a w R
 obtain ⟨s1, s2, s3⟩ := hs a w R
 obtain ⟨_, e2, e3, tl, fz, e4, e5, e6⟩ := R.heap.own_ hk rfl hpos
 dsimp only at e2 e3 e4 e5 e6
 obtain ⟨w', r1, r2, r3⟩ := run_stores (P := P) b (n * sz) ty' fz news 0 (cells ++ tl) w e6 (by simp; omega) (by rcases e5 with e5 | e5; exact Or.inl e5; right; simp; omega) h1
 have hrun := exec_append ho (a := a) (P := P) (w := w) (by
  rw [R.ev hx]
  exact run_append_room (D := D) (A := some ⟨b, 0, none⟩) ht htx hD hz s1 s2 hroom (w' := w') (by
   dsimp only
   rw [add_addr, Nat.zero_add]
   exact r1))
 unfold Oper.wp
 rw [hrun]
 refine ⟨fun hh => (by cases hh), _, _, h, ?_⟩
 have R' := R.put o.dst (.slice (some ⟨b, 0, none⟩) (n + m) c)
 refine ⟨R'.df, R'.size, R'.fr, R.chg.trans_new r2 ?_, ?_⟩
 ·
  intro q hq
  obtain rfl : q = b := by simpa using hq
  exact e3
 ·
  refine R.heap.write (r := ⟨true, b, 0, ty', cells, rest⟩) hk rfl hpos (by dsimp only; rw [splice_length _ _ _ hlen]) r2 fun tl' fz' ht' hh' => ?_
  dsimp only at hh' ht' ⊢
  rw [e6] at hh'
  simp only [Option.some.injEq, Obj.cells.injEq] at hh'
  obtain ⟨g1, _, g3⟩ := hh'
  have g1 : cells ++ tl = cells ++ tl' := by simpa using g1
  have g1 := List.append_cancel_left g1
  subst g1 g3
  exact ⟨tl, e4, by rw [r3, Nat.add_zero, splice_append _ _ _ _ hlen]⟩
/-- clear. -/
theorem S_clear (d : Option Tmp) {k : Nat} {t e ty' : TypeId} {b p n c rest : Nat} {A : Option Addr} {z : Value} {cells zs : List Value} {K : Fr → Hp → Prop}
  (ho : o.op = .call ⟨.builtin .clear, #[x], #[t]⟩) (ht : P.underlying t = some (.slice e)) (hzz : tze P e = some z) (hx : fr.ev x = some (.slice A n c)) (hA : A = some ⟨b, p, none⟩) (hn : 0 < n)
  (hk : H k = some ⟨true, b, 0, ty', cells, rest⟩) (hz : (Builtin.zeroCells z.cells n).toList = zs) (h1 : ∀ u ∈ zs, u.oneCell' = true) (hlen : p + zs.length ≤ cells.length) (hpos : cells.length + rest ≠ 0)
  (h : K (fr.put E.n d (.tuple #[])) (H.set k ⟨true, b, 0, ty', splice cells p zs, rest⟩)) (hd : o.dst = d := by rfl) : SStep P E true fr H o K := by
 subst hd hA hz
 intro a w R
 obtain ⟨_, e2, e3, tl, fz, e4, e5, e6⟩ := R.heap.own_ hk rfl hpos
 dsimp only at e2 e3 e4 e5 e6
 obtain ⟨w', r1, r2, r3⟩ := run_stores (P := P) b p ty' fz (Builtin.zeroCells z.cells n).toList 0 (cells ++ tl) w e6 (by rw [List.length_append]; omega) (by rcases e5 with e5 | e5; exact Or.inl e5; right; rw [List.length_append]; omega) h1
 obtain ⟨n, rfl⟩ : ∃ q, n = q + 1 := ⟨n - 1, by omega⟩
 have hrun : (execOp a.eval o).run P w = .ok (.value (.tuple #[])) w' := by
  unfold execOp
  simp [ho, R.ev hx, resolve, invoke, builtin, Builtin.clear_, run_underlying ht, run_tze hzz, r1]
 unfold Oper.wp
 rw [hrun]
 refine ⟨fun hh => (by cases hh), _, _, h, ?_⟩
 have R' := R.put o.dst (.tuple #[])
 refine ⟨R'.df, R'.size, R'.fr, R.chg.trans_new r2 ?_, ?_⟩
 ·
  intro q hq
  obtain rfl : q = b := by simpa using hq
  exact e3
 ·
  refine R.heap.write (r := ⟨true, b, 0, ty', cells, rest⟩) hk rfl hpos (by dsimp only; rw [splice_length _ _ _ hlen]) r2 fun tl' fz' ht' hh' => ?_
  dsimp only at hh' ht' ⊢
  rw [e6] at hh'
  simp only [Option.some.injEq, Obj.cells.injEq] at hh'
  obtain ⟨g1, _, g3⟩ := hh'
  have g1 : cells ++ tl = cells ++ tl' := by simpa using g1
  have g1 := List.append_cancel_left g1
  subst g1 g3
  exact ⟨tl, e4, by rw [r3, Nat.add_zero, splice_append _ _ _ _ hlen]⟩
/-- A slice of one struct. -/
theorem S_buildSliceE (d : Option Tmp) (k : Nat) {cs : List Value} {e : TypeId} {sz : Nat} {z : Value} {K : Fr → Hp → Prop} (ho : o.op = .buildSlice t 1 #[(0, x)]) (ht : P.underlying t = some (.slice e)) (hz : tsz P e = some sz) (hzz : tze P e = some z) (hzc : z.cells.size = sz)
  (hx : fr.ev x = some (.agg cs.toArray)) (hl : cs.length = sz) (h24 : sz ≤ 2 ^ 24) (h0 : sz ≠ 0)
  (h : ∀ b, K (fr.put E.n d (.slice (some ⟨b, 0, none⟩) 1 1)) (H.set k ⟨true, b, 0, e, cs, 0⟩)) (hd : o.dst = d := by rfl) : SStep P E false fr H o K := by
 refine S_buildSlice d k ho ht hz hzz (n := 1) (vs := [(0, .agg cs.toArray)]) (cs := cs) (by omega) (by omega) (by simp [hx]) ?_ h hd
 subst hl
 refine fill_splice (off := 0) (n := cs.length) (vs := cs) (by simp) rfl rfl (by simp) ?_
 rw [splice_all _ _ (by simp)]
 rfl
end
end SE
end Go


/- Families of slices of bytes that begin behind so many of their block's. -/
namespace Go
namespace SE
open Go.RowKit
set_option linter.unusedVariables false
set_option linter.unusedSimpArgs false
/-- A slice l at q of a block's bytes w. -/
structure BG where
 A : Option Addr
 b : Nat
 c : Nat
 l : List (BitVec 8)
 q : Nat
 w : List (BitVec 8)
instance : Inhabited BG := ⟨⟨none, 0, 0, [], 0, []⟩⟩
def BG.ok (e : BG) : Prop := (0 < e.c → e.A = some ⟨e.b, e.q, none⟩) ∧ e.l.length ≤ e.c ∧ (e.w.drop e.q).take e.l.length = e.l ∧ e.q + e.l.length ≤ e.w.length
theorem BG.adr {e : BG} (h : e.ok) (h0 : 0 < e.l.length) : e.A = some ⟨e.b, e.q, none⟩ := h.1 (Nat.lt_of_lt_of_le h0 h.2.1)
theorem BG.okP {es : List BG} {x : BG} (h : ∀ e ∈ es, e.ok) (hx : x.ok) : ∀ e ∈ es ++ [x], e.ok := fun e he => by
 rcases List.mem_append.1 he with he | he
 · exact h e he
 · rw [List.mem_singleton.1 he]; exact hx
abbrev BG.v (e : BG) : Value := .slice e.A e.l.length e.c
abbrev BG.row (ty : TypeId) (e : BG) : Row := ⟨true, e.b, 0, ty, e.w.map u8V, e.c + e.q - e.w.length⟩
abbrev famG (b : Nat) (ty : TypeId) (es : List BG) : Fam := ⟨b, dlt es.length, fun i => (es.getD i default).row ty⟩
section
variable {E : Env} {fr : Fr} {T : Act → World → Prop} {b k : Nat} {ty : TypeId} {es : List BG} {m : List (Nat × Row)} {fs : List Fam}
end
end SE
end Go


/- Functions that take a family's rows, to be read. -/
namespace Go
namespace SE
open Go.RowKit
set_option linter.unusedVariables false
set_option linter.unusedSimpArgs false
/-- What is seen of an element. -/
abbrev BG.vrow (e : BG) : Row := ⟨false, e.b, e.q, 0, e.l.map u8V, 0⟩
abbrev famR (b : Nat) (es : List BG) : Fam := ⟨b, dlt es.length, fun i => (es.getD i default).vrow⟩
theorem HR.famR {E : Env} {w : World} {fixed : List Row} {es : List BG} {b : Nat} (h : HR E (hL (fixed ++ es.map BG.vrow)) w) : HR E (famsOf (hL fixed) [famR b es]) w := by
 have get : ∀ i, i < es.length → (hL (fixed ++ es.map BG.vrow)) (fixed.length + i) = some (es.getD i default).vrow := fun i hi => by
  show (fixed ++ es.map BG.vrow)[fixed.length + i]? = _
  rw [List.getElem?_append_right (Nat.le_add_right _ _), Nat.add_sub_cancel_left, List.getElem?_map, List.getElem?_eq_getElem hi, List.getD_eq_getElem?_getD, List.getElem?_eq_getElem hi]
  rfl
 have low : ∀ k r, hL fixed k = some r → hL (fixed ++ es.map BG.vrow) k = some r := fun k r hk => by
  have hk : fixed[k]? = some r := hk
  show (fixed ++ es.map BG.vrow)[k]? = some r
  rw [List.getElem?_append_left (List.getElem?_eq_some_iff.1 hk).1, hk]
 constructor
 ·
  intro k r hk
  rcases famsOf_some hk with ⟨f, hf, i, hi, _, rfl⟩ | ⟨_, hk⟩
  ·
   rw [List.mem_singleton.1 hf] at hi ⊢
   exact h.row _ _ (get i (dlt_iff.1 hi))
  · exact h.row _ _ (low k r hk)
 ·
  intro k k' r r' hk hk' ho ho' hne h1 h2
  rcases famsOf_some hk with ⟨f, hf, i, hi, _, rfl⟩ | ⟨_, hk⟩
  ·
   rw [List.mem_singleton.1 hf] at ho
   cases ho
  rcases famsOf_some hk' with ⟨f, hf, i, hi, _, rfl⟩ | ⟨_, hk'⟩
  ·
   rw [List.mem_singleton.1 hf] at ho'
   cases ho'
  exact h.apart _ _ _ _ (low k r hk) (low k' r' hk') ho ho' hne h1 h2
section
variable {P : Program}
end
end SE
end Go


/- Families beside rows of one's own; elements read where they lie. -/
namespace Go
namespace SE
open Go.RowKit
set_option linter.unusedVariables false
set_option linter.unusedSimpArgs false
/-- A row of no cells. -/
theorem At.row0 {E : Env} {fr : Fr} {H : Hp} {T : Act → World → Prop} (k : Nat) {r : Row} (ho : r.own = false) (hc : r.cells = []) (h : At E fr (H.set k r) T) : At E fr H T := fun a w R => by
 refine h a w ⟨R.df, R.size, R.fr, R.chg, ?_, ?_⟩
 ·
  intro i x hx
  rcases Hp.set_some hx with ⟨rfl, rfl⟩ | ⟨_, hx⟩
  ·
   show (match x.own with | true => _ | false => _)
   rw [ho]
   exact fun h => absurd hc h
  · exact R.heap.row i x hx
 ·
  intro i i' x x' hx hx' h1 h2 hne g1 g2
  rcases Hp.set_some hx with ⟨rfl, rfl⟩ | ⟨_, hx⟩
  · rw [ho] at h1; cases h1
  rcases Hp.set_some hx' with ⟨rfl, rfl⟩ | ⟨_, hx'⟩
  · rw [ho] at h2; cases h2
  exact R.heap.apart _ _ _ _ hx hx' h1 h2 hne g1 g2
section
variable {P : Program}
end
section
variable {P : Program} {E : Env} {fr : Fr} {H : Hp} {o : Oper} {x : Operand}
end
/-- A list of cells out of its elements. -/
theorem encs_of {α : Type} (en : Enc α) (Q : α → Prop) : ∀ (n : Nat) (cs : List Value), cs.length = n * en.sz → (∀ i, i < n → ∃ a, (cs.drop (i * en.sz)).take en.sz = en.f a ∧ Q a) → ∃ L : List α, cs = encs en L ∧ L.length = n ∧ ∀ e ∈ L, Q e
 | 0, cs, hl, _ => ⟨[], List.eq_nil_of_length_eq_zero (by simpa using hl), rfl, fun e he => nomatch he⟩
 | n + 1, cs, hl, h => by
  obtain ⟨a, ha, hq⟩ := h 0 (by omega)
  rw [Nat.zero_mul, List.drop_zero] at ha
  obtain ⟨L, hL, hn, hb⟩ := encs_of en Q n (cs.drop en.sz) (by rw [List.length_drop, hl, Nat.add_mul, Nat.one_mul]; omega) fun i hi => by
   obtain ⟨a, ha⟩ := h (i + 1) (by omega)
   refine ⟨a, ?_⟩
   rwa [List.drop_drop, show en.sz + i * en.sz = (i + 1) * en.sz by rw [Nat.add_mul, Nat.one_mul]; omega]
  refine ⟨a :: L, ?_, by simp [hn], fun e he => ?_⟩
  ·
   rw [← List.take_append_drop en.sz cs, ha, hL]
   rfl
  ·
   rcases List.mem_cons.1 he with rfl | he
   · exact hq
   · exact hb e he
theorem FamOk.sets {f : Fam} : ∀ {ks : List Nat} {rs : List Row} {H : Hp}, (ks.all fun k => Nat.blt k f.b) = true → FamOk H f → FamOk (H.sets ks rs) f
 | [], _, _, _, h => by
  unfold Hp.sets
  exact h
 | _ :: _, [], _, _, h => by
  unfold Hp.sets
  exact h
 | k :: ks, r :: rs, H, hl, h => by
  rw [List.all_cons, Bool.and_eq_true] at hl
  show FamOk ((H.set k r).sets ks rs) f
  exact FamOk.sets hl.2 (FamOk.set hl.1 h)
theorem FamOk.dels {f : Fam} : ∀ {ks : List Nat} {H : Hp}, (ks.all fun k => Nat.blt k f.b) = true → FamOk H f → FamOk (H.dels ks) f
 | [], _, _, h => h
 | k :: ks, H, hl, h => by
  rw [List.all_cons, Bool.and_eq_true] at hl
  show FamOk ((H.del k).dels ks) f
  exact FamOk.dels hl.2 (FamOk.del hl.1 h)
theorem FK2 {H : Hp} {f : Fam} (h : FamOk H f := by repeat (first | exact rfl | assumption | with_reducible exact FamOk.hd | with_reducible refine FamOk.set ?_ ?_ | with_reducible refine FamOk.del ?_ ?_ | with_reducible refine FamOk.tl ?_ ?_ | with_reducible refine FamOk.sets ?_ ?_ | with_reducible refine FamOk.dels ?_ ?_ | with_reducible refine FamOk.emp ?_ | refine FamOk.hovr (by kernel_rfl) ?_ | refine FamOk.swap rfl rfl ?_)) : FamOk H f := h
example (H : Hp) (r : Row) (es fs : List BG) : FamOk ((((famsOf H [famG 100000 5 es, famR 100001 fs]).set 11 r).dels [12]).sets [13, 14] [r, r]) (famR 100001 fs) := FK2
example (H : Hp) (r : Row) (es fs : List BG) : FamOk (famsOf ((((famsOf H [famG 100000 5 es, famR 100001 fs]).set 11 r).dels [12]).sets [13, 14] [r, r]) [famG 100002 6 es]) (famR 100001 fs) := FK2
end SE
end Go


/- Maps of integers to true. -/
namespace Go
namespace SE
open Go.RowKit
set_option linter.unusedVariables false
set_option linter.unusedSimpArgs false
theorem pr_inj : ∀ {a a' b b' : Nat}, 2 ^ a * (2 * b + 1) = 2 ^ a' * (2 * b' + 1) → a = a' ∧ b = b'
 | 0, 0, b, b', h => by simp at h; omega
 | 0, a' + 1, b, b', h => by
  rw [Nat.pow_succ, Nat.mul_comm (2 ^ a') 2, Nat.mul_assoc] at h
  simp at h
  omega
 | a + 1, 0, b, b', h => by
  rw [Nat.pow_succ, Nat.mul_comm (2 ^ a) 2, Nat.mul_assoc] at h
  simp at h
  omega
 | a + 1, a' + 1, b, b', h => by
  rw [Nat.pow_succ, Nat.mul_comm (2 ^ a) 2, Nat.mul_assoc, Nat.pow_succ, Nat.mul_comm (2 ^ a') 2, Nat.mul_assoc] at h
  obtain ⟨h1, h2⟩ := pr_inj (Nat.eq_of_mul_eq_mul_left (by decide) h)
  exact ⟨by omega, h2⟩
theorem zig_inj {x y : Int} (h : zig x = zig y) : x = y := by
 cases x <;> cases y <;> simp [zig] at h ⊢ <;> omega
theorem mcode_inj : ∀ {U V : List Int}, mcode U = mcode V → U = V
 | [], [], _ => rfl
 | [], y :: V, h => by
  have := Nat.two_pow_pos (zig y)
  have h2 : 2 ^ zig y * (2 * mcode V + 1) ≠ 0 := Nat.mul_ne_zero (by omega) (by omega)
  exact absurd h.symm h2
 | x :: U, [], h => by
  have := Nat.two_pow_pos (zig x)
  have h2 : 2 ^ zig x * (2 * mcode U + 1) ≠ 0 := Nat.mul_ne_zero (by omega) (by omega)
  exact absurd h h2
 | x :: U, y :: V, h => by
  obtain ⟨h1, h2⟩ := pr_inj (show 2 ^ zig x * (2 * mcode U + 1) = 2 ^ zig y * (2 * mcode V + 1) from h)
  rw [zig_inj h1, mcode_inj h2]
def mS (U : List Int) : Nat := mcode U + 1
/-- A map's row. -/
def mRow (b : Nat) (U : List Int) : Row := ⟨true, b, mS U, 0, [], 1⟩
section
variable {P : Program} {E : Env} {fr : Fr} {H : Hp} {o : Oper} {t : TypeId} {x y z : Operand} {w : World}
theorem HR.map {k b : Nat} {U : List Int} (h : HR E H w) (hk : H k = some (mRow b U)) : b < w.heap.size ∧ (b ∈ E.S ∨ E.W0.heap.size ≤ b) ∧ ∃ es clock, w.heap[b]? = some (.map es clock) ∧ MapU es U := by
 obtain ⟨h1, h2, h3⟩ := h.ownB_ hk rfl (by simp [mRow])
 refine ⟨h1, h2, ?_⟩
 rcases h3 with ⟨h3, _⟩ | ⟨_, _, V, es, clock, h4, h5, h6⟩
 · exact absurd h3 (by simp [mRow, mS])
 ·
  have h4 : mcode V + 1 = mcode U + 1 := h4
  rw [mcode_inj (by omega : mcode V = mcode U)] at h6
  exact ⟨es, clock, h5, h6⟩
theorem HR.mapSet {w' : World} {k b : Nat} {U V : List Int} (h : HR E H w) (hk : H k = some (mRow b U)) (hc : Chg [b] w w') {es : Array MapEntry} {clock : Nat} (hb : w'.heap[b]? = some (.map es clock)) (hV : MapU es V) : HR E (H.set k (mRow b V)) w' := by
 obtain ⟨h1, h2, _⟩ := h.map hk
 have hlt : b < w'.heap.size := (Array.getElem?_eq_some_iff.1 hb).1
 refine ⟨fun i r hr => ?_, fun i j r r' hr hr' ho ho' hij hz hz' => ?_⟩
 ·
  rcases Hp.set_some hr with ⟨rfl, rfl⟩ | ⟨hne, hr⟩
  · exact ⟨Or.inr rfl, fun _ => ⟨hlt, h2, Or.inr ⟨by simp [mRow, mS], rfl, V, es, clock, rfl, hb, hV⟩⟩⟩
  ·
   refine (h.row i r hr).chg hc fun hxo hxz hm => ?_
   exact h.apart i k r (mRow b U) hr hk hxo rfl hne hxz (by simp [mRow]) (show r.b = b from by simpa using hm)
 ·
  rcases Hp.set_some hr with ⟨e1, e2⟩ | ⟨g1, hr1⟩ <;> rcases Hp.set_some hr' with ⟨e3, e4⟩ | ⟨g2, hr2⟩
  · exact absurd (e1.trans e3.symm) hij
  · subst e1 e2; exact h.apart i j (mRow b U) r' hk hr2 rfl ho' hij (by simp [mRow]) hz'
  · subst e3 e4; exact h.apart i j r (mRow b U) hr1 hk ho rfl hij hz (by simp [mRow])
  · exact h.apart i j r r' hr1 hr2 ho ho' hij hz hz'
theorem HR.mapNew (h : HR E H w) (hw : Chg E.S E.W0 w) (k : Nat) : HR E (H.set k (mRow w.heap.size [])) (w.alloc (.map #[] 0)) := by
 have hb : Below w.heap.size w (w.alloc (.map #[] 0)) := (Below.refl _ _).alloc (Nat.le_refl _) _
 refine ⟨fun i r hr => ?_, fun i j r r' hr hr' ho ho' hij hz hz' => ?_⟩
 ·
  rcases Hp.set_some hr with ⟨rfl, rfl⟩ | ⟨_, hr⟩
  · exact ⟨Or.inr rfl, fun _ => ⟨by simp [mRow], Or.inr hw.size, Or.inr ⟨by simp [mRow, mS], rfl, [], #[], 0, rfl, by simpa [mRow] using heap_alloc_new w (.map #[] 0), rfl⟩⟩⟩
  · exact (h.below hb).row i r hr
 ·
  rcases Hp.set_some hr with ⟨e1, e2⟩ | ⟨g1, hr1⟩ <;> rcases Hp.set_some hr' with ⟨e3, e4⟩ | ⟨g2, hr2⟩
  · exact absurd (e1.trans e3.symm) hij
  · have := (h.ownB_ hr2 ho' hz').1; subst e2; show w.heap.size ≠ _; omega
  · have := (h.ownB_ hr1 ho hz).1; subst e4; show _ ≠ w.heap.size; omega
  · exact h.apart i j r r' hr1 hr2 ho ho' hij hz hz'
/-- make(map[int]bool) -/
theorem S_makeMap (d : Option Tmp) (k : Nat) {K : Fr → Hp → Prop} (ho : o.op = .makeMap t none) (h : ∀ b, K (fr.put E.n d (.map (some b))) (H.set k (mRow b []))) (hd : o.dst = d := by rfl) : SStep P E false fr H o K := by
 subst hd
 intro a w R
 unfold Oper.wp execOp
 simp [ho, Instr.makeMap, newObj, Oper.upon]
 have hb : Below w.heap.size w (w.alloc (.map #[] 0)) := (Below.refl _ _).alloc (Nat.le_refl _) _
 refine ⟨hb, _, _, h w.heap.size, ?_⟩
 have R' := R.put o.dst (.map (some w.heap.size))
 exact ⟨R'.df, R'.size, R'.fr, R.chg.trans (Chg.of_below hb), R.heap.mapNew R.chg k⟩
theorem findNow_U (n : Int) : ∀ (es : List MapEntry) (U : List Int) (i : Nat), es.map (fun e => (e.key, e.val)) = U.map (fun x => (Value.int .i64 x, Value.bool true)) →
  (n ∈ U → ∃ j, Instr.findNow (.int .i64) (Value.int .i64 n) es i = some (some (j, .bool true))) ∧ (n ∉ U → Instr.findNow (.int .i64) (Value.int .i64 n) es i = some none)
 | [], [], i, _ => ⟨fun h => by simp at h, fun _ => rfl⟩
 | [], _ :: _, i, h => by simp at h
 | _ :: _, [], i, h => by simp at h
 | e :: es, u :: U, i, h => by
  simp only [List.map_cons, List.cons.injEq, Prod.mk.injEq] at h
  obtain ⟨⟨h1, h2⟩, h3⟩ := h
  obtain ⟨g1, g2⟩ := findNow_U n es U (i + 1) h3
  have hs : Instr.sameNow (.int .i64) (Value.int .i64 n) e.key = some (n == u) := by rw [h1]; simp [Instr.sameNow]
  by_cases hn : n = u
  ·
   have hb : (n == u) = true := by simp [hn]
   refine ⟨fun _ => ⟨i, ?_⟩, fun hm => absurd (by simp [hn]) hm⟩
   rw [Instr.findNow, hs, hb]
   simp [h2]
  ·
   have hb : (n == u) = false := by simp [hn]
   refine ⟨fun hm => ?_, fun hm => ?_⟩
   ·
    rw [Instr.findNow, hs, hb]
    exact g1 (by simpa [hn] using hm)
   ·
    rw [Instr.findNow, hs, hb]
    exact g2 (fun h => hm (List.mem_cons_of_mem _ h))
/-- m[n] -/
theorem Q_lookup {k b : Nat} {U : List Int} {n : Int} {kt et : TypeId} (ho : o.op = .lookup t x y false) (ht : P.underlying t = some (.map kt et)) (hkt : P.underlying kt = some (.int .i64)) (hz : tze P et = some (.bool false))
  (hx : fr.ev x = some (.map (some b))) (hy : fr.ev y = some (.int .i64 n)) (hk : H k = some (mRow b U)) : QStep P E fr H o (.bool (decide (n ∈ U))) := by
 intro a w R
 obtain ⟨_, _, es, clock, h1, h2⟩ := R.heap.map hk
 obtain ⟨g1, g2⟩ := findNow_U n es.toList U 0 h2
 have hc : (Instr.checkKey es.isEmpty 10000 kt (.int .i64 n)).run P w = .ok () w := MapKept.run_checkKey hkt (k := .int .i64 n) rfl _ 9999
 have run : (Instr.lookup t (.map (some b)) (.int .i64 n) false).run P w = .ok (.bool (decide (n ∈ U))) w := by
  by_cases hn : n ∈ U
  ·
   obtain ⟨j, hj⟩ := g1 hn
   simp [Instr.lookup, run_underlying ht, MapKept.run_getObj_map h1, hc, MapKept.run_findKey hkt hj, Result.andThen, hn]
  · simp [Instr.lookup, run_underlying ht, MapKept.run_getObj_map h1, hc, MapKept.run_findKey hkt (g2 hn), Result.andThen, run_tze hz, hn]
 unfold execOp
 simp [ho, R.ev hx, R.ev hy, run]
/-- m[n] = true, for the first time -/
theorem S_mapUpdate (d : Option Tmp) {k b : Nat} {U : List Int} {n : Int} {kt et : TypeId} {K : Fr → Hp → Prop} (ho : o.op = .mapUpdate t x y z) (ht : P.underlying t = some (.map kt et)) (hkt : P.underlying kt = some (.int .i64))
  (hx : fr.ev x = some (.map (some b))) (hy : fr.ev y = some (.int .i64 n)) (hv : fr.ev z = some (.bool true)) (hk : H k = some (mRow b U)) (hn : n ∉ U) (h : K (fr.put E.n d undef) (H.set k (mRow b (U ++ [n])))) (hd : o.dst = d := by rfl) : SStep P E true fr H o K := by
 subst hd
 intro a w R
 obtain ⟨hlt, hown, es, clock, h1, h2⟩ := R.heap.map hk
 obtain ⟨_, g2⟩ := findNow_U n es.toList U 0 h2
 have hc : (Instr.checkKey false 10000 kt (.int .i64 n)).run P w = .ok () w := MapKept.run_checkKey hkt (k := .int .i64 n) rfl _ 9999
 have run : (Instr.mapUpdate t (.map (some b)) (.int .i64 n) (.bool true)).run P w = .ok () { w with heap := w.heap.setIfInBounds b (.map (es.push { key := .int .i64 n, val := .bool true, born := clock }) (clock + 1)) } := by
  simp [Instr.mapUpdate, run_underlying ht, MapKept.run_getObj_map h1, hc, MapKept.run_findKey hkt (g2 hn), MapKept.run_setObj_map _ h1, Result.andThen]
 unfold Oper.wp execOp
 simp [ho, R.ev hx, R.ev hy, R.ev hv, run, Oper.upon]
 have hc2 : Chg [b] w { w with heap := w.heap.setIfInBounds b (.map (es.push { key := .int .i64 n, val := .bool true, born := clock }) (clock + 1)) } :=
  ⟨rfl, rfl, rfl, by simp, fun q _ hq => by
   have hq : b ≠ q := fun he => hq (by simp [he])
   simp [hq]⟩
 refine ⟨_, _, h, ?_⟩
 have R' := R.put o.dst undef
 refine ⟨R'.df, R'.size, R'.fr, R.chg.trans_new hc2 ?_, ?_⟩
 ·
  intro q hq
  obtain rfl : q = b := by simpa using hq
  exact hown
 ·
  refine R.heap.mapSet (V := U ++ [n]) hk hc2 (MapKept.heap_set h1).1 ?_
  unfold MapU at h2 ⊢
  rw [Array.toList_push, List.map_append, List.map_append, h2]
  rfl
end
end SE
end Go


/- Rows of laws that need the bound that each argument's own bytes have; openers that hand it on. Generic (no program). -/
namespace Go
namespace ROW
open Go.ChangeShapes Go.WideShapes Go.ChangeAt Go.RowKit Go.SE
set_option linter.unusedVariables false
set_option linter.unusedSimpArgs false
end ROW
end Go

