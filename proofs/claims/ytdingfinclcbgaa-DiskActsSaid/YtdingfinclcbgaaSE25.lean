/- All orders of a region that draws, by what is done so far; what only reads, or calls and leaves nothing, goes first. Generic (no program). -/
import Derived.Test.YtdingfinclcbgaaSE22
namespace Go
namespace SE
open Go.RowKit
set_option linter.unusedVariables false
set_option linter.unusedSimpArgs false
section
variable {P : Program} {E : Env} {fr : Fr} {H : Hp} {l : List Oper} {Q : Exit → Act → World → Prop} {v : Value} {i : Nat} {anyL : List Nat}
def EB (P : Program) (l : List Oper) (Q : Exit → Act → World → Prop) (anyL : List Nat) (f : Nat) (listed : Array Bool) : Act → World → Prop := fun a w =>
  HeadInv .any l.toArray l.toArray.size listed → RG.wpAnyE P .any l.toArray Q RG.Ext (fun j => anyL.contains j) l.toArray.size
    (fun listed a w => Region.ready .any l.toArray listed = [] ∧ ∀ w2, RG.Ext w w2 → Q .normal a w2) f listed a w
theorem At.into {T : Act → World → Prop} {l : List (Nat × Value)} {m : List (Nat × Row)} (h : At E (frOf l) (hOf m) T) (hf : l.map (fun p => fr p.1) = l.map (fun p => some p.2)) (hH : m.map (fun p => H p.1) = m.map (fun p => some p.2)) : At E fr H T :=
  h.weak (frOf_le fun p hp => List.map_inj_left.1 hf p hp) (hOf_le fun p hp => List.map_inj_left.1 hH p hp)
theorem At.bBruteG {id : Nat} (anyL : List Nat) (J : Fr → Hp → Prop) (hm : P.follows .mixedOrders = true)
    (h : ∀ K : Act → World → Prop, (∀ fr' H', J fr' H' → At E fr' H' K) → ∀ G : Nat → Array Bool → Fr → Hp → Prop, (∀ {f ls fr H}, G f ls fr H → At E fr H (EB P l (Exit.then K Q) anyL f ls)) → (∀ {f ls fr H}, At E fr H (EB P l (Exit.then K Q) anyL f ls) → G f ls fr H) → G l.length (Array.replicate l.toArray.size false) fr H)
    (h2 : ∀ fr' H', J fr' H' → At E fr' H' (Q .normal)) : At E fr H ((Code.region id l.toArray true).wp P Q) := by
  intro a w R
  have e : Exit.then (Q .normal) Q = Q := by
    funext e a w
    cases e <;> rfl
  have := h (Q .normal) h2 (fun f ls fr H => At E fr H (EB P l (Exit.then (Q .normal) Q) anyL f ls)) (fun h => h) (fun h => h) a w.drew R.drew
  rw [e] at this
  refine wp_region_any hm ?_
  have h3 := RG.wpAny_of_E (g := 0) (fun a => RG.Ext.refl a) (fun listed a w hL => ⟨hL.1, hL.2 w (RG.Ext.refl w)⟩) _ _ _ _ (this RG.inv0)
  simpa using h3
theorem At.bEnd {listed : Array Bool} (hr : Region.ready .any l.toArray listed = []) (h : At E fr H (Q .normal)) : At E fr H (EB P l Q anyL 0 listed) :=
  fun a w R _ => ⟨hr, fun w2 h2 => h a w2 (R.below h2)⟩
/-- One act's step. -/
def StepB (P : Program) (E : Env) (l : List Oper) (Q : Exit → Act → World → Prop) (anyL : List Nat) (fr : Fr) (H : Hp) (i : Nat) (K : Act → World → Prop) : Prop :=
  ∀ a w, Rep E fr H a w → wpOp P l.toArray (RG.QX Q) i (fun a' w'' => (anyL.contains i = false → RG.Ext w w'') ∧ K a' w'') a w
theorem At.bStep {fuel : Nat} {listed : Array Bool} (rs : List Nat) (hr : Region.ready .any l.toArray listed = rs) (hne : rs ≠ []) (h : AllL (fun i => StepB P E l Q anyL fr H i (EB P l Q anyL fuel (listed.setIfInBounds i true))) rs) :
    At E fr H (EB P l Q anyL (fuel + 1) listed) := by
  intro a w R inv
  refine ⟨fun h0 => absurd (hr.symm.trans h0) hne, fun w' hw' i hi => ?_⟩
  have hin : i < l.toArray.size := by
    obtain ⟨_, o, ho, _⟩ := mem_ready.1 hi
    exact (Array.getElem?_eq_some_iff.1 ho).1
  exact ⟨hin, wpOp_mono (fun a' w'' h3 => ⟨h3.1, h3.2 (inv.set hi hin)⟩) (h.mem i (by rw [← hr]; exact hi) a w' (R.below hw'))⟩
theorem At.bS {K : Act → World → Prop} (any : Bool) (hb : anyL.contains i = any) (h : SStep P E any fr H (l.getD i default) (fun fr' H' => At E fr' H' K)) (hi : i < l.length := by decide) (hg : (l.getD i default).guard = none := by rfl) : StepB P E l Q anyL fr H i K := by
  intro a w R
  unfold wpOp
  rw [at_op hi]
  simp only [Region.wanted, hg, if_true]
  exact Or.inl (RG.wp_monoQ (fun a' w'' ⟨h0, fr', H', h2, h3⟩ => ⟨fun hc => h0 (hb.symm.trans hc), h2 _ _ h3⟩) (fun _ _ _ h => h.elim) (fun ⟨_, _, h⟩ => h.elim) (h a w R))
theorem At.bSg {K : Act → World → Prop} {tt : Tmp} {j : Nat} {want bb : Bool} (any : Bool) (hb : anyL.contains i = any) (hbb : fr tt = some (.bool bb)) (hw : bb = want) (h : SStep P E any fr H (l.getD i default) (fun fr' H' => At E fr' H' K)) (hi : i < l.length := by decide) (hg : (l.getD i default).guard = some (j, want) := by rfl)
    (hj : (l.toArray[j]?).bind (·.dst) = some tt := by rfl) : StepB P E l Q anyL fr H i K := by
  intro a w R
  have h1 := wanted_of (ops := l.toArray) (E := E) (H := H) hg hj hbb R
  unfold wpOp
  rw [at_op hi]
  subst hw
  simp only [h1, beq_self_eq_true, if_true]
  exact Or.inl (RG.wp_monoQ (fun a' w'' ⟨h0, fr', H', h2, h3⟩ => ⟨fun hc => h0 (hb.symm.trans hc), h2 _ _ h3⟩) (fun _ _ _ h => h.elim) (fun ⟨_, _, h⟩ => h.elim) (h a w R))
/-- What reads, in any order. -/
theorem At.bSQ {K : Act → World → Prop} (d : Option Tmp) (h : QStep P E fr H (l.getD i default) v) (h' : At E (fr.put E.n d v) H K) (hi : i < l.length := by decide) (hg : (l.getD i default).guard = none := by rfl) (hd : (l.getD i default).dst = d := by rfl) : StepB P E l Q anyL fr H i K := by
  intro a w R
  unfold wpOp
  rw [at_op hi]
  simp only [Region.wanted, hg, if_true]
  refine Or.inl ?_
  unfold Oper.wp
  rw [h a w R]
  subst hd
  exact ⟨fun _ => RG.Ext.refl w, h' _ _ (R.put _ v)⟩
theorem At.bSQg {K : Act → World → Prop} {tt : Tmp} {j : Nat} {want bb : Bool} (hbb : fr tt = some (.bool bb)) (hw : bb = want) (d : Option Tmp) (h : QStep P E fr H (l.getD i default) v) (h' : At E (fr.put E.n d v) H K) (hi : i < l.length := by decide) (hg : (l.getD i default).guard = some (j, want) := by rfl)
    (hj : (l.toArray[j]?).bind (·.dst) = some tt := by rfl) (hd : (l.getD i default).dst = d := by rfl) : StepB P E l Q anyL fr H i K := by
  intro a w R
  have h1 := wanted_of (ops := l.toArray) (E := E) (H := H) hg hj hbb R
  unfold wpOp
  rw [at_op hi]
  subst hw
  simp only [h1, beq_self_eq_true, if_true]
  refine Or.inl ?_
  unfold Oper.wp
  rw [h a w R]
  subst hd
  exact ⟨fun _ => RG.Ext.refl w, h' _ _ (R.put _ v)⟩
/-- Something quiet may go first. -/
theorem bFirst {fuel : Nat} {listed : Array Bool} (s : Bool) (i : Nat) (hsel : Region.noSelect l.toArray = true) (hB : RG.lexQ .any l.toArray l.toArray.size anyL s [i] listed = true)
    (hy : ∀ a w, Rep E fr H a w → ∀ w', (s = true ∨ RG.Ext w w') → wpQuiet P l.toArray (RG.ClX w') (fun a' => a' = a.put (l.getD i default).dst v) [l.getD i default] a)
    (h' : At E (fr.put E.n (l.getD i default).dst v) H (EB P l Q anyL fuel (listed.setIfInBounds i true))) : At E fr H (EB P l Q anyL (fuel + 1) listed) := by
  intro a w R inv
  have hwt : RG.waitB .any l.toArray l.toArray.size = true := by simp [RG.waitB]
  obtain ⟨hn, hw⟩ := RG.waitB_spec hwt
  exact RG.batch (s := s) (anyL := anyL) (n := l.toArray.size) (A := a.put (l.getD i default).dst v) (R := RG.Ext) (Cl := RG.ClX) (f := fuel) hsel hw hn (fun _ _ _ h k => RG.Ext.trans h k) (fun a b h => h) (fun w => RG.ClX.mk (RG.Ext.refl w)) (fun w x h => h.ext)
    (fun listed a w w' hL hr => ⟨hL.1, fun w2 h2 => hL.2 w2 (RG.Ext.trans hr h2)⟩) (fun listed a w hL j hj => by rw [hL.1] at hj; cases hj) [i] listed a inv hB (hy a w R) (fun inv' => h' _ w (R.put _ v) inv')
theorem wantedN {ops : Array Oper} {o : Oper} {t : Array Value} (hg : o.guard = none) : Region.wanted o (yielded ops t) = true := by unfold Region.wanted; rw [hg]
theorem At.bP {fuel : Nat} {listed : Array Bool} (i : Nat) (d : Option Tmp) (h : PStep P fr (l.getD i default) v) (hsel : Region.noSelect l.toArray = true) (hB : RG.lexQ .any l.toArray l.toArray.size anyL true [i] listed = true)
    (h' : At E (fr.put E.n d v) H (EB P l Q anyL fuel (listed.setIfInBounds i true))) (hg : (l.getD i default).guard = none := by rfl) (hd : (l.getD i default).dst = d := by rfl) : At E fr H (EB P l Q anyL (fuel + 1) listed) := by
  subst hd
  refine bFirst true i hsel hB (fun a w R w' _ => ?_) h'
  unfold wpQuiet
  rw [if_pos (wantedN hg)]
  exact ⟨v, fun w2 hw2 => by unfold Oper.quietAt; rw [h a R.fr w2]; exact ⟨rfl, rfl⟩, rfl⟩
theorem At.bPg {fuel : Nat} {listed : Array Bool} {tt : Tmp} {j : Nat} {want bb : Bool} (i : Nat) (d : Option Tmp) (hb : fr tt = some (.bool bb)) (hw : bb = want) (h : PStep P fr (l.getD i default) v) (hsel : Region.noSelect l.toArray = true) (hB : RG.lexQ .any l.toArray l.toArray.size anyL true [i] listed = true)
    (h' : At E (fr.put E.n d v) H (EB P l Q anyL fuel (listed.setIfInBounds i true))) (hg : (l.getD i default).guard = some (j, want) := by rfl) (hj : (l.toArray[j]?).bind (·.dst) = some tt := by rfl) (hd : (l.getD i default).dst = d := by rfl) : At E fr H (EB P l Q anyL (fuel + 1) listed) := by
  subst hd hw
  refine bFirst true i hsel hB (fun a w R w' _ => ?_) h'
  unfold wpQuiet
  rw [if_pos (by rw [wanted_of (ops := l.toArray) (E := E) (H := H) hg hj hb R]; simp)]
  exact ⟨v, fun w2 hw2 => by unfold Oper.quietAt; rw [h a R.fr w2]; exact ⟨rfl, rfl⟩, rfl⟩
theorem At.bQ {fuel : Nat} {listed : Array Bool} (i : Nat) (d : Option Tmp) (h : QStep P E fr H (l.getD i default) v) (hsel : Region.noSelect l.toArray = true) (hB : RG.lexQ .any l.toArray l.toArray.size anyL false [i] listed = true)
    (h' : At E (fr.put E.n d v) H (EB P l Q anyL fuel (listed.setIfInBounds i true))) (hg : (l.getD i default).guard = none := by rfl) (hd : (l.getD i default).dst = d := by rfl) : At E fr H (EB P l Q anyL (fuel + 1) listed) := by
  subst hd
  refine bFirst false i hsel hB (fun a w R w' hw' => ?_) h'
  have hw' : RG.Ext w w' := by simpa using hw'
  unfold wpQuiet
  rw [if_pos (wantedN hg)]
  exact ⟨v, fun w2 hw2 => by unfold Oper.quietAt; rw [h a w2 (R.below (RG.Ext.trans hw' hw2.ext))]; exact ⟨rfl, rfl⟩, rfl⟩
theorem At.bQg {fuel : Nat} {listed : Array Bool} {tt : Tmp} {j : Nat} {want bb : Bool} (i : Nat) (d : Option Tmp) (hb : fr tt = some (.bool bb)) (hw : bb = want) (h : QStep P E fr H (l.getD i default) v) (hsel : Region.noSelect l.toArray = true) (hB : RG.lexQ .any l.toArray l.toArray.size anyL false [i] listed = true)
    (h' : At E (fr.put E.n d v) H (EB P l Q anyL fuel (listed.setIfInBounds i true))) (hg : (l.getD i default).guard = some (j, want) := by rfl) (hj : (l.toArray[j]?).bind (·.dst) = some tt := by rfl) (hd : (l.getD i default).dst = d := by rfl) : At E fr H (EB P l Q anyL (fuel + 1) listed) := by
  subst hd hw
  refine bFirst false i hsel hB (fun a w R w' hw' => ?_) h'
  have hw' : RG.Ext w w' := by simpa using hw'
  unfold wpQuiet
  rw [if_pos (by rw [wanted_of (ops := l.toArray) (E := E) (H := H) hg hj hb R]; simp)]
  exact ⟨v, fun w2 hw2 => by unfold Oper.quietAt; rw [h a w2 (R.below (RG.Ext.trans hw' hw2.ext))]; exact ⟨rfl, rfl⟩, rfl⟩
theorem call_first {o : Oper} {f : FuncId} {xs : List Operand} {tys : Array TypeId} {vs : List Value} (views : List (Nat × Row)) (ho : o.op = .call ⟨.value (.func f), xs.toArray, tys⟩) (he : entersB P f = true) (ha : ArgsOk fr xs vs)
    (hV : ViewsOk H [] views) (hcon : Con P f vs (views.map (·.2)) fun u rows' => u = v ∧ rows' = []) {a : Act} {w w' : World} (R : Rep E fr H a w) (hw' : RG.Ext w w') (w2 : World) (hw2 : RG.ClX w' w2) : Oper.quietAt P o a (RG.ClX w') w2 v := by
  unfold Oper.quietAt
  have R2 := R.below (RG.Ext.trans hw' hw2.ext)
  rw [run_call ho he ha R.fr w2]
  have hl0 := R2.heap.lift R2.chg [] views (by simp) (by simp) hV.mem
  simp only [List.map_nil, List.nil_append] at hl0
  refine ⟨rfl, (hcon w2 hl0).mono fun e w3 ⟨u, rows', h1, ⟨hu, _⟩, h3, h4, h5⟩ => ?_⟩
  have hvo : ∀ p ∈ views, p.2.own = false := fun p hp => by
    rcases hV.mem p hp with h1 | ⟨_, r, _, h3, _⟩
    · exact h1.2
    · exact h3
  have hnil : ownB (views.map (·.2)) = [] := ownB_views fun r hr => by
    obtain ⟨p, hp, rfl⟩ := List.mem_map.1 hr
    exact hvo p hp
  rw [hnil] at h3
  exact ⟨hu ▸ h1, RG.ClX.mk (RG.Ext.trans hw2.ext h3.below)⟩
theorem At.bC {fuel : Nat} {listed : Array Bool} (i : Nat) (d : Option Tmp) (views : List (Nat × Row)) {f : FuncId} {xs : List Operand} {tys : Array TypeId} {vs : List Value} (hsel : Region.noSelect l.toArray = true) (hB : RG.lexQ .any l.toArray l.toArray.size anyL false [i] listed = true) (ho : (l.getD i default).op = .call ⟨.value (.func f), xs.toArray, tys⟩) (he : entersB P f = true) (ha : ArgsOk fr xs vs)
    (hV : ViewsOk H [] views) (hcon : Con P f vs (views.map (·.2)) fun u rows' => u = v ∧ rows' = [])
    (h' : At E (fr.put E.n d v) H (EB P l Q anyL fuel (listed.setIfInBounds i true))) (hg : (l.getD i default).guard = none := by rfl) (hd : (l.getD i default).dst = d := by rfl) : At E fr H (EB P l Q anyL (fuel + 1) listed) := by
  subst hd
  refine bFirst false i hsel hB (fun a w R w' hw' => ?_) h'
  have hw' : RG.Ext w w' := by simpa using hw'
  unfold wpQuiet
  rw [if_pos (wantedN hg)]
  exact ⟨v, fun w2 hw2 => call_first views ho he ha hV hcon R hw' w2 hw2, rfl⟩
theorem At.bCg {fuel : Nat} {listed : Array Bool} {tt : Tmp} {j : Nat} {want bb : Bool} (i : Nat) (d : Option Tmp) (views : List (Nat × Row)) {f : FuncId} {xs : List Operand} {tys : Array TypeId} {vs : List Value} (hb : fr tt = some (.bool bb)) (hw : bb = want) (hsel : Region.noSelect l.toArray = true) (hB : RG.lexQ .any l.toArray l.toArray.size anyL false [i] listed = true) (ho : (l.getD i default).op = .call ⟨.value (.func f), xs.toArray, tys⟩) (he : entersB P f = true) (ha : ArgsOk fr xs vs)
    (hV : ViewsOk H [] views) (hcon : Con P f vs (views.map (·.2)) fun u rows' => u = v ∧ rows' = [])
    (h' : At E (fr.put E.n d v) H (EB P l Q anyL fuel (listed.setIfInBounds i true))) (hg : (l.getD i default).guard = some (j, want) := by rfl) (hj : (l.toArray[j]?).bind (·.dst) = some tt := by rfl) (hd : (l.getD i default).dst = d := by rfl) : At E fr H (EB P l Q anyL (fuel + 1) listed) := by
  subst hd hw
  refine bFirst false i hsel hB (fun a w R w' hw' => ?_) h'
  have hw' : RG.Ext w w' := by simpa using hw'
  unfold wpQuiet
  rw [if_pos (by rw [wanted_of (ops := l.toArray) (E := E) (H := H) hg hj hb R]; simp)]
  exact ⟨v, fun w2 hw2 => call_first views ho he ha hV hcon R hw' w2 hw2, rfl⟩
end
end SE
end Go
