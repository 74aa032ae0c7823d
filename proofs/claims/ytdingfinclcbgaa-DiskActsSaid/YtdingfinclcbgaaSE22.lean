/- All orders of a region that draws, by what is done so far. Generic (no program). -/
import Derived.Test.YtdingfinclcbgaaSE20
namespace Go
namespace SE
open Go.RowKit
set_option linter.unusedVariables false
set_option linter.unusedSimpArgs false
section
variable {P : Program} {E : Env} {fr : Fr} {H : Hp} {l : List Oper} {Q : Exit → Act → World → Prop}
theorem At.eBruteG {id : Nat} (J : Fr → Hp → Prop) (hm : P.follows .mixedOrders = true)
    (h : ∀ K : Act → World → Prop, (∀ fr' H', J fr' H' → At E fr' H' K) → ∀ G : Nat → Array Bool → Fr → Hp → Prop, (∀ {f ls fr H}, G f ls fr H → At E fr H (EA P l (Exit.then K Q) f ls)) → (∀ {f ls fr H}, At E fr H (EA P l (Exit.then K Q) f ls) → G f ls fr H) → G l.length (Array.replicate l.toArray.size false) fr H)
    (h2 : ∀ fr' H', J fr' H' → At E fr' H' (Q .normal)) : At E fr H ((Code.region id l.toArray true).wp P Q) :=
  At.eBrute J hm (fun K hK => h K hK (fun f ls fr H => At E fr H (EA P l (Exit.then K Q) f ls)) (fun h => h) (fun h => h)) h2
variable {v : Value} {i : Nat}
/-- A guarded operation that comes, in any order. -/
theorem At.anySg {K : Act → World → Prop} {any : Bool} {tt : Tmp} {j : Nat} {want bb : Bool} (hb : fr tt = some (.bool bb)) (hw : bb = want) (h : SStep P E any fr H (l.getD i default) (fun fr' H' => At E fr' H' K)) (hi : i < l.length := by decide) (hg : (l.getD i default).guard = some (j, want) := by rfl)
    (hj : (l.toArray[j]?).bind (·.dst) = some tt := by rfl) : At E fr H (wpOp P l.toArray Q i K) := by
  intro a w R
  have h1 := wanted_of (ops := l.toArray) (E := E) (H := H) hg hj hb R
  unfold wpOp
  rw [at_op hi]
  subst hw
  simp only [h1, beq_self_eq_true, if_true]
  exact Or.inl (RG.wp_monoQ (fun a' w'' ⟨_, fr', H', h2, h3⟩ => h2 _ _ h3) (fun _ _ _ h => h.elim) (fun ⟨_, _, h⟩ => h.elim) (h a w R))
theorem At.anyQg {K : Act → World → Prop} {tt : Tmp} {j : Nat} {want bb : Bool} (hb : fr tt = some (.bool bb)) (hw : bb = want) (d : Option Tmp) (h : QStep P E fr H (l.getD i default) v) (h' : At E (fr.put E.n d v) H K) (hi : i < l.length := by decide) (hg : (l.getD i default).guard = some (j, want) := by rfl)
    (hj : (l.toArray[j]?).bind (·.dst) = some tt := by rfl) (hd : (l.getD i default).dst = d := by rfl) : At E fr H (wpOp P l.toArray Q i K) := by
  intro a w R
  have h1 := wanted_of (ops := l.toArray) (E := E) (H := H) hg hj hb R
  unfold wpOp
  rw [at_op hi]
  subst hw
  simp only [h1, beq_self_eq_true, if_true]
  refine Or.inl ?_
  unfold Oper.wp
  rw [h a w R]
  subst hd
  exact h' _ _ (R.put _ v)
theorem At.ePg {fuel : Nat} {listed : Array Bool} {tt : Tmp} {j : Nat} {want bb : Bool} (i : Nat) (d : Option Tmp) (hb : fr tt = some (.bool bb)) (hw : bb = want) (h : PStep P fr (l.getD i default) v) (hsel : Region.noSelect l.toArray = true) (hB : RG.lexQ .any l.toArray l.toArray.size (List.range l.length) true [i] listed = true)
    (h' : At E (fr.put E.n d v) H (EA P l Q fuel (listed.setIfInBounds i true))) (hg : (l.getD i default).guard = some (j, want) := by rfl) (hj : (l.toArray[j]?).bind (·.dst) = some tt := by rfl) (hd : (l.getD i default).dst = d := by rfl) : At E fr H (EA P l Q (fuel + 1) listed) := by
  intro a w R inv
  subst hd
  have h1 := wanted_of (ops := l.toArray) (E := E) (H := H) hg hj hb R
  have hwt : RG.waitB .any l.toArray l.toArray.size = true := by simp [RG.waitB]
  obtain ⟨hn, hw2⟩ := RG.waitB_spec hwt
  refine RG.batch (s := true) (anyL := List.range l.length) (n := l.toArray.size) (A := a.put (l.getD i default).dst v) (R := RG.Ext) (Cl := RG.ClX) (f := fuel) hsel hw2 hn (fun _ _ _ h k => RG.Ext.trans h k) (fun a b h => h) (fun w => RG.ClX.mk (RG.Ext.refl w)) (fun w x h => h.ext)
    (fun listed a w w' hL hr => ⟨hL.1, fun w2 h2 => hL.2 w2 (RG.Ext.trans hr h2)⟩) (fun listed a w hL j hj => by rw [hL.1] at hj; cases hj) [i] listed a inv hB (fun w' hw' => ?_) (fun inv' => h' _ w (R.put _ v) inv')
  show wpQuiet P l.toArray (RG.ClX w') (fun a' => a' = a.put (l.getD i default).dst v) [l.getD i default] a
  unfold wpQuiet
  subst hw
  rw [if_pos (by rw [h1]; simp)]
  refine ⟨v, fun w2 hw2 => ?_, rfl⟩
  unfold Oper.quietAt
  rw [h a R.fr w2]
  exact ⟨rfl, rfl⟩
end
end SE
end Go
