/- Regions that draw their order, walked by all orders of what acts, what is pure put first; rows under other labels; append of nothing. Generic (no program). -/
import Derived.Test.YtdingfinclcbgaaSE15
namespace Go
namespace SE
open Go.RowKit
set_option linter.unusedVariables false
set_option linter.unusedSimpArgs false
section
variable {P : Program} {E : Env} {fr : Fr} {H : Hp} {l : List Oper} {Q : Exit → Act → World → Prop} {v : Value} {i : Nat}
def EA (P : Program) (l : List Oper) (Q : Exit → Act → World → Prop) (f : Nat) (listed : Array Bool) : Act → World → Prop := fun a w =>
  HeadInv .any l.toArray l.toArray.size listed → RG.wpAnyE P .any l.toArray Q RG.Ext (fun j => (List.range l.length).contains j) l.toArray.size
    (fun listed a w => Region.ready .any l.toArray listed = [] ∧ ∀ w2, RG.Ext w w2 → Q .normal a w2) f listed a w
theorem At.eBrute {id : Nat} (J : Fr → Hp → Prop) (hm : P.follows .mixedOrders = true)
    (h : ∀ K : Act → World → Prop, (∀ fr' H', J fr' H' → At E fr' H' K) → At E fr H (EA P l (Exit.then K Q) l.length (Array.replicate l.toArray.size false)))
    (h2 : ∀ fr' H', J fr' H' → At E fr' H' (Q .normal)) : At E fr H ((Code.region id l.toArray true).wp P Q) := by
  intro a w R
  have e : Exit.then (Q .normal) Q = Q := by
    funext e a w
    cases e <;> rfl
  have := h (Q .normal) h2 a w.drew R.drew
  rw [e] at this
  refine wp_region_any hm ?_
  have h3 := RG.wpAny_of_E (g := 0) (fun a => RG.Ext.refl a) (fun listed a w hL => ⟨hL.1, hL.2 w (RG.Ext.refl w)⟩) _ _ _ _ (this RG.inv0)
  simpa using h3
theorem At.eStep {fuel : Nat} {listed : Array Bool} (rs : List Nat) (hr : Region.ready .any l.toArray listed = rs) (hne : rs ≠ []) (h : AllL (fun i => At E fr H (wpOp P l.toArray (RG.QX Q) i (EA P l Q fuel (listed.setIfInBounds i true)))) rs) :
    At E fr H (EA P l Q (fuel + 1) listed) := by
  intro a w R inv
  refine ⟨fun h0 => absurd (hr.symm.trans h0) hne, fun w' hw' i hi => ?_⟩
  have hin : i < l.toArray.size := by
    obtain ⟨_, o, ho, _⟩ := mem_ready.1 hi
    exact (Array.getElem?_eq_some_iff.1 ho).1
  refine ⟨hin, wpOp_mono (fun a' w'' h3 => ⟨fun hb => ?_, h3 (inv.set hi hin)⟩) (h.mem i (by rw [← hr]; exact hi) a w' (R.below hw'))⟩
  have hin' : i < l.length := by simpa using hin
  simp [hin'] at hb
theorem At.eEnd {listed : Array Bool} (hr : Region.ready .any l.toArray listed = []) (h : At E fr H (Q .normal)) : At E fr H (EA P l Q 0 listed) :=
  fun a w R _ => ⟨hr, fun w2 h2 => h a w2 (R.below h2)⟩
/-- What is pure may go first. -/
theorem At.eP {fuel : Nat} {listed : Array Bool} (i : Nat) (d : Option Tmp) (h : PStep P fr (l.getD i default) v) (hsel : Region.noSelect l.toArray = true) (hB : RG.lexQ .any l.toArray l.toArray.size (List.range l.length) true [i] listed = true)
    (h' : At E (fr.put E.n d v) H (EA P l Q fuel (listed.setIfInBounds i true))) (hg : (l.getD i default).guard = none := by rfl) (hd : (l.getD i default).dst = d := by rfl) : At E fr H (EA P l Q (fuel + 1) listed) := by
  intro a w R inv
  subst hd
  have hwt : RG.waitB .any l.toArray l.toArray.size = true := by simp [RG.waitB]
  obtain ⟨hn, hw⟩ := RG.waitB_spec hwt
  refine RG.batch (s := true) (anyL := List.range l.length) (n := l.toArray.size) (A := a.put (l.getD i default).dst v) (R := RG.Ext) (Cl := RG.ClX) (f := fuel) hsel hw hn (fun _ _ _ h k => RG.Ext.trans h k) (fun a b h => h) (fun w => RG.ClX.mk (RG.Ext.refl w)) (fun w x h => h.ext)
    (fun listed a w w' hL hr => ⟨hL.1, fun w2 h2 => hL.2 w2 (RG.Ext.trans hr h2)⟩) (fun listed a w hL j hj => by rw [hL.1] at hj; cases hj) [i] listed a inv hB (fun w' hw' => ?_) (fun inv' => h' _ w (R.put _ v) inv')
  show wpQuiet P l.toArray (RG.ClX w') (fun a' => a' = a.put (l.getD i default).dst v) [l.getD i default] a
  unfold wpQuiet
  rw [if_pos (by unfold Region.wanted; rw [hg])]
  refine ⟨v, fun w2 hw2 => ?_, rfl⟩
  unfold Oper.quietAt
  rw [h a R.fr w2]
  exact ⟨rfl, rfl⟩
/-- Rows under other labels. -/
theorem At.swap {T : Act → World → Prop} (i j : Nat) (h : At E fr (fun k => H (if k = i then j else if k = j then i else k)) T) : At E fr H T := fun a w R => by
  have inj : ∀ p q : Nat, (if p = i then j else if p = j then i else p) = (if q = i then j else if q = j then i else q) → p = q := fun p q hpq => by
    split at hpq <;> split at hpq <;> (try split at hpq) <;> (try split at hpq) <;> omega
  exact h a w ⟨R.df, R.size, R.fr, R.chg, ⟨fun k r hk => R.heap.row _ r hk, fun k k' r r' h1 h2 ho1 ho2 hne hz hz' => R.heap.apart _ _ r r' h1 h2 ho1 ho2 (fun hh => hne (inj _ _ hh)) hz hz'⟩⟩
variable {o : Oper} {x y : Operand}
/-- append of nothing, to a slice that is full. -/
theorem S_append0 (d : Option Tmp) {any : Bool} {t tx e : TypeId} {D : TypeDesc} {n c sz m : Nat} {A : Option Addr} {K : Fr → Hp → Prop}
    (ho : o.op = .call ⟨.builtin .append, #[x, y], #[t, tx]⟩) (ht : P.underlying t = some (.slice e)) (htx : P.underlying tx = some D) (hD : D = .string ∨ ∃ e', D = .slice e') (hz : tsz P e = some sz)
    (hx : fr.ev x = some (.slice A n c)) (hn : n ≤ c) (hs : Src P E fr H sz y m []) (hm : m = 0) (h : K (fr.put E.n d (.slice A n c)) H) (hd : o.dst = d := by rfl) : SStep P E any fr H o K := by
  subst hd hm
  intro a w R
  obtain ⟨s1, s2, _⟩ := hs a w R
  have hrun := exec_append ho (a := a) (P := P) (w := w) (by
    rw [R.ev hx]
    exact run_append_room (D := D) ht htx hD hz s1 s2 (by omega) (w' := w) (by cases A <;> rfl))
  unfold Oper.wp
  rw [hrun]
  have R' := R.put o.dst (.slice A n c)
  exact ⟨fun _ => Below.refl _ _, _, _, h, R'.df, R'.size, R'.fr, R.chg, R.heap⟩
end
end SE
end Go
