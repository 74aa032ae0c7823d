/- Two ways that meet again; contracts that hand back an empty row more. Generic (no program). -/
import Derived.Test.YtdingfinclcbgaaSE19
namespace Go
namespace SE
open Go.RowKit
set_option linter.unusedVariables false
set_option linter.unusedSimpArgs false
section
variable {P : Program} {E : Env} {fr : Fr} {H : Hp} {Q : Exit → Act → World → Prop} {F : Fence} {n : Nat}
theorem At.seqJ {c d : Code} (J : Fr → Hp → Prop) (h1 : ∀ K : Act → World → Prop, (∀ fr H, J fr H → At E fr H K) → At E fr H (c.wp P (Exit.then K Q))) (h2 : ∀ fr H, J fr H → At E fr H (d.wp P Q)) : At E fr H ((Code.seq c d).wp P Q) := At.seq (h1 _ h2)
theorem At.seqJR {c d : Code} (J : Fr → Hp → Prop) (h1 : ∀ K : Act → World → Prop, (∀ fr H, J fr H → At E fr H K) → At E fr H (c.wpIn F n P (Exit.then K Q))) (h2 : ∀ fr H, J fr H → At E fr H (d.wpIn F n P Q)) : At E fr H ((Code.seq c d).wpIn F n P Q) := At.seqR (h1 _ h2)
/-- A contract that hands back nothing hands back an empty row, if one likes. -/
theorem Con.add0 {f : FuncId} {args : List Value} {rows : List Row} {post post' : Value → List Row → Prop} (b : Nat) (t : TypeId) (h : Con P f args rows post) (hp : ∀ v rs, post v rs → rs = [] ∧ post' v [⟨true, b, 0, t, [], 0⟩]) : Con P f args rows post' := fun w hw => (h w hw).mono fun e w' ⟨v, rs, h1, h2, h3, h4, h5⟩ => by
  obtain ⟨rfl, hq⟩ := hp v rs h2
  refine ⟨v, _, h1, hq, h3, fun r hr => by rw [List.mem_singleton.1 hr], ?_⟩
  have := h5.empty 0 b t
  refine ⟨fun k r hk => this.row k r ?_, fun k k' r r' hk hk' => this.apart k k' r r' ?_ ?_⟩
  all_goals
    first
    | (cases k with
      | zero => exact (Hp.set_same _ _ _).trans hk
      | succ k => simp [hL] at hk)
    | (cases k' with
      | zero => exact (Hp.set_same _ _ _).trans hk'
      | succ k => simp [hL] at hk')
end
end SE
end Go
