/- Calls of closures: a function value that was made of a function and of what it captured. Generic (no program). -/
import Derived.Test.YtdingfinclcbgaaSE12
namespace Go
namespace SE
open Go.RowKit
set_option linter.unusedVariables false
set_option linter.unusedSimpArgs false
section
variable {P : Program} {E : Env} {fr : Fr} {H : Hp} {o : Oper} {v : Value}
theorem run_callC {f : FuncId} {g : Operand} {xs : List Operand} {tys : Array TypeId} {vs lb : List Value} (ho : o.op = .call ⟨.value g, xs.toArray, tys⟩) (hg : fr.ev g = some (.func (.func f) #[] lb.toArray)) (he : entersB P f = true) (ha : ArgsOk fr xs vs) {a : Act} (hf : FrOk fr a) (w : World) :
    (execOp a.eval o).run P w = .ok (.enter f (vs ++ lb).toArray) w := by
  unfold execOp
  have h1 := ha.eval hf
  have h2 := hf.ev hg
  simp [ho, resolve, Deferred.ofValue, invoke, h1, h2, run_enters he]
/-- A call of a closure that reads rows and hands some back. -/
theorem S_callC (d : Option Tmp) (views : List (Nat × Row)) (ks : List Nat) {f : FuncId} {g : Operand} {xs : List Operand} {tys : Array TypeId} {vs lb : List Value} {K : Fr → Hp → Prop} {post : Value → List Row → Prop} (ho : o.op = .call ⟨.value g, xs.toArray, tys⟩) (hg : fr.ev g = some (.func (.func f) #[] lb.toArray)) (he : entersB P f = true) (ha : ArgsOk fr xs vs)
    (hV : ViewsOk H [] views) (hk : ks.Nodup)
    (hcon : Con P f (vs ++ lb) (views.map (·.2)) post) (hl : ∀ v rows', post v rows' → ks.length = rows'.length)
    (h : ∀ v rows', post v rows' → K (fr.put E.n d v) (H.sets ks rows')) (hd : o.dst = d := by rfl) : SStep P E false fr H o K := by
  subst hd
  intro a w R
  unfold Oper.wp
  rw [run_callC ho hg he ha R.fr w]
  have hw := R.chg
  have hH := R.heap
  have hl0 := hH.lift hw [] views (by simp) (by simp) hV.mem
  simp only [List.map_nil, List.nil_append] at hl0
  refine (hcon w hl0).mono fun e w' ⟨v, rows', h1, h2, h3, h4, h5⟩ => ?_
  have hvo : ∀ p ∈ views, p.2.own = false := fun p hp => by
    rcases hV.mem p hp with h1 | ⟨_, r, _, h3, _⟩
    · exact h1.2
    · exact h3
  obtain ⟨h6, h7⟩ := hH.back hw [] views (by simp) hvo (rows' := rows') (by simpa using h3) h4 (by simpa using h5) ks (hl v rows' h2) hk
  have hnil : ownB (views.map (·.2)) = [] := ownB_views fun r hr => by
    obtain ⟨p, hp, rfl⟩ := List.mem_map.1 hr
    exact hvo p hp
  rw [hnil] at h3
  subst h1
  have R' := R.put o.dst v
  exact ⟨fun _ => h3.below, _, _, h v rows' h2, R'.df, R'.size, R'.fr, h7, h6⟩
end
end SE
end Go
