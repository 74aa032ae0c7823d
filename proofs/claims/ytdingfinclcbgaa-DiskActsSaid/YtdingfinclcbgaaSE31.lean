/- Results of which some lie in cells, some in slots. Generic (no program). -/
import Derived.Test.YtdingfinclcbgaaSE30
import Derived.Test.YtdingfinclcbgaaSE10
namespace Go
namespace SE
open Go.RowKit
set_option linter.unusedVariables false
set_option linter.unusedSimpArgs false
section
variable {P : Program} {E : Env} {fr : Fr} {H : Hp} {fn : Func}
/-- What one result is. -/
def ResOne (P : Program) (fr : Fr) (H : Hp) : ResultVar → Value → Prop
  | .tmp t, v => fr t = some v
  | .cell t ty, v => ∃ p, fr t = some (.pointer (some p)) ∧ ∀ E a w, Rep E fr H a w → (loadVar ty p).run P w = .ok v w
theorem ResOne.tmp {t : Tmp} {v : Value} (h : fr t = some v) : ResOne P fr H (.tmp t) v := h
theorem ResOne.cellA {t : Tmp} {ty ty' : TypeId} {b k rest n : Nat} {ow : Bool} {cs : List Value} {D : TypeDesc} (ht : fr t = some (.pointer (some ⟨b, 0, none⟩))) (hD : P.underlying ty = some D) (hd : aggD D = true) (hz : tsz P ty = some n) (hn : cs.length = n)
    (hk : H k = some ⟨ow, b, 0, ty', cs, rest⟩) : ResOne P fr H (.cell t ty) (.agg cs.toArray) := by
  refine ⟨_, ht, fun E a w R => ?_⟩
  subst hn
  have h1 := run_loadCells_list (P := P) (w := w) ⟨b, 0, none⟩ cs (fun i v hi => by
    rw [add_addr]
    exact R.heap.cell R.chg hk hi)
  simp [loadVar, run_isAgg hD, hd, run_tsz hz, h1]
theorem ResOne.cell1 {t : Tmp} {ty ty' : TypeId} {b k rest : Nat} {ow : Bool} {cs : List Value} {v : Value} {D : TypeDesc} (ht : fr t = some (.pointer (some ⟨b, 0, none⟩))) (hD : P.underlying ty = some D) (hd : aggD D = false)
    (hk : H k = some ⟨ow, b, 0, ty', cs, rest⟩) (hv : cs[0]? = some v) : ResOne P fr H (.cell t ty) v := by
  refine ⟨_, ht, fun E a w R => ?_⟩
  have hc := R.heap.cell R.chg hk hv
  simp only [Nat.zero_add] at hc
  simp [loadVar, run_isAgg hD, hd, load, Sem.run, hc]
theorem ResV.two {r1 r2 : ResultVar} {v1 v2 : Value} (hr : fn.results = #[r1, r2]) (h1 : ResOne P fr H r1 v1) (h2 : ResOne P fr H r2 v2) : ResV P fr H fn (.tuple #[v1, v2]) := by
  intro E a w R
  have f := R.fr
  cases r1 <;> cases r2 <;> simp only [ResOne] at h1 h2
  · simp [results, hr, f _ _ h1, f _ _ h2]
  · obtain ⟨p, hp, h2⟩ := h2
    simp [results, hr, f _ _ h1, f _ _ hp, asAddr, h2 _ _ _ R]
  · obtain ⟨p, hp, h1⟩ := h1
    simp [results, hr, f _ _ h2, f _ _ hp, asAddr, h1 _ _ _ R]
  · obtain ⟨p, hp, h1⟩ := h1
    obtain ⟨q, hq, h2⟩ := h2
    simp [results, hr, f _ _ hp, f _ _ hq, asAddr, h1 _ _ _ R, h2 _ _ _ R]
theorem ResV.three {r1 r2 r3 : ResultVar} {v1 v2 v3 : Value} (hr : fn.results = #[r1, r2, r3]) (h1 : ResOne P fr H r1 v1) (h2 : ResOne P fr H r2 v2) (h3 : ResOne P fr H r3 v3) : ResV P fr H fn (.tuple #[v1, v2, v3]) := by
  intro E a w R
  have f := R.fr
  cases r1 <;> cases r2 <;> cases r3 <;> simp only [ResOne] at h1 h2 h3
  · simp [results, hr, f _ _ h1, f _ _ h2, f _ _ h3]
  · obtain ⟨p, hp, h3⟩ := h3
    simp [results, hr, f _ _ h1, f _ _ h2, f _ _ hp, asAddr, h3 _ _ _ R]
  · obtain ⟨p, hp, h2⟩ := h2
    simp [results, hr, f _ _ h1, f _ _ h3, f _ _ hp, asAddr, h2 _ _ _ R]
  · obtain ⟨p, hp, h2⟩ := h2
    obtain ⟨q, hq, h3⟩ := h3
    simp [results, hr, f _ _ h1, f _ _ hp, f _ _ hq, asAddr, h2 _ _ _ R, h3 _ _ _ R]
  · obtain ⟨p, hp, h1⟩ := h1
    simp [results, hr, f _ _ h2, f _ _ h3, f _ _ hp, asAddr, h1 _ _ _ R]
  · obtain ⟨p, hp, h1⟩ := h1
    obtain ⟨q, hq, h3⟩ := h3
    simp [results, hr, f _ _ h2, f _ _ hp, f _ _ hq, asAddr, h1 _ _ _ R, h3 _ _ _ R]
  · obtain ⟨p, hp, h1⟩ := h1
    obtain ⟨q, hq, h2⟩ := h2
    simp [results, hr, f _ _ h3, f _ _ hp, f _ _ hq, asAddr, h1 _ _ _ R, h2 _ _ _ R]
  · obtain ⟨p, hp, h1⟩ := h1
    obtain ⟨q, hq, h2⟩ := h2
    obtain ⟨s, hs, h3⟩ := h3
    simp [results, hr, f _ _ hp, f _ _ hq, f _ _ hs, asAddr, h1 _ _ _ R, h2 _ _ _ R, h3 _ _ _ R]
theorem P_shl_c {o : Oper} {t ty : TypeId} {x y : Operand} {k' : IntKind} {a b c : Int} (ho : o.op = .binOp .shl t x y ty) (hx : fr.ev x = some (.int .i64 a)) (hy : fr.ev y = some (.int k' b)) (hb : 0 ≤ b) (hb' : b ≤ 64) (hc : (2 : Int) ^ b.toNat = c) (h : -9223372036854775808 ≤ a * c ∧ a * c ≤ 9223372036854775807) : PStep P fr o (.int .i64 (a * c)) := by
  subst hc
  exact P_shl_i ho hx hy hb hb' h
end
end SE
end Go
