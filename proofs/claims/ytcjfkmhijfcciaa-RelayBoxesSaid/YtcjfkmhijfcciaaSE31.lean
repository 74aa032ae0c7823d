/- Results of which some lie in cells, some in slots. Generic (no program). -/
import Derived.Test.YtcjfkmhijfcciaaSE30
import Derived.Test.YtcjfkmhijfcciaaSE10
namespace Go
namespace SE
open Go.RowKit
set_option linter.unusedVariables false
set_option linter.unusedSimpArgs false
section
variable {P : Program} {E : Env} {fr : Fr} {H : Hp} {fn : Func}
/-- What one result is. -/
def ResOne (P : Program) (fr : Fr) (H : Hp) : ResultVar → Value → Prop
 | .tmp t, v => fr t = some v
 | .cell t ty, v => ∃ p, fr t = some (.pointer (some p)) ∧ ∀ E a w, Rep E fr H a w → (loadVar ty p).run P w = .ok v w
theorem ResOne.tmp {t : Tmp} {v : Value} (h : fr t = some v) : ResOne P fr H (.tmp t) v := h
theorem ResOne.cellA {t : Tmp} {ty ty' : TypeId} {b k rest n : Nat} {ow : Bool} {cs : List Value} {D : TypeDesc} (ht : fr t = some (.pointer (some ⟨b, 0, none⟩))) (hD : P.underlying ty = some D) (hd : aggD D = true) (hz : tsz P ty = some n) (hn : cs.length = n)
  (hk : H k = some ⟨ow, b, 0, ty', cs, rest⟩) : ResOne P fr H (.cell t ty) (.agg cs.toArray) := by
 refine ⟨_, ht, fun E a w R => ?_⟩
 subst hn
 have h1 := run_loadCells_list (P := P) (w := w) ⟨b, 0, none⟩ cs (fun i v hi => by
  rw [add_addr]
  exact R.heap.cell R.chg hk hi)
 simp [loadVar, run_isAgg hD, hd, run_tsz hz, h1]
theorem ResV.two {r1 r2 : ResultVar} {v1 v2 : Value} (hr : fn.results = #[r1, r2]) (h1 : ResOne P fr H r1 v1) (h2 : ResOne P fr H r2 v2) : ResV P fr H fn (.tuple #[v1, v2]) := by
 intro E a w R
 have f := R.fr
 cases r1 <;> cases r2 <;> simp only [ResOne] at h1 h2
 · simp [results, hr, f _ _ h1, f _ _ h2]
 ·
  obtain ⟨p, hp, h2⟩ := h2
  simp [results, hr, f _ _ h1, f _ _ hp, asAddr, h2 _ _ _ R]
 ·
  obtain ⟨p, hp, h1⟩ := h1
  simp [results, hr, f _ _ h2, f _ _ hp, asAddr, h1 _ _ _ R]
 ·
  obtain ⟨p, hp, h1⟩ := h1
  obtain ⟨q, hq, h2⟩ := h2
  simp [results, hr, f _ _ hp, f _ _ hq, asAddr, h1 _ _ _ R, h2 _ _ _ R]
end
end SE
end Go

