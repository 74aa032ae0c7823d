/- The law GateTells is true of all gates and all numbers; it changes nothing. No condition. -/
import Derived.Test.YtjlifebdpgjaiaaG
import Derived.Test.YtjlifebdpgjaiaaROW
import Derived.Test.YtjlifebdpgjaiaaRows
namespace Go.Proofs.Ytjlifebdpgjaiaa
set_option linter.unusedSimpArgs false
set_option linter.unusedVariables false
open Go.ChangeShapes Go.WideShapes Go.ChangeAt Go.RowKit

theorem tells_any (e n u k : Int) (w : World) :
    Calls Try.prog 4 #[gateV e n u, .int .i64 k] w fun r w' => r = .returned (.bool true) ∧ Below w.heap.size w w' := by
  by_cases hr : rightP e n u
  · have hU : ∃ a2 b2 c2 m f, (∀ w, Calls Try.prog 9 #[gateV e n u] w fun r w' => r = .returned (.tuple #[gateV a2 b2 c2, .int .i64 m, .int .i64 f]) ∧ Below w.heap.size w w') ∧
        ((n = 64 ∧ f = 8) ∨ (n ≠ 64 ∧ n = u ∧ f = 7) ∨ (n ≠ 64 ∧ n ≠ u ∧ f = 0 ∧ m = n ∧ a2 = e ∧ b2 = n + 1 ∧ c2 = u)) := by
      by_cases h1 : n = 64
      · exact ⟨_, _, _, _, _, fun w => use_end e n u hr h1 w, Or.inl ⟨h1, rfl⟩⟩
      · by_cases h2 : n = u
        · exact ⟨_, _, _, _, _, fun w => use_gate e n u hr h1 h2 w, Or.inr (Or.inl ⟨h1, h2, rfl⟩)⟩
        · exact ⟨_, _, _, _, _, fun w => use_ok e n u hr (by unfold rightP at hr; omega) w, Or.inr (Or.inr ⟨h1, h2, rfl, rfl, rfl, rfl, rfl⟩)⟩
    have hS : ∃ a b c er, (∀ w, Calls Try.prog 7 #[gateV e n u, .int .i64 k] w fun r w' => r = .returned (.tuple #[gateV a b c, .int .i64 er]) ∧ Below w.heap.size w w') ∧
        ((er = 1 ∧ (k % 8 ≠ 0 ∨ k < u ∨ 64 < k)) ∨ (er = 0 ∧ k % 8 = 0 ∧ u ≤ k ∧ k ≤ 64 ∧ a = e ∧ b = n ∧ c = k)) := by
      by_cases h1 : k < u
      · exact ⟨_, _, _, _, fun w => reserve_low e n u k hr h1 w, Or.inl ⟨rfl, Or.inr (Or.inl h1)⟩⟩
      · by_cases h2 : rightP e n k
        · exact ⟨_, _, _, _, fun w => reserve_ok e n u k hr (by omega) h2 w, Or.inr ⟨rfl, by unfold rightP at h2; omega, by omega, by unfold rightP at h2; omega, rfl, rfl, rfl⟩⟩
        · exact ⟨_, _, _, _, fun w => reserve_odd e n u k hr (by omega) h2 w, Or.inl ⟨rfl, by unfold rightP at h2 hr; omega⟩⟩
    obtain ⟨a2, b2, c2, m, f, h9, hU⟩ := hU
    obtain ⟨a, b, c, er, h7, hS⟩ := hS
    exact tells_right e n u k hr a b c er a2 b2 c2 m f h7 h9 hS hU w
  · exact tells_bad e n u k hr w

theorem own : ownKnob Try.prog.godebug = none := by kernel_rfl
theorem laid : laidOutB Try.prog = true := by kernel_rfl

set_option maxRecDepth 100000 in
theorem tells_lifted (os : Os) (started : os.Started) (H : Type) (enc : TypeId × Value → H) :
    ReturnsInHanded {} Try.checked os 4 .any (Rows.gateTellsSpec.pre6 enc Try.prog Try.f4 [] false) (Rows.gateTellsSpec.post enc Try.prog Try.f4 false true false false) := by
  refine ROW.lifted (C := Try.checked) (tb := 4) os started H enc own (by kernel_rfl) Try.func4 laid (by kernel_rfl) rfl (by kernel_rfl) Try.underlying4 ?_
    (ChangeSpec.witness6 (enc := enc) (C := Try.checked) false ⟨#[], #[gateV 0 0 0, .int .i64 0], []⟩ 8 (by kernel_rfl) (by kernel_rfl) (by kernel_rfl) (by kernel_rfl)) ?_
  · intro ds hl
    have e0 : Try.f4.params.toList.length = 2 := by kernel_rfl
    rw [e0] at hl
    match ds, hl with
    | [_, _], _ => rfl
  · intro W base args ds p hval hA _
    have hA : DataW.TrodAll enc Try.prog W 0 (fun _ => true) true Try.f4.params.toList args.toList ds p := hA
    have hval : ∀ (j : Nat) t v, Try.f4.params[j]? = some t → args[j]? = some v → Value.okWide Try.prog W .any base t v := hval
    rw [Try.params4] at hA hval
    obtain ⟨v0, vs0, d0, ds0, p0, q0, hargs, rfl, rfl, h0, r0⟩ := trodAll_cons hA
    obtain ⟨v1, vs1, d1, ds1, p1, q1, rfl, rfl, rfl, h1, r1⟩ := trodAll_cons r0
    obtain ⟨rfl, rfl, rfl⟩ := trodAll_nil r1
    obtain rfl : args = #[v0, v1] := by cases args; simp_all
    obtain ⟨c0, c1, c2, y0, y1, y2, m, rfl, rfl, rfl, hy0, hy1, hy2⟩ := Go.Joins.open_agg3 Try.underlying35 (by kernel_rfl) (by kernel_rfl) (hval 0 35 v0 rfl rfl) h0
    obtain ⟨a, e0, rfl, wa⟩ := DataW.trod_int Try.underlying3 hy0
    obtain ⟨b, e1, rfl, wb⟩ := DataW.trod_int Try.underlying3 hy1
    obtain ⟨c, e2, rfl, wc⟩ := DataW.trod_int Try.underlying3 hy2
    simp at e0 e1 e2
    subst e0 e1 e2
    obtain ⟨k, rfl, rfl, rfl, wk⟩ := open_int Try.underlying3 (hval 1 3 v1 rfl rfl) h1
    exact tells_any a b c k W

theorem gateTells_over : Rows.gateTellsRow.holds Try.pinned (OpenSpec.ofChange Rows.gateTellsSpec) :=
  OpenClaim.holds_of_wide 4 Try.f4 rfl rfl rfl rfl rfl rfl rfl ⟨rfl, rfl, rfl, rfl, rfl⟩ rfl rfl rfl rfl rfl (by kernel_rfl) Try.func4 (by kernel_rfl)
    (of_decide_eq_true (by kernel_rfl)) (by unfold Func.isWrapper; first | (rw [if_pos (by decide +kernel)]; kernel_rfl) | (rw [if_neg (by decide +kernel)]; exact ⟨rfl, rfl⟩))
    (fun os started H enc _ => tells_lifted os started H enc)
theorem gateTells_proved : Rows.GateTellsSaid := gateTells_over
#print axioms gateTells_proved
end Go.Proofs.Ytjlifebdpgjaiaa
