/- The law GateRows is true of all rows; it changes nothing. No condition. -/
import Derived.Test.YtjlifebdpgjaiaaROW
import Derived.Test.YtjlifebdpgjaiaaRows
import Derived.Test.YtjlifebdpgjaiaaR
namespace Go.Proofs.Ytjlifebdpgjaiaa.gateRows
set_option linter.unusedSimpArgs false
set_option linter.unusedVariables false
open Go.ChangeShapes Go.WideShapes Go.ChangeAt Go.RowKit

theorem own : ownKnob Try.prog.godebug = none := by kernel_rfl
theorem laid : laidOutB Try.prog = true := by kernel_rfl

set_option maxRecDepth 100000 in
theorem lifted (os : Os) (started : os.Started) (H : Type) (enc : TypeId × Value → H) :
    ReturnsInHanded {} Try.checked os 5 .any (Rows.gateRowsSpec.pre6 enc Try.prog Try.f5 [] false) (Rows.gateRowsSpec.post enc Try.prog Try.f5 false true false false) := by
  refine ROW.lifted (C := Try.checked) (tb := 4) os started H enc own (by kernel_rfl) Try.func5 laid (by kernel_rfl) rfl (by kernel_rfl) Try.underlying4 ?_
    (ChangeSpec.witness6 (enc := enc) (C := Try.checked) false ⟨#[], #[.slice none 0 0], []⟩ 8 (by kernel_rfl) (by kernel_rfl) (by kernel_rfl) (by kernel_rfl)) ?_
  · intro ds hl
    have e0 : Try.f5.params.toList.length = 1 := by kernel_rfl
    rw [e0] at hl
    match ds, hl with
    | [_], _ => rfl
  · intro W base args ds p hval hA hlt
    have hA : DataW.TrodAll enc Try.prog W 0 (fun _ => true) true Try.f5.params.toList args.toList ds p := hA
    have hval : ∀ (j : Nat) t v, Try.f5.params[j]? = some t → args[j]? = some v → Value.okWide Try.prog W .any base t v := hval
    rw [Try.params5] at hA hval
    obtain ⟨v0, vs0, d0, ds0, p0, q0, hargs, rfl, rfl, h0, r0⟩ := trodAll_cons hA
    obtain ⟨rfl, rfl, rfl⟩ := trodAll_nil r0
    obtain rfl : args = #[v0] := by cases args; simp_all
    obtain ⟨a0, c0, z0, rfl, w0⟩ := ROW.open_sl Try.underlying42 Try.underlying3 (by kernel_rfl) (hval 0 42 v0 rfl rfl) h0 (fun x hx => hlt x (by simp [hx]))
    exact rows_any a0 c0 z0 w0

theorem over : Rows.gateRowsRow.holds Try.pinned (OpenSpec.ofChange Rows.gateRowsSpec) :=
  OpenClaim.holds_of_wide 5 Try.f5 rfl rfl rfl rfl rfl rfl rfl ⟨rfl, rfl, rfl, rfl, rfl⟩ rfl rfl rfl rfl rfl (by kernel_rfl) Try.func5 (by kernel_rfl)
    (of_decide_eq_true (by kernel_rfl)) (by unfold Func.isWrapper; first | (rw [if_pos (by decide +kernel)]; kernel_rfl) | (rw [if_neg (by decide +kernel)]; exact ⟨rfl, rfl⟩))
    (fun os started H enc _ => lifted os started H enc)
theorem proved : Rows.GateRowsSaid := over
#print axioms proved
end Go.Proofs.Ytjlifebdpgjaiaa.gateRows
