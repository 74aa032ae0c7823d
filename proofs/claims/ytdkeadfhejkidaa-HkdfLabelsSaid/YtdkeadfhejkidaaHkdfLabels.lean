/- The law HkdfLabels is true of all keys, names and contexts; it changes nothing. No condition. -/
import Derived.Test.YtdkeadfhejkidaaHB2
import Derived.Test.YtdkeadfhejkidaaSE12
import Derived.Test.YtdkeadfhejkidaaSE23
import Derived.Test.YtdkeadfhejkidaaRows
namespace Go.Proofs.Ytdkeadfhejkidaa.hkdfLabels
set_option linter.unusedSimpArgs false
set_option linter.unusedVariables false
open Go.ChangeShapes Go.WideShapes Go.ChangeAt Go.RowKit Go.SE
theorem own : ownKnob Try.prog.godebug = none := by kernel_rfl
theorem laid : laidOutB Try.prog = true := by kernel_rfl

set_option maxRecDepth 100000 in
theorem lifted (os : Os) (started : os.Started) (H : Type) (enc : TypeId × Value → H) :
    ReturnsInHanded {} Try.checked os 12 .any (Rows.hkdfLabelsSpec.pre6 enc Try.prog Try.f12 [] false) (Rows.hkdfLabelsSpec.post enc Try.prog Try.f12 false true false false) := by
  refine ROW.lifted (C := Try.checked) (tb := 4) os started H enc own (by kernel_rfl) Try.func12 laid (by kernel_rfl) rfl (by kernel_rfl) Try.underlying4 ?_
    (ChangeSpec.witness6 (enc := enc) (C := Try.checked) false ⟨#[], #[.agg (List.replicate 32 (.int .u8 0)).toArray, .agg (List.replicate 2 (.string ByteArray.empty)).toArray, .int .i64 0], []⟩ 8 (by kernel_rfl) (by kernel_rfl) (by kernel_rfl) (by kernel_rfl)) ?_
  · intro ds hl
    have e0 : Try.f12.params.toList.length = 3 := by kernel_rfl
    rw [e0] at hl
    match ds, hl with
    | [_, _, _], _ => rfl
  · intro W base args ds p hval hA hlt
    have hA : DataW.TrodAll enc Try.prog W 0 (fun _ => true) true Try.f12.params.toList args.toList ds p := hA
    have hval : ∀ (j : Nat) t v, Try.f12.params[j]? = some t → args[j]? = some v → Value.okWide Try.prog W .any base t v := hval
    rw [Try.params12] at hA hval
    obtain ⟨v0, vs0, d0, ds0, p0, q0, hargs, rfl, rfl, h0, r0⟩ := trodAll_cons hA
    obtain ⟨v1, vs1, d1, ds1, p1, q1, rfl, rfl, rfl, h1, r1⟩ := trodAll_cons r0
    obtain ⟨v2, vs2, d2, ds2, p2, q2, rfl, rfl, rfl, h2, r2⟩ := trodAll_cons r1
    obtain ⟨rfl, rfl, rfl⟩ := trodAll_nil r2
    obtain rfl : args = #[v0, v1, v2] := by cases args; simp_all
    obtain ⟨a0, rfl, w0⟩ := ROW.open_words UK.u8 Try.underlying25 Try.underlying5 (by kernel_rfl) (by kernel_rfl) (hval 0 25 v0 rfl rfl) h0
    obtain ⟨cs1, rfl, hf1⟩ := ROW.open_agg (n := 0) (g := 9) (ls := List.replicate 2 (ROW.lit0 0 .s)) (by kernel_rfl) (.inr ⟨_, _, Try.underlying39⟩) (hval 1 39 v1 rfl rfl) h1
    obtain ⟨ce1_0a, ct1_0a, rfl, cf1_0a, cg1_0a⟩ := ROW.All2.cons' (show ROW.All2 _ (_ :: List.replicate 1 _) _ from hf1)
    obtain ⟨x1_0a, rfl, xl1_0a⟩ := ROW.fits_str cf1_0a
    obtain ⟨ce1_0b, ct1_0b, rfl, cf1_0b, cg1_0b⟩ := ROW.All2.cons' (show ROW.All2 _ (_ :: List.replicate 0 _) _ from cg1_0a)
    obtain ⟨x1_0b, rfl, xl1_0b⟩ := ROW.fits_str cf1_0b
    obtain rfl : ct1_0b = [] := by revert cg1_0b; cases ct1_0b <;> intro h <;> first | rfl | exact h.elim
    obtain ⟨a2, rfl, rfl, rfl, w2⟩ := open_int Try.underlying3 (hval 2 3 v2 rfl rfl) h2
    refine ROW.of_con (args := [_, _, _]) (l_Labels (key := a0) (a := x1_0a) (b := x1_0b) (n := a2) w0) ?_
    simp

theorem over : Rows.hkdfLabelsRow.holds Try.pinned (OpenSpec.ofChange Rows.hkdfLabelsSpec) :=
  OpenClaim.holds_of_wide 12 Try.f12 rfl rfl rfl rfl rfl rfl rfl ⟨rfl, rfl, rfl, rfl, rfl⟩ rfl rfl rfl rfl rfl (by kernel_rfl) Try.func12 (by kernel_rfl)
    (of_decide_eq_true (by kernel_rfl)) (by unfold Func.isWrapper; first | (rw [if_pos (by decide +kernel)]; kernel_rfl) | (rw [if_neg (by decide +kernel)]; exact ⟨rfl, rfl⟩))
    (fun os started H enc _ => lifted os started H enc)
theorem proved : Rows.HkdfLabelsSaid := over
#print axioms proved
end Go.Proofs.Ytdkeadfhejkidaa.hkdfLabels
