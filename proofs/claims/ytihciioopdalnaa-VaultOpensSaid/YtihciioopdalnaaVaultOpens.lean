/- The law VaultOpens is true of all keys, notes and bends; it changes nothing. No condition. -/
import Derived.Test.YtihciioopdalnaaVV2
import Derived.Test.YtihciioopdalnaaSE12
import Derived.Test.YtihciioopdalnaaSE23
import Derived.Test.YtihciioopdalnaaRows
namespace Go.Proofs.Ytihciioopdalnaa.vaultOpens
set_option linter.unusedSimpArgs false
set_option linter.unusedVariables false
open Go.ChangeShapes Go.WideShapes Go.ChangeAt Go.RowKit Go.SE
theorem own : ownKnob Try.prog.godebug = none := by kernel_rfl
theorem laid : laidOutB Try.prog = true := by kernel_rfl

set_option maxRecDepth 100000 in
theorem lifted (os : Os) (started : os.Started) (H : Type) (enc : TypeId × Value → H) :
    ReturnsInHanded {} Try.checked os 11 .any (Rows.vaultOpensSpec.pre6 enc Try.prog Try.f11 [] false) (Rows.vaultOpensSpec.post enc Try.prog Try.f11 false true false false) := by
  refine ROW.lifted (C := Try.checked) (tb := 4) os started H enc own (by kernel_rfl) Try.func11 laid (by kernel_rfl) rfl (by kernel_rfl) Try.underlying4 ?_
    (ChangeSpec.witness6 (enc := enc) (C := Try.checked) false ⟨#[], #[.agg (List.replicate 32 (.int .u8 0)).toArray, .agg (List.replicate 3 (.int .i64 0)).toArray, .agg (List.replicate 3 (.int .i64 0)).toArray], []⟩ 8 (by kernel_rfl) (by kernel_rfl) (by kernel_rfl) (by kernel_rfl)) ?_
  · intro ds hl
    have e0 : Try.f11.params.toList.length = 3 := by kernel_rfl
    rw [e0] at hl
    match ds, hl with
    | [_, _, _], _ => rfl
  · intro W base args ds p hval hA hlt
    have hA : DataW.TrodAll enc Try.prog W 0 (fun _ => true) true Try.f11.params.toList args.toList ds p := hA
    have hval : ∀ (j : Nat) t v, Try.f11.params[j]? = some t → args[j]? = some v → Value.okWide Try.prog W .any base t v := hval
    rw [Try.params11] at hA hval
    obtain ⟨v0, vs0, d0, ds0, p0, q0, hargs, rfl, rfl, h0, r0⟩ := trodAll_cons hA
    obtain ⟨v1, vs1, d1, ds1, p1, q1, rfl, rfl, rfl, h1, r1⟩ := trodAll_cons r0
    obtain ⟨v2, vs2, d2, ds2, p2, q2, rfl, rfl, rfl, h2, r2⟩ := trodAll_cons r1
    obtain ⟨rfl, rfl, rfl⟩ := trodAll_nil r2
    obtain rfl : args = #[v0, v1, v2] := by cases args; simp_all
    obtain ⟨a0, rfl, w0⟩ := ROW.open_words UK.u8 Try.underlying23 Try.underlying5 (by kernel_rfl) (by kernel_rfl) (hval 0 23 v0 rfl rfl) h0
    obtain ⟨cs1, rfl, hf1⟩ := ROW.open_agg (n := 0) (g := 9) (ls := List.replicate 3 (ROW.lit0 0 (.i .i64))) (by kernel_rfl) (.inl ⟨_, Try.underlying75⟩) (hval 1 75 v1 rfl rfl) h1
    obtain ⟨xs1_0, rfl, hz1_0, hx1_0⟩ := ROW.fits_ints hf1
    obtain ⟨x1_0a, x1_0b, x1_0c, rfl⟩ : ∃ x1_0a x1_0b x1_0c, xs1_0 = [x1_0a, x1_0b, x1_0c] := by match xs1_0, hz1_0 with | [y0, y1, y2], _ => exact ⟨y0, y1, y2, rfl⟩
    obtain ⟨cs2, rfl, hf2⟩ := ROW.open_agg (n := 0) (g := 9) (ls := List.replicate 3 (ROW.lit0 0 (.i .i64))) (by kernel_rfl) (.inr ⟨_, _, Try.underlying87⟩) (hval 2 87 v2 rfl rfl) h2
    obtain ⟨xs2_0, rfl, hz2_0, hx2_0⟩ := ROW.fits_ints hf2
    obtain ⟨x2_0a, x2_0b, x2_0c, rfl⟩ : ∃ x2_0a x2_0b x2_0c, xs2_0 = [x2_0a, x2_0b, x2_0c] := by match xs2_0, hz2_0 with | [y0, y1, y2], _ => exact ⟨y0, y1, y2, rfl⟩
    refine ROW.of_con (args := [_, _, _]) (l_Opens (key := a0) (c := x1_0a) (n := x1_0b) (g := x1_0c) (d0 := x2_0a) (d1 := x2_0b) (d2 := x2_0c) w0) ?_
    simp

theorem over : Rows.vaultOpensRow.holds Try.pinned (OpenSpec.ofChange Rows.vaultOpensSpec) :=
  OpenClaim.holds_of_wide 11 Try.f11 rfl rfl rfl rfl rfl rfl rfl ⟨rfl, rfl, rfl, rfl, rfl⟩ rfl rfl rfl rfl rfl (by kernel_rfl) Try.func11 (by kernel_rfl)
    (of_decide_eq_true (by kernel_rfl)) (by unfold Func.isWrapper; first | (rw [if_pos (by decide +kernel)]; kernel_rfl) | (rw [if_neg (by decide +kernel)]; exact ⟨rfl, rfl⟩))
    (fun os started H enc _ => lifted os started H enc)
theorem proved : Rows.VaultOpensSaid := over
#print axioms proved
end Go.Proofs.Ytihciioopdalnaa.vaultOpens
