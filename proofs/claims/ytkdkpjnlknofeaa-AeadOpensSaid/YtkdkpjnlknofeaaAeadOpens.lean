/- The law AeadOpens is true of all keys, nonces and texts; it changes nothing. No condition. -/
import Derived.Test.YtkdkpjnlknofeaaRE
import Derived.Test.YtkdkpjnlknofeaaSE12
import Derived.Test.YtkdkpjnlknofeaaSE21
import Derived.Test.YtkdkpjnlknofeaaRows
namespace Go.Proofs.Ytkdkpjnlknofeaa.aeadOpens
set_option linter.unusedSimpArgs false
set_option linter.unusedVariables false
open Go.ChangeShapes Go.WideShapes Go.ChangeAt Go.RowKit Go.SE
theorem own : ownKnob Try.prog.godebug = none := by kernel_rfl
theorem laid : laidOutB Try.prog = true := by kernel_rfl

set_option maxRecDepth 100000 in
theorem lifted (os : Os) (started : os.Started) (H : Type) (enc : TypeId × Value → H) :
    ReturnsInHanded {} Try.checked os 13 .any (Rows.aeadOpensSpec.pre6 enc Try.prog Try.f13 [] false) (Rows.aeadOpensSpec.post enc Try.prog Try.f13 false true false false) := by
  refine ROW.lifted (C := Try.checked) (tb := 4) os started H enc own (by kernel_rfl) Try.func13 laid (by kernel_rfl) rfl (by kernel_rfl) Try.underlying4 ?_
    (ChangeSpec.witness6 (enc := enc) (C := Try.checked) false ⟨#[], #[.agg (List.replicate 44 (.int .u8 0)).toArray, .slice none 0 0, .agg (List.replicate 2 (.int .i64 0)).toArray], []⟩ 8 (by kernel_rfl) (by kernel_rfl) (by kernel_rfl) (by kernel_rfl)) ?_
  · intro ds hl
    have e0 : Try.f13.params.toList.length = 3 := by kernel_rfl
    rw [e0] at hl
    match ds, hl with
    | [_, _, _], _ => rfl
  · intro W base args ds p hval hA hlt
    have hA : DataW.TrodAll enc Try.prog W 0 (fun _ => true) true Try.f13.params.toList args.toList ds p := hA
    have hval : ∀ (j : Nat) t v, Try.f13.params[j]? = some t → args[j]? = some v → Value.okWide Try.prog W .any base t v := hval
    rw [Try.params13] at hA hval
    obtain ⟨v0, vs0, d0, ds0, p0, q0, hargs, rfl, rfl, h0, r0⟩ := trodAll_cons hA
    obtain ⟨v1, vs1, d1, ds1, p1, q1, rfl, rfl, rfl, h1, r1⟩ := trodAll_cons r0
    obtain ⟨v2, vs2, d2, ds2, p2, q2, rfl, rfl, rfl, h2, r2⟩ := trodAll_cons r1
    obtain ⟨rfl, rfl, rfl⟩ := trodAll_nil r2
    obtain rfl : args = #[v0, v1, v2] := by cases args; simp_all
    obtain ⟨ka, na, rfl, wk, wn⟩ := ROW.open_pair UK.u8 UK.u8 Try.underlying44 Try.underlying22 Try.underlying24 Try.underlying5 Try.underlying5 (by kernel_rfl) (by kernel_rfl) (by kernel_rfl) (by kernel_rfl) rfl rfl (by kernel_rfl) (hval 0 44 v0 rfl rfl) h0
    obtain ⟨A1, c1, b1, s1, a1, rfl, w1⟩ := ROW.open_bytes Try.underlying31 Try.underlying5 (by kernel_rfl) (hval 1 31 v1 rfl rfl) h1 (fun x hx => hlt x (by simp [hx]))
    obtain ⟨cs2, rfl, hf2⟩ := ROW.open_agg (n := 0) (g := 9) (ls := List.replicate 2 (ROW.lit0 0 (.i .i64))) (by kernel_rfl) (.inr ⟨_, _, Try.underlying50⟩) (hval 2 50 v2 rfl rfl) h2
    obtain ⟨xs2_0, rfl, hz2_0, hx2_0⟩ := ROW.fits_ints hf2
    obtain ⟨x2_0a, x2_0b, rfl⟩ : ∃ x2_0a x2_0b, xs2_0 = [x2_0a, x2_0b] := by match xs2_0, hz2_0 with | [y0, y1], _ => exact ⟨y0, y1, rfl⟩
    refine ROW.of_con (args := [_, _, _]) (l_Opens ka na a1 x2_0a x2_0b A1 c1 b1 s1 wk wn w1.ad w1.1) ?_
    intro r hr
    simp only [List.mem_cons, List.not_mem_nil, or_false] at hr
    rcases hr with rfl
    · exact w1.row

theorem over : Rows.aeadOpensRow.holds Try.pinned (OpenSpec.ofChange Rows.aeadOpensSpec) :=
  OpenClaim.holds_of_wide 13 Try.f13 rfl rfl rfl rfl rfl rfl rfl ⟨rfl, rfl, rfl, rfl, rfl⟩ rfl rfl rfl rfl rfl (by kernel_rfl) Try.func13 (by kernel_rfl)
    (of_decide_eq_true (by kernel_rfl)) (by unfold Func.isWrapper; first | (rw [if_pos (by decide +kernel)]; kernel_rfl) | (rw [if_neg (by decide +kernel)]; exact ⟨rfl, rfl⟩))
    (fun os started H enc _ => lifted os started H enc)
theorem proved : Rows.AeadOpensSaid := over
#print axioms proved
end Go.Proofs.Ytkdkpjnlknofeaa.aeadOpens
