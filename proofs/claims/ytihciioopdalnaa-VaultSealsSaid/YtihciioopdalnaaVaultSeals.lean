/- The law VaultSeals is true of all keys, notes and snapshots; it changes nothing. No condition. -/
import Derived.Test.YtihciioopdalnaaVV2
import Derived.Test.YtihciioopdalnaaSE12
import Derived.Test.YtihciioopdalnaaSE23
import Derived.Test.YtihciioopdalnaaRows
namespace Go.Proofs.Ytihciioopdalnaa.vaultSeals
set_option linter.unusedSimpArgs false
set_option linter.unusedVariables false
open Go.ChangeShapes Go.WideShapes Go.ChangeAt Go.RowKit Go.SE
theorem own : ownKnob Try.prog.godebug = none := by kernel_rfl
theorem laid : laidOutB Try.prog = true := by kernel_rfl

set_option maxRecDepth 100000 in
theorem lifted (os : Os) (started : os.Started) (H : Type) (enc : TypeId × Value → H) :
    ReturnsInHanded {} Try.checked os 10 .any (Rows.vaultSealsSpec.pre6 enc Try.prog Try.f10 [] false) (Rows.vaultSealsSpec.post enc Try.prog Try.f10 false true false false) := by
  refine ROW.lifted (C := Try.checked) (tb := 4) os started H enc own (by kernel_rfl) Try.func10 laid (by kernel_rfl) rfl (by kernel_rfl) Try.underlying4 ?_
    (ChangeSpec.witness6 (enc := enc) (C := Try.checked) false ⟨#[], #[.agg (List.replicate 32 (.int .u8 0)).toArray, .agg (List.replicate 3 (.int .i64 0)).toArray, .slice none 0 0], []⟩ 8 (by kernel_rfl) (by kernel_rfl) (by kernel_rfl) (by kernel_rfl)) ?_
  · intro ds hl
    have e0 : Try.f10.params.toList.length = 3 := by kernel_rfl
    rw [e0] at hl
    match ds, hl with
    | [_, _, _], _ => rfl
  · intro W base args ds p hval hA hlt
    have hA : DataW.TrodAll enc Try.prog W 0 (fun _ => true) true Try.f10.params.toList args.toList ds p := hA
    have hval : ∀ (j : Nat) t v, Try.f10.params[j]? = some t → args[j]? = some v → Value.okWide Try.prog W .any base t v := hval
    rw [Try.params10] at hA hval
    obtain ⟨v0, vs0, d0, ds0, p0, q0, hargs, rfl, rfl, h0, r0⟩ := trodAll_cons hA
    obtain ⟨v1, vs1, d1, ds1, p1, q1, rfl, rfl, rfl, h1, r1⟩ := trodAll_cons r0
    obtain ⟨v2, vs2, d2, ds2, p2, q2, rfl, rfl, rfl, h2, r2⟩ := trodAll_cons r1
    obtain ⟨rfl, rfl, rfl⟩ := trodAll_nil r2
    obtain rfl : args = #[v0, v1, v2] := by cases args; simp_all
    obtain ⟨a0, rfl, w0⟩ := ROW.open_words UK.u8 Try.underlying23 Try.underlying5 (by kernel_rfl) (by kernel_rfl) (hval 0 23 v0 rfl rfl) h0
    obtain ⟨cs1, rfl, hf1⟩ := ROW.open_agg (n := 0) (g := 9) (ls := List.replicate 3 (ROW.lit0 0 (.i .i64))) (by kernel_rfl) (.inl ⟨_, Try.underlying75⟩) (hval 1 75 v1 rfl rfl) h1
    obtain ⟨xs1_0, rfl, hz1_0, hx1_0⟩ := ROW.fits_ints hf1
    obtain ⟨x1_0a, x1_0b, x1_0c, rfl⟩ : ∃ x1_0a x1_0b x1_0c, xs1_0 = [x1_0a, x1_0b, x1_0c] := by match xs1_0, hz1_0 with | [y0, y1, y2], _ => exact ⟨y0, y1, y2, rfl⟩
    obtain ⟨A2, c2, b2, s2, a2, rfl, w2⟩ := ROW.open_bytes Try.underlying22 Try.underlying5 (by kernel_rfl) (hval 2 22 v2 rfl rfl) h2 (fun x hx => hlt x (by simp [hx]))
    refine ROW.of_con (args := [_, _, _]) (l_Seals (key := a0) (c := x1_0a) (n := x1_0b) (g := x1_0c) (b := a2) (nb := a2.length) (Ab := A2) (cb := c2) (bb := b2) (qb := s2) w0 rfl w2.ad w2.1) ?_
    intro r hr
    simp only [List.mem_cons, List.not_mem_nil, or_false] at hr
    rcases hr with rfl
    · exact w2.row

theorem over : Rows.vaultSealsRow.holds Try.pinned (OpenSpec.ofChange Rows.vaultSealsSpec) :=
  OpenClaim.holds_of_wide 10 Try.f10 rfl rfl rfl rfl rfl rfl rfl ⟨rfl, rfl, rfl, rfl, rfl⟩ rfl rfl rfl rfl rfl (by kernel_rfl) Try.func10 (by kernel_rfl)
    (of_decide_eq_true (by kernel_rfl)) (by unfold Func.isWrapper; first | (rw [if_pos (by decide +kernel)]; kernel_rfl) | (rw [if_neg (by decide +kernel)]; exact ⟨rfl, rfl⟩))
    (fun os started H enc _ => lifted os started H enc)
theorem proved : Rows.VaultSealsSaid := over
#print axioms proved
end Go.Proofs.Ytihciioopdalnaa.vaultSeals
