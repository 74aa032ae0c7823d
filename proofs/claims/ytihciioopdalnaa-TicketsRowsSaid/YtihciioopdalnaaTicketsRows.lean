/- The law TicketsRows is true of all keys and rows of calls; it changes nothing. No condition. -/
import Derived.Test.YtihciioopdalnaaTR3
import Derived.Test.YtihciioopdalnaaRows
namespace Go.Proofs.Ytihciioopdalnaa.ticketsRows
set_option linter.unusedSimpArgs false
set_option linter.unusedVariables false
open Go.ChangeShapes Go.WideShapes Go.ChangeAt Go.RowKit Go.SE
theorem own : ownKnob Try.prog.godebug = none := by kernel_rfl
theorem laid : laidOutB Try.prog = true := by kernel_rfl

set_option maxRecDepth 100000 in
theorem lifted (os : Os) (started : os.Started) (H : Type) (enc : TypeId × Value → H) :
    ReturnsInHanded {} Try.checked os 5 .any (Rows.ticketsRowsSpec.pre6 enc Try.prog Try.f5 [] false) (Rows.ticketsRowsSpec.post enc Try.prog Try.f5 false true false false) := by
  refine ROW.lifted (C := Try.checked) (tb := 4) os started H enc own (by kernel_rfl) Try.func5 laid (by kernel_rfl) rfl (by kernel_rfl) Try.underlying4 ?_
    (ChangeSpec.witness6 (enc := enc) (C := Try.checked) false ⟨#[], #[.agg (List.replicate 32 (.int .u8 0)).toArray, .slice none 0 0], []⟩ 8 (by kernel_rfl) (by kernel_rfl) (by kernel_rfl) (by kernel_rfl)) ?_
  · intro ds hl
    have e0 : Try.f5.params.toList.length = 2 := by kernel_rfl
    rw [e0] at hl
    match ds, hl with
    | [_, _], _ => rfl
  · intro W base args ds p hval hA hlt
    have hA : DataW.TrodAll enc Try.prog W 0 (fun _ => true) true Try.f5.params.toList args.toList ds p := hA
    have hval : ∀ (j : Nat) t v, Try.f5.params[j]? = some t → args[j]? = some v → Value.okWide Try.prog W .any base t v := hval
    rw [Try.params5] at hA hval
    obtain ⟨v0, vs0, d0, ds0, p0, q0, hargs, rfl, rfl, h0, r0⟩ := trodAll_cons hA
    obtain ⟨v1, vs1, d1, ds1, p1, q1, rfl, rfl, rfl, h1, r1⟩ := trodAll_cons r0
    obtain ⟨rfl, rfl, rfl⟩ := trodAll_nil r1
    obtain rfl : args = #[v0, v1] := by cases args; simp_all
    obtain ⟨a0, rfl, w0⟩ := ROW.open_words UK.u8 Try.underlying23 Try.underlying5 (by kernel_rfl) (by kernel_rfl) (hval 0 23 v0 rfl rfl) h0
    obtain ⟨A1, n1, c1, b1, s1, L1, rfl, hL1, hA1, ho1⟩ := open_actsT (hval 1 37 v1 rfl rfl) h1 (fun x hx => hlt x (by simp [hx]))
    refine ROW.of_con (args := [_, _]) (l_Rows (key := a0) (L0 := L1) (Ar := A1) (nr := n1) (c := c1) (b := b1) (q := s1) w0 hL1 hA1) ?_
    intro r hr; simp only [List.mem_cons, List.not_mem_nil, or_false] at hr; obtain rfl := hr; exact ho1

theorem over : Rows.ticketsRowsRow.holds Try.pinned (OpenSpec.ofChange Rows.ticketsRowsSpec) :=
  OpenClaim.holds_of_wide 5 Try.f5 rfl rfl rfl rfl rfl rfl rfl ⟨rfl, rfl, rfl, rfl, rfl⟩ rfl rfl rfl rfl rfl (by kernel_rfl) Try.func5 (by kernel_rfl)
    (of_decide_eq_true (by kernel_rfl)) (by unfold Func.isWrapper; first | (rw [if_pos (by decide +kernel)]; kernel_rfl) | (rw [if_neg (by decide +kernel)]; exact ⟨rfl, rfl⟩))
    (fun os started H enc _ => lifted os started H enc)
theorem proved : Rows.TicketsRowsSaid := over
#print axioms proved
end Go.Proofs.Ytihciioopdalnaa.ticketsRows
