/- The law TicketsRaw is true of all tables, bytes and numbers; it changes nothing. No condition. -/
import Derived.Test.YtihciioopdalnaaTK9
import Derived.Test.YtihciioopdalnaaRows
namespace Go.Proofs.Ytihciioopdalnaa.ticketsRaw
set_option linter.unusedSimpArgs false
set_option linter.unusedVariables false
open Go.ChangeShapes Go.WideShapes Go.ChangeAt Go.RowKit Go.SE
theorem own : ownKnob Try.prog.godebug = none := by kernel_rfl
theorem laid : laidOutB Try.prog = true := by kernel_rfl

set_option maxRecDepth 100000 in
theorem lifted (os : Os) (started : os.Started) (H : Type) (enc : TypeId × Value → H) :
    ReturnsInHanded {} Try.checked os 6 .any (Rows.ticketsRawSpec.pre6 enc Try.prog Try.f6 [] false) (Rows.ticketsRawSpec.post enc Try.prog Try.f6 false true false false) := by
  refine ROW.liftedS (C := Try.checked) (tb := 4) os started H enc own (by kernel_rfl) Try.func6 laid (by kernel_rfl) rfl (by kernel_rfl) Try.underlying4 ?_
    (ChangeSpec.witness6 (enc := enc) (C := Try.checked) false ⟨#[], #[.agg (List.replicate 32 (Value.int .u8 0) ++ [Value.int .i64 0, Value.slice none 0 0]).toArray, .slice none 0 0, .int .i64 0], []⟩ 8 (by kernel_rfl) (by kernel_rfl) (by kernel_rfl) (by kernel_rfl)) ?_
  · intro ds hl
    have e0 : Try.f6.params.toList.length = 3 := by kernel_rfl
    rw [e0] at hl
    match ds, hl with
    | [_, _, _], _ => rfl
  · intro W base args ds p hval hA hlt hsz0
    have hsz : (DataW.weightsEach Try.prog Try.f6.params.toList ds).all (fun x => decide (x ≤ reachBytes)) = true := hsz0
    have hA : DataW.TrodAll enc Try.prog W 0 (fun _ => true) true Try.f6.params.toList args.toList ds p := hA
    have hval : ∀ (j : Nat) t v, Try.f6.params[j]? = some t → args[j]? = some v → Value.okWide Try.prog W .any base t v := hval
    rw [Try.params6] at hA hval hsz
    obtain ⟨v0, vs0, d0, ds0, p0, q0, hargs, rfl, rfl, h0, r0⟩ := trodAll_cons hA
    obtain ⟨v1, vs1, d1, ds1, p1, q1, rfl, rfl, rfl, h1, r1⟩ := trodAll_cons r0
    obtain ⟨v2, vs2, d2, ds2, p2, q2, rfl, rfl, rfl, h2, r2⟩ := trodAll_cons r1
    obtain ⟨rfl, rfl, rfl⟩ := trodAll_nil r2
    obtain rfl : args = #[v0, v1, v2] := by cases args; simp_all
    have hw0 : (d0.weights Try.prog 44).all (· ≤ reachBytes) = true := by
      have h9 := hsz
      unfold DataW.weightsEach at h9
      rw [List.all_append, Bool.and_eq_true] at h9
      exact h9.1
    obtain ⟨ke0, nx0, A0, n0, c0, b0, s0, L0, rfl, hk0, hL0, hA0, hc0, hn0, hi0, ho0⟩ := open_tab (hval 0 44 v0 rfl rfl) h0 hw0
    obtain ⟨A1, c1, b1, s1, a1, rfl, w1⟩ := ROW.open_bytes Try.underlying22 Try.underlying5 (by kernel_rfl) (hval 1 22 v1 rfl rfl) h1 (fun x hx => hlt x (by simp [hx]))
    obtain ⟨a2, rfl, rfl, rfl, w2⟩ := open_int Try.underlying3 (hval 2 3 v2 rfl rfl) h2
    refine ROW.of_con (args := [_, _, _]) (l_TRaw (key := ke0) (next := nx0) (L := L0) (A := A0) (n := n0) (c := c0) (b := b0) (q := s0) (tk := a1) (ntk := a1.length) (Atk := A1) (ctk := c1) (btk := b1) (qtk := s1) (id := a2) hk0 hL0 hA0 hc0 rfl w1.ad w1.1 hn0 hi0) ?_
    intro r hr; simp only [List.mem_cons, List.not_mem_nil, or_false] at hr; rcases hr with rfl | rfl; exact ho0; exact w1.row

theorem over : Rows.ticketsRawRow.holds Try.pinned (OpenSpec.ofChange Rows.ticketsRawSpec) :=
  OpenClaim.holds_of_wide 6 Try.f6 rfl rfl rfl rfl rfl rfl rfl ⟨rfl, rfl, rfl, rfl, rfl⟩ rfl rfl rfl rfl rfl (by kernel_rfl) Try.func6 (by kernel_rfl)
    (of_decide_eq_true (by kernel_rfl)) (by unfold Func.isWrapper; first | (rw [if_pos (by decide +kernel)]; kernel_rfl) | (rw [if_neg (by decide +kernel)]; exact ⟨rfl, rfl⟩))
    (fun os started H enc _ => lifted os started H enc)
theorem proved : Rows.TicketsRawSaid := over
#print axioms proved
end Go.Proofs.Ytihciioopdalnaa.ticketsRaw
