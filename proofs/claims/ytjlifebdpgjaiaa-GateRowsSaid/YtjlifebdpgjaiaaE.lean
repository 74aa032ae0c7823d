import Derived.Test.YtjlifebdpgjaiaaC
import Derived.Test.YtjlifebdpgjaiaaRG
namespace Go.Proofs.Ytjlifebdpgjaiaa
set_option linter.unusedSimpArgs false
set_option linter.unusedVariables false
open Go.ChangeShapes Go.WideShapes Go.ChangeAt Go.RowKit

set_option maxHeartbeats 400000 in
theorem rright_any (e n u : Int) (w : World) :
    Calls Try.prog 15 #[gateV e n u] w fun r w' => r = .returned (.bool (decide (rightP e n u))) ∧ Below w.heap.size w w' := by
  go_enter Try.func15, Try.ntmps15
  go_wp2
  all_goals go_ret
  all_goals refine ⟨?_, (Below.refl _ _).alloc (Nat.le_refl _) _⟩
  all_goals refine ret_bool ?_
  all_goals first
    | (refine (decide_eq_true ?_).symm; unfold rightP; omega)
    | (refine (decide_eq_false ?_).symm; unfold rightP; omega)
    | (symm; rw [Bool.eq_iff_iff]; simp only [decide_eq_true_eq]; unfold rightP; omega)

set_option maxHeartbeats 400000 in
theorem rwants_no (e n u k : Int) (hr : ¬ rightP e n u) (w : World) :
    Calls Try.prog 16 #[gateV e n u, .int .i64 k] w fun r w' => r = .returned (.int .i64 0) ∧ Below w.heap.size w w' := by
  have hB := fun w => (rright_any e n u w).mono (R' := fun r w' => r = .returned (.bool false) ∧ Below w.heap.size w w') (fun _ _ ⟨h1, h2⟩ => ⟨by rw [h1, decide_eq_false hr], h2⟩)
  clear hr
  go_enter Try.func16, Try.ntmps16
  go_wp2_with (go_at_call 15; refine (hB _).mono ?_; rintro e w' ⟨rfl, hg⟩; obtain ⟨hc, hf⟩ := bcell hg)
  go_ret
  refine ⟨rfl, ?_⟩
  repeat (first | exact ext_refl _ | assumption | refine ext_drew ?_ | refine ext_alloc ?_ _ | refine ext_set ?_ (by first | omega | (simp; done) | (simp; omega)) _ | refine ext_trans ?_ (by assumption))

theorem wants_no (e n u k : Int) (hr : ¬ rightP e n u) (w : World) :
    Calls Try.prog 8 #[gateV e n u, .int .i64 k] w fun r w' => r = .returned (.int .i64 0) ∧ Below w.heap.size w w' := by
  have hB := right_no e n u hr
  clear hr
  go_enter Try.func8, Try.ntmps8
  go_wp2_with (go_at_call 14; refine (hB _).mono ?_; rintro e w' ⟨rfl, hg⟩; obtain ⟨hc, hf⟩ := bcell hg)
  go_ret
  refine ⟨rfl, ?_⟩
  repeat (first | exact ext_refl _ | assumption | refine ext_drew ?_ | refine ext_alloc ?_ _ | refine ext_set ?_ (by first | omega | (simp; done) | (simp; omega)) _ | refine ext_trans ?_ (by assumption))

set_option maxHeartbeats 800000 in
theorem rwants_yes (e n u k : Int) (hr : rightP e n u) (w : World) :
    Calls Try.prog 16 #[gateV e n u, .int .i64 k] w fun r w' => r = .returned (.int .i64 (wantsI n u k)) ∧ Below w.heap.size w w' := by
  have hB := fun w => (rright_any e n u w).mono (R' := fun r w' => r = .returned (.bool true) ∧ Below w.heap.size w w') (fun _ _ ⟨h1, h2⟩ => ⟨by rw [h1, decide_eq_true hr], h2⟩)
  unfold rightP at hr
  obtain ⟨r1, r2, r3, r4, r5, r6⟩ := hr
  have R3 : Hid (u % 8 = 0) := r3
  clear r3
  go_enter Try.func16, Try.ntmps16
  go_wp2_with (go_at_call 15; refine (hB _).mono ?_; rintro e w' ⟨rfl, hg⟩; obtain ⟨hc, hf⟩ := bcell hg)
  go_loop [5] (fun t => ∃ x : Int, t = .int .i64 x ∧ u ≤ x ∧ x ≤ 64 ∧ Hid (x % 8 = 0) ∧ (x = u ∨ x < n + min (max k 0) 64 + 8)) (fun t => (64 - intOf t).toNat)
  case atStart => exact ⟨u, rfl, by omega, by omega, R3, Or.inl rfl⟩
  case round =>
    obtain ⟨x, rfl, hx1, hx2, hx3, hx4⟩ := hrel
    have HX : Hid (x = u ∨ x < n + min (max k 0) 64 + 8) := hx4
    clear hx4
    go_wp2
    all_goals first
      | (go_round
         case rel => exact ⟨x + 8, rfl, by omega, by have := hx3.out; omega, by have := hx3.out; exact (show (x + 8) % 8 = 0 by omega), Or.inr (by have := hx3.out; omega)⟩
         case measure => simp [intOf]; omega)
      | (go_ret
         refine ⟨ret_int ?_, ?_⟩
         · have h1 := HX.out
           have h2 := hx3.out
           have h3 := R3.out
           unfold wantsI
           omega
         · repeat (first | exact ext_refl _ | assumption | refine ext_drew ?_ | refine ext_alloc ?_ _ | refine ext_set ?_ (by first | omega | (simp; done) | (simp; omega)) _ | refine ext_trans ?_ (by assumption)))
end Go.Proofs.Ytjlifebdpgjaiaa
