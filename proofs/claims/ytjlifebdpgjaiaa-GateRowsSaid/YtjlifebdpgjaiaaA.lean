import Derived.Test.YtjlifebdpgjaiaaChecked
import Derived.WalkKit
import Derived.ProofKit
import Derived.OpenShut
import Derived.Outline
namespace Go.Proofs.Ytjlifebdpgjaiaa
open Go.ChangeShapes Go.WideShapes Go.ChangeAt Go.RowKit

theorem bcell {W w1 : World} (hb : Below W.heap.size W w1) : (∀ b o, b < W.heap.size → w1.cell? ⟨b, o, none⟩ = W.cell? ⟨b, o, none⟩) ∧ (∀ b o, b < W.heap.size → w1.frozen? ⟨b, o, none⟩ = W.frozen? ⟨b, o, none⟩) :=
  ⟨fun b o h => hb.cell (p := ⟨b, o, none⟩) h, fun b o h => hb.frozen (p := ⟨b, o, none⟩) h⟩

def rightP (e n u : Int) : Prop := 0 ≤ u ∧ u ≤ 64 ∧ u % 8 = 0 ∧ 0 ≤ e ∧ 0 ≤ n ∧ n ≤ u
instance (e n u : Int) : Decidable (rightP e n u) := inferInstanceAs (Decidable (_ ∧ _))
theorem ret_bool {a b : Bool} (h : a = b) : Ending.returned (.bool a) = .returned (.bool b) := by rw [h]
theorem ret_int {k : IntKind} {a b : Int} (h : a = b) : Ending.returned (.int k a) = .returned (.int k b) := by rw [h]

set_option maxHeartbeats 400000 in
theorem right_any (e n u : Int) (w : World) :
    Calls Try.prog 14 #[.agg #[.int .i64 e, .int .i64 n, .int .i64 u]] w fun r w' => r = .returned (.bool (decide (rightP e n u))) ∧ Below w.heap.size w w' := by
  go_enter Try.func14, Try.ntmps14
  go_wp2
  all_goals go_ret
  all_goals refine ⟨?_, (Below.refl _ _).alloc (Nat.le_refl _) _⟩
  all_goals refine ret_bool ?_
  all_goals first
    | (refine (decide_eq_true ?_).symm; unfold rightP; omega)
    | (refine (decide_eq_false ?_).symm; unfold rightP; omega)
    | (symm; rw [Bool.eq_iff_iff]; simp only [decide_eq_true_eq]; unfold rightP; omega)

theorem right_yes (e n u : Int) (h : rightP e n u) (w : World) :
    Calls Try.prog 14 #[.agg #[.int .i64 e, .int .i64 n, .int .i64 u]] w fun r w' => r = .returned (.bool true) ∧ Below w.heap.size w w' :=
  (right_any e n u w).mono fun _ _ ⟨h1, h2⟩ => ⟨by rw [h1, decide_eq_true h], h2⟩
theorem right_no (e n u : Int) (h : ¬ rightP e n u) (w : World) :
    Calls Try.prog 14 #[.agg #[.int .i64 e, .int .i64 n, .int .i64 u]] w fun r w' => r = .returned (.bool false) ∧ Below w.heap.size w w' :=
  (right_any e n u w).mono fun _ _ ⟨h1, h2⟩ => ⟨by rw [h1, decide_eq_false h], h2⟩

def wantsI (n u k : Int) : Int := min (max ((n + min (max k 0) 64 + 7) / 8 * 8) u) 64
set_option maxHeartbeats 400000 in
theorem wants_any (e n u k : Int) (hr : rightP e n u) (w : World) :
    Calls Try.prog 8 #[.agg #[.int .i64 e, .int .i64 n, .int .i64 u], .int .i64 k] w fun r w' => r = .returned (.int .i64 (wantsI n u k)) ∧ Below w.heap.size w w' := by
  have hB := right_yes e n u hr
  unfold rightP at hr
  obtain ⟨r1, r2, r3, r4, r5, r6⟩ := hr
  have R3 : Hid (u % 8 = 0) := r3
  clear r3
  go_enter Try.func8, Try.ntmps8
  go_wp2_with (go_at_call 14; refine (hB _).mono ?_; rintro e w' ⟨rfl, hg⟩; obtain ⟨hc, hf⟩ := bcell hg)
  all_goals go_ret
  all_goals refine ⟨?_, ((Below.refl _ _).alloc (Nat.le_refl _) _).trans (hg.mono (by simp))⟩
  all_goals refine ret_int ?_
  all_goals unfold wantsI
  all_goals omega
end Go.Proofs.Ytjlifebdpgjaiaa
