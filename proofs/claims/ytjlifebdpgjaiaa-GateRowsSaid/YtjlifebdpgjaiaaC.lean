import Derived.Test.YtjlifebdpgjaiaaB
import Derived.Deep.RegionHeld3
import Derived.Deep.DeepCutAuto
namespace Go.Proofs.Ytjlifebdpgjaiaa
set_option linter.unusedSimpArgs false
set_option linter.unusedVariables false
open Go.ChangeShapes Go.WideShapes Go.ChangeAt Go.RowKit

theorem ext_refl (w : World) : Below w.heap.size w w := Below.refl _ _
theorem ext_trans {a b c : World} (h : Below a.heap.size a b) (k : Below b.heap.size b c) : Below a.heap.size a c := h.trans (k.mono h.size)
theorem ext_alloc {a b : World} (h : Below a.heap.size a b) (o : Obj) : Below a.heap.size a (b.alloc o) := h.alloc h.size o
theorem ext_set {a b : World} (h : Below a.heap.size a b) {p : Addr} (hp : a.heap.size ≤ p.block) (v : Value) : Below a.heap.size a (b.setCell p v) := h.setCell hp v
theorem ext_drew {a b : World} (h : Below a.heap.size a b) : Below a.heap.size a b.drew := h.drew

theorem wants_eq (e n u k v : Int) (hr : rightP e n u) (hv : wantsI n u k = v) (w : World) :
    Calls Try.prog 8 #[.agg #[.int .i64 e, .int .i64 n, .int .i64 u], .int .i64 k] w fun r w' => r = .returned (.int .i64 v) ∧ Below w.heap.size w w' := by
  subst hv; exact wants_any e n u k hr w
theorem new_eq (e v : Int) (hv : max e 0 = v) (w : World) :
    Calls Try.prog 6 #[.int .i64 e] w fun r w' => r = .returned (gateV v 0 0) ∧ Below w.heap.size w w' := by
  subst hv; exact new_any e w

set_option maxHeartbeats 800000 in
theorem opens_any (w : World) : Calls Try.prog 11 #[] w fun r w' => r = .returned (.bool true) ∧ Below w.heap.size w w' := by
  go_enter Try.func11, Try.ntmps11
  go_wp2_with fail
  refine (new_eq _ 0 (by decide) _).mono ?_; rintro e w1 ⟨rfl, b1⟩
  go_wp2_with fail
  refine (use_gate _ _ _ (by unfold rightP; omega) (by omega) rfl _).mono ?_; rintro e w2 ⟨rfl, b2⟩
  go_wp2_with fail
  refine (new_eq _ 0 (by decide) _).mono ?_; rintro e w3 ⟨rfl, b3⟩
  go_wp2_with fail
  refine (new_eq _ 0 (by decide) _).mono ?_; rintro e w4 ⟨rfl, b4⟩
  go_wp2_with fail
  refine (wants_eq _ _ _ _ 8 (by unfold rightP; omega) (by decide) _).mono ?_; rintro e w5 ⟨rfl, b5⟩
  go_wp2_with fail
  refine (reserve_ok _ _ _ _ (by unfold rightP; omega) (by omega) (by unfold rightP; omega) _).mono ?_; rintro e w6 ⟨rfl, b6⟩
  go_wp2_with fail
  refine (use_ok _ _ _ (by unfold rightP; omega) (by omega) _).mono ?_; rintro e w7 ⟨rfl, b7⟩; obtain ⟨hc7, hf7⟩ := bcell b7; have hz7 : w6.heap.size < w7.heap.size := by have := b7.size; simp at this; omega
  go_wp2_with fail
  refine (right_yes _ _ _ (by unfold rightP; omega) _).mono ?_; rintro e w8 ⟨rfl, b8⟩; obtain ⟨hc8, hf8⟩ := bcell b8
  go_wp2_with fail
  refine (left_yes _ _ _ (by unfold rightP; omega) _).mono ?_; rintro e w9 ⟨rfl, b9⟩
  go_wp2
  go_ret
  refine ⟨rfl, ?_⟩
  repeat (first | exact ext_refl _ | assumption | refine ext_drew ?_ | refine ext_alloc ?_ _ | refine ext_set ?_ (by first | omega | (simp; done) | (simp; omega)) _ | refine ext_trans ?_ (by assumption))
end Go.Proofs.Ytjlifebdpgjaiaa
