import Derived.Test.YtjlifebdpgjaiaaA
import Derived.StillTailTactics
import Derived.BigQuiet
import Derived.Deep.RegionHeld3
namespace Go.Proofs.Ytjlifebdpgjaiaa
set_option linter.unusedSimpArgs false
set_option linter.unusedVariables false
open Go.ChangeShapes Go.WideShapes Go.ChangeAt Go.RowKit

abbrev gateV (e n u : Int) : Value := .agg #[.int .i64 e, .int .i64 n, .int .i64 u]

theorem new_any (e : Int) (w : World) :
    Calls Try.prog 6 #[.int .i64 e] w fun r w' => r = .returned (gateV (max e 0) 0 0) ∧ Below w.heap.size w w' := by
  by_cases h : e < 0
  · have h2 : max e 0 = 0 := by omega
    rw [h2]
    clear h2
    go_enter Try.func6, Try.ntmps6
    go_wp2
    exact bodyPost_ret (v := gateV 0 0 0) (by simp [results, Try.results6, go_sem]) rfl ⟨rfl, (Below.refl _ _).alloc (Nat.le_refl _) _⟩
  · have h2 : max e 0 = e := by omega
    rw [h2]
    clear h2
    go_enter Try.func6, Try.ntmps6
    go_wp2
    exact bodyPost_ret (v := gateV e 0 0) (by simp [results, Try.results6, go_sem]) rfl ⟨rfl, (Below.refl _ _).alloc (Nat.le_refl _) _⟩

theorem left_yes (e n u : Int) (hr : rightP e n u) (w : World) :
    Calls Try.prog 10 #[gateV e n u] w fun r w' => r = .returned (.int .i64 (64 - n)) ∧ Below w.heap.size w w' := by
  have hB := right_yes e n u hr
  unfold rightP at hr
  obtain ⟨r1, r2, r3, r4, r5, r6⟩ := hr
  clear r3
  go_enter Try.func10, Try.ntmps10
  go_wp2_with (go_at_call 14; refine (hB _).mono ?_; rintro e w' ⟨rfl, hg⟩; obtain ⟨hc, hf⟩ := bcell hg)
  go_ret
  refine ⟨rfl, ((Below.refl _ _).alloc (Nat.le_refl _) _).trans (hg.mono (by simp))⟩

theorem left_no (e n u : Int) (hr : ¬ rightP e n u) (w : World) :
    Calls Try.prog 10 #[gateV e n u] w fun r w' => r = .returned (.int .i64 0) ∧ Below w.heap.size w w' := by
  have hB := right_no e n u hr
  clear hr
  go_enter Try.func10, Try.ntmps10
  go_wp2_with (go_at_call 14; refine (hB _).mono ?_; rintro e w' ⟨rfl, hg⟩; obtain ⟨hc, hf⟩ := bcell hg)
  go_ret
  refine ⟨rfl, ((Below.refl _ _).alloc (Nat.le_refl _) _).trans (hg.mono (by simp))⟩

theorem turn_yes (e n u : Int) (hr : rightP e n u) (w : World) :
    Calls Try.prog 13 #[gateV e n u] w fun r w' => r = .returned (gateV (max (wrap64 (e + 1)) 0) 0 0) ∧ Below w.heap.size w w' := by
  have hB := right_yes e n u hr
  clear hr
  go_enter Try.func13, Try.ntmps13
  go_wp2_with (first
    | (go_at_call 14; refine (hB _).mono ?_; rintro e w' ⟨rfl, hg⟩; obtain ⟨hc, hf⟩ := bcell hg; have hz : w.heap.size + 1 < w'.heap.size := by have := hg.size; simp at this; omega)
    | (go_at_call 6; refine (new_any _ _).mono ?_; rintro e w2 ⟨rfl, hg2⟩; obtain ⟨hc2, hf2⟩ := bcell hg2))
  refine bodyPost_ret (v := gateV (max (wrap64 (e + 1)) 0) 0 0) (by simp [results, Try.results13, go_sem, hc2, hc, hz]) rfl ⟨rfl, ?_⟩
  exact (((((((Below.refl _ _).alloc (Nat.le_refl _) _).alloc (by simp) _).trans (hg.mono (by simp; omega))).trans (hg2.mono (by omega))).setCell (by simp) _).setCell (by simp) _).setCell (by simp) _

theorem turn_no (e n u : Int) (hr : ¬ rightP e n u) (w : World) :
    Calls Try.prog 13 #[gateV e n u] w fun r w' => r = .returned (gateV 0 0 0) ∧ Below w.heap.size w w' := by
  have hB := right_no e n u hr
  clear hr
  go_enter Try.func13, Try.ntmps13
  go_wp2_with (first
    | (go_at_call 14; refine (hB _).mono ?_; rintro e w' ⟨rfl, hg⟩; obtain ⟨hc, hf⟩ := bcell hg; have hz : w.heap.size + 1 < w'.heap.size := by have := hg.size; simp at this; omega)
    | (go_at_call 6; refine (new_any _ _).mono ?_; rintro e w2 ⟨rfl, hg2⟩; obtain ⟨hc2, hf2⟩ := bcell hg2))
  refine bodyPost_ret (v := gateV 0 0 0) (by simp [results, Try.results13, go_sem, hc2, hc, hz]) rfl ⟨rfl, ?_⟩
  exact (((((((Below.refl _ _).alloc (Nat.le_refl _) _).alloc (by simp) _).trans (hg.mono (by simp; omega))).trans (hg2.mono (by omega))).setCell (by simp) _).setCell (by simp) _).setCell (by simp) _

theorem use_no (e n u : Int) (hr : ¬ rightP e n u) (w : World) :
    Calls Try.prog 9 #[gateV e n u] w fun r w' => r = .returned (.tuple #[gateV 0 0 0, .int .i64 0, .int .i64 1]) ∧ Below w.heap.size w w' := by
  have hB := right_no e n u hr
  clear hr
  go_enter Try.func9, Try.ntmps9
  go_wp2_with (go_at_call 14; refine (hB _).mono ?_; rintro e w' ⟨rfl, hg⟩; obtain ⟨hc, hf⟩ := bcell hg; have hz : w.heap.size + 1 < w'.heap.size := by have := hg.size; simp at this; omega)
  refine bodyPost_ret (v := .tuple #[gateV 0 0 0, .int .i64 0, .int .i64 1]) (by simp [results, Try.results9, go_sem, hc, hz]) rfl ⟨rfl, ?_⟩
  exact ((((((Below.refl _ _).alloc (Nat.le_refl _) _).alloc (by simp) _).trans (hg.mono (by simp; omega))).setCell (by simp) _).setCell (by simp) _).setCell (by simp) _

theorem use_end (e n u : Int) (hr : rightP e n u) (hn : n = 64) (w : World) :
    Calls Try.prog 9 #[gateV e n u] w fun r w' => r = .returned (.tuple #[gateV 0 0 0, .int .i64 0, .int .i64 8]) ∧ Below w.heap.size w w' := by
  have hB := right_yes e n u hr
  have h1 : (n == 64) = true := by simpa using hn
  clear hr hn
  go_enter Try.func9, Try.ntmps9
  go_wp2_with (go_at_call 14; refine (hB _).mono ?_; rintro e w' ⟨rfl, hg⟩; obtain ⟨hc, hf⟩ := bcell hg; have hz : w.heap.size + 1 < w'.heap.size := by have := hg.size; simp at this; omega)
  refine bodyPost_ret (v := .tuple #[gateV 0 0 0, .int .i64 0, .int .i64 8]) (by simp [results, Try.results9, go_sem, hc, hz]) rfl ⟨rfl, ?_⟩
  exact ((((((Below.refl _ _).alloc (Nat.le_refl _) _).alloc (by simp) _).trans (hg.mono (by simp; omega))).setCell (by simp) _).setCell (by simp) _).setCell (by simp) _

theorem use_gate (e n u : Int) (hr : rightP e n u) (hn : n ≠ 64) (hu : n = u) (w : World) :
    Calls Try.prog 9 #[gateV e n u] w fun r w' => r = .returned (.tuple #[gateV 0 0 0, .int .i64 0, .int .i64 7]) ∧ Below w.heap.size w w' := by
  have hB := right_yes e n u hr
  have h1 : (n == 64) = false := by simpa using hn
  have h2 : (n == u) = true := by simpa using hu
  clear hr hn hu
  go_enter Try.func9, Try.ntmps9
  go_wp2_with (go_at_call 14; refine (hB _).mono ?_; rintro e w' ⟨rfl, hg⟩; obtain ⟨hc, hf⟩ := bcell hg; have hz : w.heap.size + 1 < w'.heap.size := by have := hg.size; simp at this; omega)
  refine bodyPost_ret (v := .tuple #[gateV 0 0 0, .int .i64 0, .int .i64 7]) (by simp [results, Try.results9, go_sem, hc, hz]) rfl ⟨rfl, ?_⟩
  exact ((((((Below.refl _ _).alloc (Nat.le_refl _) _).alloc (by simp) _).trans (hg.mono (by simp; omega))).setCell (by simp) _).setCell (by simp) _).setCell (by simp) _

theorem use_ok (e n u : Int) (hr : rightP e n u) (hu : n < u) (w : World) :
    Calls Try.prog 9 #[gateV e n u] w fun r w' => r = .returned (.tuple #[gateV e (n + 1) u, .int .i64 n, .int .i64 0]) ∧ Below w.heap.size w w' := by
  have hB := right_yes e n u hr
  unfold rightP at hr
  obtain ⟨r1, r2, r3, r4, r5, r6⟩ := hr
  clear r3
  have h1 : (n == 64) = false := by simp; omega
  have h2 : (n == u) = false := by simp; omega
  go_enter Try.func9, Try.ntmps9
  go_wp2_with (go_at_call 14; refine (hB _).mono ?_; rintro e w' ⟨rfl, hg⟩; obtain ⟨hc, hf⟩ := bcell hg; have hz : w.heap.size + 1 < w'.heap.size := by have := hg.size; simp at this; omega)
  go_region
  go_wp2
  refine bodyPost_ret (v := .tuple #[gateV e (n + 1) u, .int .i64 n, .int .i64 0]) (by simp [results, Try.results9, go_sem, hc, hz]) rfl ⟨rfl, ?_⟩
  repeat (first | exact Below.refl _ _ | assumption | refine Below.drew ?_ | refine Below.setCell ?_ (by simp) _ | refine Below.alloc ?_ (by first | omega | (simp; done) | (simp; omega)) _ | refine Below.trans ?_ (Below.mono (by assumption) (by first | omega | (simp; done) | (simp; omega))))

theorem reserve_bad (e n u t : Int) (hr : ¬ rightP e n u) (w : World) :
    Calls Try.prog 7 #[gateV e n u, .int .i64 t] w fun r w' => r = .returned (.tuple #[gateV 0 0 0, .int .i64 1]) ∧ Below w.heap.size w w' := by
  have hB := right_no e n u hr
  clear hr
  go_enter Try.func7, Try.ntmps7
  go_wp2_with (go_at_call 14; refine (hB _).mono ?_; rintro e w' ⟨rfl, hg⟩; obtain ⟨hc, hf⟩ := bcell hg; have hz : w.heap.size + 1 + 1 < w'.heap.size := by have := hg.size; simp at this; omega)
  refine bodyPost_ret (v := .tuple #[gateV 0 0 0, .int .i64 1]) (by simp [results, Try.results7, go_sem, hc]) rfl ⟨rfl, ?_⟩
  repeat (first | exact Below.refl _ _ | assumption | refine Below.drew ?_ | refine Below.setCell ?_ (by simp) _ | refine Below.alloc ?_ (by first | omega | (simp; done) | (simp; omega)) _ | refine Below.trans ?_ (Below.mono (by assumption) (by first | omega | (simp; done) | (simp; omega))))

theorem reserve_low (e n u t : Int) (hr : rightP e n u) (ht : t < u) (w : World) :
    Calls Try.prog 7 #[gateV e n u, .int .i64 t] w fun r w' => r = .returned (.tuple #[gateV 0 0 0, .int .i64 1]) ∧ Below w.heap.size w w' := by
  have hB := right_yes e n u hr
  clear hr
  go_enter Try.func7, Try.ntmps7
  go_wp2_with (go_at_call 14; refine (hB _).mono ?_; rintro e w' ⟨rfl, hg⟩; obtain ⟨hc, hf⟩ := bcell hg; have hz : w.heap.size + 1 + 1 < w'.heap.size := by have := hg.size; simp at this; omega)
  refine bodyPost_ret (v := .tuple #[gateV 0 0 0, .int .i64 1]) (by simp [results, Try.results7, go_sem, hc]) rfl ⟨rfl, ?_⟩
  repeat (first | exact Below.refl _ _ | assumption | refine Below.drew ?_ | refine Below.setCell ?_ (by simp) _ | refine Below.alloc ?_ (by first | omega | (simp; done) | (simp; omega)) _ | refine Below.trans ?_ (Below.mono (by assumption) (by first | omega | (simp; done) | (simp; omega))))

theorem reserve_odd (e n u t : Int) (hr : rightP e n u) (ht : u ≤ t) (hq : ¬ rightP e n t) (w : World) :
    Calls Try.prog 7 #[gateV e n u, .int .i64 t] w fun r w' => r = .returned (.tuple #[gateV 0 0 0, .int .i64 1]) ∧ Below w.heap.size w w' := by
  have hB := right_yes e n u hr
  have hC := right_no e n t hq
  have hne : Hid (u ≠ t) := fun h => hq (h ▸ hr)
  clear hr hq
  go_enter Try.func7, Try.ntmps7
  go_wp2_with fail
  refine (hB _).mono ?_; rintro e w' ⟨rfl, hg⟩; obtain ⟨hc, hf⟩ := bcell hg; have hz : w.heap.size + 1 + 1 < w'.heap.size := by have := hg.size; simp at this; omega
  go_wp2_with fail
  refine (hC _).mono ?_; rintro e w2 ⟨rfl, hg2⟩; obtain ⟨hc2, hf2⟩ := bcell hg2; have hz0 : w.heap.size < w'.heap.size := by omega
  have hz1 : w.heap.size + 1 < w'.heap.size := by omega
  go_wp2
  refine bodyPost_ret (v := .tuple #[gateV 0 0 0, .int .i64 1]) (by simp [results, Try.results7, go_sem, hc, hc2, hz1]) rfl ⟨rfl, ?_⟩
  repeat (first | exact Below.refl _ _ | assumption | refine Below.drew ?_ | refine Below.setCell ?_ (by simp) _ | refine Below.alloc ?_ (by first | omega | (simp; done) | (simp; omega)) _ | refine Below.trans ?_ (Below.mono (by assumption) (by first | omega | (simp; done) | (simp; omega))))

theorem reserve_ok (e n u t : Int) (hr : rightP e n u) (ht : u ≤ t) (hq : rightP e n t) (w : World) :
    Calls Try.prog 7 #[gateV e n u, .int .i64 t] w fun r w' => r = .returned (.tuple #[gateV e n t, .int .i64 0]) ∧ Below w.heap.size w w' := by
  have hB := right_yes e n u hr
  have hC := right_yes e n t hq
  clear hr hq
  go_enter Try.func7, Try.ntmps7
  go_wp2_with fail
  refine (hB _).mono ?_; rintro e w' ⟨rfl, hg⟩; obtain ⟨hc, hf⟩ := bcell hg; have hz : w.heap.size + 1 + 1 < w'.heap.size := by have := hg.size; simp at this; omega
  go_wp2_with fail
  refine (hC _).mono ?_; rintro e w2 ⟨rfl, hg2⟩; obtain ⟨hc2, hf2⟩ := bcell hg2; have hz0 : w.heap.size < w'.heap.size := by omega
  have hz1 : w.heap.size + 1 < w'.heap.size := by omega
  go_wp2
  refine bodyPost_ret (v := .tuple #[gateV e n t, .int .i64 0]) (by simp [results, Try.results7, go_sem, hc, hc2, hz1]) rfl ⟨rfl, ?_⟩
  repeat (first | exact Below.refl _ _ | assumption | refine Below.drew ?_ | refine Below.setCell ?_ (by simp) _ | refine Below.alloc ?_ (by first | omega | (simp; done) | (simp; omega)) _ | refine Below.trans ?_ (Below.mono (by assumption) (by first | omega | (simp; done) | (simp; omega))))
end Go.Proofs.Ytjlifebdpgjaiaa
