import Derived.Test.YtjlifebdpgjaiaaM
import Derived.Test.YtjlifebdpgjaiaaD
import Derived.Deep.DeepCutAuto
import Derived.Test.YtjlifebdpgjaiaaROW
namespace Go.Proofs.Ytjlifebdpgjaiaa
set_option linter.unusedSimpArgs false
set_option linter.unusedVariables false
open Go.ChangeShapes Go.WideShapes Go.ChangeAt Go.RowKit
attribute [local go_sem] lt_add1

theorem wf_small (n : Int) (h : 0 ≤ n ∧ n < 1000000) : (Lit.int .i64 n).wf = true := by refine WalkArith.wf_i64 ?_; omega
theorem turn_eq (e n u v : Int) (hr : rightP e n u) (hv : e + 1 = v) (hs : e < 1000000) (w : World) :
    Calls Try.prog 13 #[gateV e n u] w fun r w' => r = .returned (gateV v 0 0) ∧ Below w.heap.size w w' := by
  have h := turn_yes e n u hr w
  have h0 : 0 ≤ e := by unfold rightP at hr; omega
  have h1 : max (wrap64 (e + 1)) 0 = v := by
    have : wrap64 (e + 1) = e + 1 := IntWalk.wrap64_in _ (by omega)
    rw [this]; omega
  rw [h1] at h
  exact h

set_option maxRecDepth 100000 in
set_option maxHeartbeats 2000000 in
theorem rows_any (a : Option Addr) (cap : Nat) (zs : List Int) {w : World} (hI : ROW.Ints w .i64 a cap zs) :
    Calls Try.prog 5 #[.slice a zs.length cap] w fun r w' => r = .returned (.bool true) ∧ Below w.heap.size w w' := by
  obtain ⟨-, -, hz, ha⟩ := hI
  go_enter Try.func5, Try.ntmps5
  go_wp2_with fail
  refine (new_eq _ 0 (by decide) _).mono ?_; rintro e w1 ⟨rfl, b1⟩
  have T0 := Told.made (w1.alloc (.cells #[.int .i64 0, .int .i64 0, .int .i64 0] 23))
  have hmm := @run_makeMap Try.prog
  go_wp2_with fail
  clear hmm
  go_loopw [5, 6] (fun v i wr => ∃ (k : Nat) (E N U : Int), k ≤ zs.length ∧ k ≤ 300 ∧ i = .int .i64 k ∧ v = .int .i64 U ∧ rightP E N U ∧ E ≤ k ∧ wr.cell? ⟨w1.heap.size, 0, none⟩ = some (.int .i64 E) ∧ wr.cell? ⟨w1.heap.size, 1, none⟩ = some (.int .i64 N) ∧ wr.cell? ⟨w1.heap.size, 2, none⟩ = some (.int .i64 U) ∧
      wr.frozen? ⟨w1.heap.size, 0, none⟩ = false ∧ wr.frozen? ⟨w1.heap.size, 1, none⟩ = false ∧ wr.frozen? ⟨w1.heap.size, 2, none⟩ = false ∧ Below w.heap.size w wr ∧ w1.heap.size + 1 < wr.heap.size ∧ Told wr (w1.heap.size + 1) k E N)
    (fun _ i _ => zs.length - (intOf i).toNat)
  case atStart =>
    have y1 := b1.size
    refine ⟨0, 0, 0, 0, by omega, by omega, rfl, rfl, by unfold rightP; omega, by omega, by simp, by simp, by simp, by simp, by simp, by simp, by (repeat (first | exact ext_refl _ | assumption | refine ext_drew ?_ | refine ext_alloc ?_ _ | refine ext_set ?_ (by first | omega | (simp; done) | (simp; omega)) _ | refine ext_trans ?_ (by assumption))), by simp, ?_⟩
    simpa using T0
  case round =>
    clear T0
    obtain ⟨k, E, N, U, hk, hk3, rfl, rfl, R, hE, c0, c1, c2, f0, f1, f2, hb, hs, T⟩ := hrel
    have y1 := b1.size
    have hs1 : w1.heap.size < wr.heap.size := by omega
    by_cases hlt : k < zs.length ∧ k < 300
    · obtain ⟨hlt, hlt3⟩ := hlt
      obtain ⟨b, off, rfl, hbw, hcell⟩ := ha (by omega)
      have hx : wr.cell? ⟨b, off + k, none⟩ = some (.int .i64 (zs.getD k 0)) := (hb.cell (p := ⟨b, off + k, none⟩) hbw).trans (hcell k hlt)
      clear hcell ha
      generalize hxx : zs.getD k 0 = x at hx
      clear hxx
      obtain ⟨r, hr, hr2⟩ := umod_ex x 20 (by omega)
      have R' := R
      unfold rightP at R'
      by_cases h19 : r = 19
      · subst h19
        go_wp2_with fail
        refine (turn_eq _ _ _ (E + 1) R (by omega) (by omega) _).mono ?_; rintro e w2 ⟨rfl, b2⟩; obtain ⟨hc2, hf2⟩ := bcell b2; (try simp only [World.size_drew, World.cell?_drew, World.frozen?_drew] at hc2 hf2); have y2 := b2.size; (try simp [Nat.add_one_le_iff] at y2); have z2_0 : w1.heap.size < w2.heap.size := (by omega)
        go_wp2_with fail
        have R2 : rightP (E + 1) 0 0 := by unfold rightP; omega
        refine (right_yes _ _ _ R2 _).mono ?_; rintro e w3 ⟨rfl, b3⟩; obtain ⟨hc3, hf3⟩ := bcell b3; (try simp only [World.size_drew, World.cell?_drew, World.frozen?_drew] at hc3 hf3); have y3 := b3.size; (try simp [Nat.add_one_le_iff] at y3); have z3_0 : w1.heap.size < w3.heap.size := (by omega)
        go_wp2_with fail
        go_round
        case rel =>
          refine ⟨k + 1, E + 1, 0, 0, by omega, by omega, by simp, rfl, R2, by omega, ?_, ?_, ?_, ?_, ?_, ?_, ?_, ?_, ?_⟩
          all_goals first
            | (simp (maxDischargeDepth := 9) [*, lt_add1, go_sem]; done)
            | (simp (maxDischargeDepth := 9) [*, lt_add1, go_sem]; omega)
            | omega
            | skip
          · (repeat (first | exact ext_refl _ | assumption | refine ext_drew ?_ | refine ext_alloc ?_ _ | refine ext_set ?_ (by first | omega | (simp; done) | (simp; omega)) _ | refine ext_trans ?_ (by assumption)))
          · refine Told.mono (n := k) (E := E) (N := N) ?_ ?_ ?_
            rotate_left
            · omega
            · omega
            (repeat (first | assumption | (with_reducible apply Told.set; all_goals first | (simp; done) | skip) | (with_reducible apply Told.alloc) | (with_reducible apply Told.drew) | (refine Told.below ?_ (by assumption))))
        case measure => simp [intOf]; omega
      · by_cases h15 : 15 < r
        · have hw : ∃ V, wantsI N U ((r:Int) - 14) = V ∧ U ≤ V ∧ rightP E N V := ⟨_, rfl, by unfold wantsI; omega, by unfold rightP wantsI; omega⟩
          obtain ⟨V, hV, hUV, RV⟩ := hw
          go_wp2_with fail
          refine (wants_eq _ _ _ _ V R hV _).mono ?_; rintro e w2 ⟨rfl, b2⟩; obtain ⟨hc2, hf2⟩ := bcell b2; (try simp only [World.size_drew, World.cell?_drew, World.frozen?_drew] at hc2 hf2); have y2 := b2.size; (try simp [Nat.add_one_le_iff] at y2); have z2_0 : w1.heap.size < w2.heap.size := (by omega)
          clear hV
          go_wp2_with fail
          refine (reserve_ok _ _ _ _ R hUV RV _).mono ?_; rintro e w3 ⟨rfl, b3⟩; obtain ⟨hc3, hf3⟩ := bcell b3; (try simp only [World.size_drew, World.cell?_drew, World.frozen?_drew] at hc3 hf3); have y3 := b3.size; (try simp [Nat.add_one_le_iff] at y3); have z3_0 : w1.heap.size < w3.heap.size := (by omega)
          go_wp2_with fail
          refine (right_yes _ _ _ RV _).mono ?_; rintro e w4 ⟨rfl, b4⟩; obtain ⟨hc4, hf4⟩ := bcell b4; (try simp only [World.size_drew, World.cell?_drew, World.frozen?_drew] at hc4 hf4); have y4 := b4.size; (try simp [Nat.add_one_le_iff] at y4); have z4_0 : w1.heap.size < w4.heap.size := (by omega); have z4_1 : w3.heap.size < w4.heap.size := (by omega)
          go_wp2_with fail
          go_round
          case rel =>
            refine ⟨k + 1, E, N, V, by omega, by omega, by simp, rfl, RV, by omega, ?_, ?_, ?_, ?_, ?_, ?_, ?_, ?_, ?_⟩
            all_goals first
              | (simp (maxDischargeDepth := 9) [*, lt_add1, go_sem]; done)
              | (simp (maxDischargeDepth := 9) [*, lt_add1, go_sem]; omega)
              | omega
              | skip
            · (repeat (first | exact ext_refl _ | assumption | refine ext_drew ?_ | refine ext_alloc ?_ _ | refine ext_set ?_ (by first | omega | (simp; done) | (simp; omega)) _ | refine ext_trans ?_ (by assumption)))
            · refine Told.mono (n := k) (E := E) (N := N) ?_ ?_ ?_
              rotate_left
              · omega
              · omega
              (repeat (first | assumption | (with_reducible apply Told.set; all_goals first | (simp; done) | skip) | (with_reducible apply Told.alloc) | (with_reducible apply Told.drew) | (refine Told.below ?_ (by assumption))))
          case measure => simp [intOf]; omega
        · by_cases h64 : N = 64
          · have hU : U = 64 := by omega
            subst h64 hU
            go_wp2_with fail
            refine (use_end _ _ _ R rfl _).mono ?_; rintro e w2 ⟨rfl, b2⟩; obtain ⟨hc2, hf2⟩ := bcell b2; (try simp only [World.size_drew, World.cell?_drew, World.frozen?_drew] at hc2 hf2); have y2 := b2.size; (try simp [Nat.add_one_le_iff] at y2); have z2_0 : w1.heap.size < w2.heap.size := (by omega)
            go_wp2_with fail
            go_round
            case rel =>
              refine ⟨k + 1, E, 64, 64, by omega, by omega, by simp, rfl, R, by omega, ?_, ?_, ?_, ?_, ?_, ?_, ?_, ?_, ?_⟩
              all_goals first
                | (simp (maxDischargeDepth := 9) [*, lt_add1, go_sem]; done)
                | (simp (maxDischargeDepth := 9) [*, lt_add1, go_sem]; omega)
                | omega
                | skip
              · (repeat (first | exact ext_refl _ | assumption | refine ext_drew ?_ | refine ext_alloc ?_ _ | refine ext_set ?_ (by first | omega | (simp; done) | (simp; omega)) _ | refine ext_trans ?_ (by assumption)))
              · refine Told.mono (n := k) (E := E) (N := 64) ?_ ?_ ?_
                rotate_left
                · omega
                · omega
                (repeat (first | assumption | (with_reducible apply Told.set; all_goals first | (simp; done) | skip) | (with_reducible apply Told.alloc) | (with_reducible apply Told.drew) | (refine Told.below ?_ (by assumption))))
            case measure => simp [intOf]; omega
          · by_cases hNU : N = U
            · subst hNU
              go_wp2_with fail
              refine (use_gate _ _ _ R h64 rfl _).mono ?_; rintro e w2 ⟨rfl, b2⟩; obtain ⟨hc2, hf2⟩ := bcell b2; (try simp only [World.size_drew, World.cell?_drew, World.frozen?_drew] at hc2 hf2); have y2 := b2.size; (try simp [Nat.add_one_le_iff] at y2); have z2_0 : w1.heap.size < w2.heap.size := (by omega)
              go_wp2_with fail
              go_round
              case rel =>
                refine ⟨k + 1, E, N, N, by omega, by omega, by simp, rfl, R, by omega, ?_, ?_, ?_, ?_, ?_, ?_, ?_, ?_, ?_⟩
                all_goals first
                  | (simp (maxDischargeDepth := 9) [*, lt_add1, go_sem]; done)
                  | (simp (maxDischargeDepth := 9) [*, lt_add1, go_sem]; omega)
                  | omega
                  | skip
                · (repeat (first | exact ext_refl _ | assumption | refine ext_drew ?_ | refine ext_alloc ?_ _ | refine ext_set ?_ (by first | omega | (simp; done) | (simp; omega)) _ | refine ext_trans ?_ (by assumption)))
                · refine Told.mono (n := k) (E := E) (N := N) ?_ ?_ ?_
                  rotate_left
                  · omega
                  · omega
                  (repeat (first | assumption | (with_reducible apply Told.set; all_goals first | (simp; done) | skip) | (with_reducible apply Told.alloc) | (with_reducible apply Told.drew) | (refine Told.below ?_ (by assumption))))
              case measure => simp [intOf]; omega
            · have R2 : rightP E (N + 1) U := by unfold rightP; omega
              have we := wf_small E (by omega)
              have wn := wf_small N (by omega)
              go_wp2_with fail
              refine (use_ok _ _ _ R (by omega) _).mono ?_; rintro e w2 ⟨rfl, b2⟩; obtain ⟨hc2, hf2⟩ := bcell b2; (try simp only [World.size_drew, World.cell?_drew, World.frozen?_drew] at hc2 hf2); have y2 := b2.size; (try simp [Nat.add_one_le_iff] at y2); have z2_0 : w1.heap.size < w2.heap.size := (by omega)
              have T2 : Told w2 (w1.heap.size + 1) k E N := T.kept (b2.block _ (by simpa using hs))
              have T3 := (T2.alloc (.cells #[.int .i64 E, .int .i64 (N + 1), .int .i64 U] 23)).alloc (.cells #[.int .i64 E, .int .i64 N] 44)
              go_wp2_with (first
                | (at_lookup; refine told_lookup (b := w1.heap.size + 1) (n := k) (E := E) (N := N) T3 we wn rfl _ _ rfl rfl rfl ?_)
                | (at_mapUpdate; refine told_store T3 we wn (Nat.lt_of_lt_of_le (show k < 1000 by omega) (by decide)) rfl _ _ _ rfl rfl rfl rfl ?_; intro w3 T4 hg; obtain ⟨hc3, hf3⟩ := gcell hg; have y3 := hg.size; simp at y3; have z3 : w1.heap.size < w3.heap.size := (by omega); have z3a : w2.heap.size < w3.heap.size := (by omega); have n2 : w2.heap.size ≠ w1.heap.size + 1 := (by omega); have q0 := (fun o => hc3 w1.heap.size o (by simp; omega) (by omega)); have q1 := (fun o => hf3 w1.heap.size o (by simp; omega) (by omega)); have q2 := (fun o => hc3 w2.heap.size o (by simp; omega) (by omega)); have p0 : w3.cell? ⟨w1.heap.size, 0, none⟩ = some (.int .i64 E) := (q0 0).trans (by simp (maxDischargeDepth := 9) [*, lt_add1, go_sem]); have p1 : w3.cell? ⟨w1.heap.size, 1, none⟩ = some (.int .i64 N) := (q0 1).trans (by simp (maxDischargeDepth := 9) [*, lt_add1, go_sem]); have p2 : w3.cell? ⟨w1.heap.size, 2, none⟩ = some (.int .i64 U) := (q0 2).trans (by simp (maxDischargeDepth := 9) [*, lt_add1, go_sem]); clear q0 hc3 hf3; have bg : Below w.heap.size w w3 := Below.grown (by (repeat (first | exact ext_refl _ | assumption | refine ext_drew ?_ | refine ext_alloc ?_ _ | refine ext_set ?_ (by first | omega | (simp; done) | (simp; omega)) _ | refine ext_trans ?_ (by assumption)))) hg (by simp; omega) (by intro q hq; cases hq; omega)))
              refine (right_yes _ _ _ R2 _).mono ?_; rintro e w4 ⟨rfl, b4⟩; obtain ⟨hc4, hf4⟩ := bcell b4; (try simp only [World.size_drew, World.cell?_drew, World.frozen?_drew] at hc4 hf4); have y4 := b4.size; (try simp [Nat.add_one_le_iff] at y4); have z4_0 : w1.heap.size < w4.heap.size := (by omega)
              go_wp2_with fail
              go_round
              case rel =>
                refine ⟨k + 1, E, N + 1, U, by omega, by omega, by simp, rfl, R2, by omega, ?_, ?_, ?_, ?_, ?_, ?_, ?_, ?_, ?_⟩
                all_goals first
                  | (simp (maxDischargeDepth := 9) [*, lt_add1, go_sem]; done)
                  | (simp (maxDischargeDepth := 9) [*, lt_add1, go_sem]; omega)
                  | omega
                  | skip
                · (repeat (first | exact ext_refl _ | assumption | refine ext_drew ?_ | refine ext_alloc ?_ _ | refine ext_set ?_ (by first | omega | (simp; done) | (simp; omega)) _ | refine ext_trans ?_ (by assumption)))
                · (repeat (first | assumption | (with_reducible apply Told.set; all_goals first | (simp; done) | skip) | (with_reducible apply Told.alloc) | (with_reducible apply Told.drew) | (refine Told.below ?_ (by assumption))))
              case measure => simp [intOf]; omega
    · by_cases hlt : k < zs.length
      all_goals (go_wp2_with fail)
      all_goals (refine (opens_any _).mono ?_; rintro e w4 ⟨rfl, b4⟩)
      all_goals (go_wp2_with fail)
      all_goals go_ret
      all_goals (refine ⟨rfl, ?_⟩)
      all_goals (repeat (first | exact ext_refl _ | assumption | refine ext_drew ?_ | refine ext_alloc ?_ _ | refine ext_set ?_ (by first | omega | (simp; done) | (simp; omega)) _ | refine ext_trans ?_ (by assumption)))
end Go.Proofs.Ytjlifebdpgjaiaa
