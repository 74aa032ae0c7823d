import Derived.Test.YtjlifebdpgjaiaaF
import Derived.Deep.RegionHeld3
import Derived.Deep.DeepCutAuto
namespace Go.Proofs.Ytjlifebdpgjaiaa
set_option linter.unusedSimpArgs false
set_option linter.unusedVariables false
open Go.ChangeShapes Go.WideShapes Go.ChangeAt Go.RowKit

/-- Where reservations end behind k uses, one by one reserved. -/
def upTo (k : Nat) : Int := min ((((k : Int) + 7) / 8) * 8) 64
theorem upTo_right (e : Int) (k : Nat) (he : 0 ≤ e) (hk : k ≤ 64) : rightP e k (upTo k) := by unfold rightP upTo; omega
theorem wants_up (k : Nat) (hk : k ≤ 64) : wantsI k (upTo k) 1 = upTo (k + 1) := by unfold wantsI upTo; omega
theorem upTo_zero : upTo 0 = 0 := by decide
theorem upTo_le (k : Nat) : upTo k ≤ upTo (k + 1) := by unfold upTo; omega
theorem left_eq (e n u v : Int) (hr : rightP e n u) (hv : 64 - n = v) (w : World) :
    Calls Try.prog 10 #[gateV e n u] w fun r w' => r = .returned (.int .i64 v) ∧ Below w.heap.size w w' := by subst hv; exact left_yes e n u hr w

theorem umod_ex (x m : Int) (hm : 0 < m ∧ m < 4611686018427387904) : ∃ r : Nat, IntKind.i64.wrap ((IntKind.u64.wrap x).tmod m) = r ∧ (r : Int) < m := by
  have h0 : 0 ≤ IntKind.u64.wrap x := by simp [IntKind.wrap, IntKind.signed, IntKind.bits]; omega
  have h1 : (IntKind.u64.wrap x).tmod m = (IntKind.u64.wrap x) % m := by rw [Int.tmod_eq_emod_of_nonneg h0]
  have h2 := Int.emod_nonneg (IntKind.u64.wrap x) (show m ≠ 0 by omega)
  have h3 := Int.emod_lt_of_pos (IntKind.u64.wrap x) hm.1
  rw [h1, IntWalk.i64_in _ (by omega)]
  exact ⟨(IntKind.u64.wrap x % m).toNat, by omega, by omega⟩

set_option maxRecDepth 100000 in
set_option maxHeartbeats 2000000 in
theorem ends_any (ep us : Int) (h0 : (Lit.int .i64 ep).wf = true) (h1 : (Lit.int .i64 us).wf = true) (w : World) :
    Calls Try.prog 3 #[.int .i64 ep, .int .i64 us] w fun r w' => r = .returned (.bool true) ∧ Below w.heap.size w w' := by
  obtain ⟨E, hE, hE2⟩ := umod_ex ep 1000 (by omega)
  obtain ⟨n, hn, hn2⟩ := umod_ex us 70 (by omega)
  clear h0 h1
  go_enter Try.func3, Try.ntmps3
  go_wp2_with fail
  refine (new_eq _ (E:Int) (by omega) _).mono ?_; rintro e w1 ⟨rfl, b1⟩
  clear hE
  go_wp2_with fail
  clear hn
  go_loopw [7] (fun i wr => ∃ k : Nat, k ≤ n ∧ k ≤ 64 ∧ i = .int .i64 k ∧ wr.cell? ⟨w1.heap.size, 0, none⟩ = some (.int .i64 E) ∧ wr.cell? ⟨w1.heap.size, 1, none⟩ = some (.int .i64 k) ∧ wr.cell? ⟨w1.heap.size, 2, none⟩ = some (.int .i64 (upTo k)) ∧
      wr.frozen? ⟨w1.heap.size, 0, none⟩ = false ∧ wr.frozen? ⟨w1.heap.size, 1, none⟩ = false ∧ wr.frozen? ⟨w1.heap.size, 2, none⟩ = false ∧ Below w1.heap.size w1 wr ∧ w1.heap.size < wr.heap.size)
    (fun i _ => n - (intOf i).toNat)
  case atStart =>
    exact ⟨0, by omega, by omega, rfl, by simp, by simp, by simp [upTo_zero], by simp, by simp, by simp, ext_alloc (ext_refl _) _, by simp⟩
  case round =>
    obtain ⟨k, hk, hk2, rfl, c0, c1, c2, f0, f1, f2, hb, hs⟩ := hrel
    have R := upTo_right E k (by omega) hk2
    have b0 : Below w.heap.size w wr := ext_trans b1 hb
    by_cases hlt : k < n
    · have R3 : rightP E k (upTo (k + 1)) := by unfold rightP upTo; omega
      have U := upTo_le k
      have nr : wr.heap.size ≠ w1.heap.size := by omega
      go_wp2_with fail
      go_cut [8, 9] (fun h e wc => ∃ B : Nat, h = .pointer (some ⟨B, 0, none⟩) ∧ e = .int .i64 0 ∧ wc.cell? ⟨B, 0, none⟩ = some (.int .i64 E) ∧ wc.cell? ⟨B, 1, none⟩ = some (.int .i64 k) ∧ wc.cell? ⟨B, 2, none⟩ = some (.int .i64 (upTo (k + 1))) ∧
        w1.heap.size < B ∧ B < wc.heap.size ∧ (∀ o, wc.cell? ⟨w1.heap.size, o, none⟩ = wr.cell? ⟨w1.heap.size, o, none⟩) ∧ (∀ o, wc.frozen? ⟨w1.heap.size, o, none⟩ = wr.frozen? ⟨w1.heap.size, o, none⟩) ∧ Below wr.heap.size wr wc)
      case first =>
        go_region_held3 (fun w' => w'.cell? ⟨w1.heap.size, 0, none⟩ = some (.int .i64 E) ∧ w'.cell? ⟨w1.heap.size, 1, none⟩ = some (.int .i64 k) ∧ w'.cell? ⟨w1.heap.size, 2, none⟩ = some (.int .i64 (upTo k))) (simp [*, World.cell?_alloc_some, World.cell?_setCell_far, lt_add1])
          (first
            | (go_at_call 8; refine (wants_eq _ _ _ _ (upTo (k + 1)) R (wants_up k hk2) _).mono ?_; rintro e w2 ⟨rfl, b2⟩; obtain ⟨hc2, hf2⟩ := bcell b2; (try simp only [World.size_drew, World.cell?_drew, World.frozen?_drew] at hc2 hf2); have z2 : w1.heap.size < w2.heap.size := (by have := b2.size; (try simp at this); omega); have y2 := b2.size; (try simp [Nat.add_one_le_iff] at y2); have n2 : w2.heap.size ≠ w1.heap.size := by omega)
            | (go_at_call 7; refine (reserve_ok _ _ _ _ R (by omega) R3 _).mono ?_; rintro e w3 ⟨rfl, b3⟩; obtain ⟨hc3, hf3⟩ := bcell b3; (try simp only [World.size_drew, World.cell?_drew, World.frozen?_drew] at hc3 hf3); have z3 : w1.heap.size < w3.heap.size := (by have := b3.size; (try simp at this); omega); have y3 := b3.size; (try simp [Nat.add_one_le_iff] at y3); have n3 : w3.heap.size ≠ w1.heap.size := by omega))
        all_goals go_wp2
        all_goals go_meet
        all_goals refine ⟨_, rfl, rfl, ?_, ?_, ?_, ?_, ?_, fun o => ?_, fun o => ?_, ?_⟩
        all_goals first
          | (simp [*, lt_add1, go_sem]; done)
          | omega
          | (simp [*, lt_add1, go_sem]; omega)
          | ((repeat (first | exact ext_refl _ | assumption | refine ext_drew ?_ | refine ext_alloc ?_ _ | refine ext_set ?_ (by first | omega | (simp; done) | (simp; omega)) _ | refine ext_trans ?_ (by assumption))); done)
          | skip
        all_goals trace_state
        all_goals sorry
      case rest =>
        obtain ⟨B, rfl, rfl, d0, d1, d2, hB1, hB2, hcw, hfw, bc⟩ := hcut
        have cw0 := (hcw 0).trans c0
        have cw1 := (hcw 1).trans c1
        have cw2 := (hcw 2).trans c2
        have fw0 := (hfw 0).trans f0
        have fw1 := (hfw 1).trans f1
        have fw2 := (hfw 2).trans f2
        have hq : (upTo (k + 1) != min (((k:Int) / 8 + 1) * 8) 64) = false := by rw [bne_eq_false_iff_eq]; unfold upTo; omega
        have zc : w1.heap.size < wc.heap.size := by omega
        clear hcw hfw
        by_cases h64 : k < 64
        · have R2 : rightP E (k + 1) (upTo (k + 1)) := by unfold rightP upTo; omega
          go_wp2_with fail
          refine (use_ok _ _ _ R3 (by unfold upTo; omega) _).mono ?_; rintro e w4 ⟨rfl, b4⟩; obtain ⟨hc4, hf4⟩ := bcell b4; (try simp only [World.size_drew, World.cell?_drew, World.frozen?_drew] at hc4 hf4); have y4 := b4.size; (try simp [Nat.add_one_le_iff] at y4); have z4_0 : w1.heap.size < w4.heap.size := (by omega); have z4_1 : B < w4.heap.size := (by omega)
          go_wp2_with fail
          refine (left_eq _ _ _ (63 - k) R2 (by omega) _).mono ?_; rintro e w5 ⟨rfl, b5⟩; obtain ⟨hc5, hf5⟩ := bcell b5; (try simp only [World.size_drew, World.cell?_drew, World.frozen?_drew] at hc5 hf5); have y5 := b5.size; (try simp [Nat.add_one_le_iff] at y5); have z5_0 : w1.heap.size < w5.heap.size := (by omega); have z5_1 : w4.heap.size < w5.heap.size := (by omega); have z5_2 : B < w5.heap.size := (by omega)
          go_wp2_with fail
          go_round
          case rel =>
            refine ⟨k + 1, by omega, by omega, by simp, ?_, ?_, ?_, ?_, ?_, ?_, ?_, ?_⟩
            all_goals first
              | (simp (maxDischargeDepth := 9) [*, lt_add1, go_sem]; done)
              | (simp (maxDischargeDepth := 9) [*, lt_add1, go_sem]; omega)
              | skip
            refine ext_set ?_ (Nat.le_refl _) _
            refine ext_set ?_ (Nat.le_refl _) _
            refine ext_set ?_ (Nat.le_refl _) _
            refine ext_trans hb ?_
            refine ext_trans bc ?_
            (repeat (first | exact ext_refl _ | assumption | refine ext_drew ?_ | refine ext_alloc ?_ _ | refine ext_set ?_ (by first | omega | (simp; done) | (simp; omega)) _ | refine ext_trans ?_ (by assumption)))
          case measure => simp [intOf]; omega
        · have e64 : k = 64 := by omega
          subst e64
          go_wp2_with fail
          refine (use_end _ _ _ R3 rfl _).mono ?_; rintro e w4 ⟨rfl, b4⟩; obtain ⟨hc4, hf4⟩ := bcell b4; (try simp only [World.size_drew, World.cell?_drew, World.frozen?_drew] at hc4 hf4); have y4 := b4.size; (try simp [Nat.add_one_le_iff] at y4); have z4_0 : w1.heap.size < w4.heap.size := (by omega); have z4_1 : B < w4.heap.size := (by omega)
          go_wp2_with fail
          refine (left_eq _ _ _ 0 R3 (by omega) _).mono ?_; rintro e w5 ⟨rfl, b5⟩; obtain ⟨hc5, hf5⟩ := bcell b5; (try simp only [World.size_drew, World.cell?_drew, World.frozen?_drew] at hc5 hf5); have y5 := b5.size; (try simp [Nat.add_one_le_iff] at y5); have z5_0 : w1.heap.size < w5.heap.size := (by omega); have z5_1 : w4.heap.size < w5.heap.size := (by omega); have z5_2 : B < w5.heap.size := (by omega)
          go_wp2_with fail
          go_ret
          refine ⟨rfl, ?_⟩
          (repeat (first | exact ext_refl _ | assumption | refine ext_drew ?_ | refine ext_alloc ?_ _ | refine ext_set ?_ (by first | omega | (simp; done) | (simp; omega)) _ | refine ext_trans ?_ (by assumption)))
    · go_wp2_with fail
      refine (opens_any _).mono ?_; rintro e w4 ⟨rfl, b4⟩
      go_wp2_with fail
      go_ret
      refine ⟨rfl, ?_⟩
      (repeat (first | exact ext_refl _ | assumption | refine ext_drew ?_ | refine ext_alloc ?_ _ | refine ext_set ?_ (by first | omega | (simp; done) | (simp; omega)) _ | refine ext_trans ?_ (by assumption)))
end Go.Proofs.Ytjlifebdpgjaiaa
