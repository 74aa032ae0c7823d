import Derived.Test.YtjlifebdpgjaiaaE
import Derived.Deep.DeepCutAuto
import Derived.BigQuiet
namespace Go.Proofs.Ytjlifebdpgjaiaa
set_option linter.unusedSimpArgs false
set_option linter.unusedVariables false
open Go.ChangeShapes Go.WideShapes Go.ChangeAt Go.RowKit

theorem lt_add1 {a b : Nat} (h : a < b) : (a < b + 1) = True := by simp; omega
attribute [local go_sem] lt_add1

theorem to_any (e n u : Int) (w : World) :
    Calls Try.prog 12 #[gateV e n u] w fun r w' => r = .returned (gateV e n u) ∧ Below w.heap.size w w' := by
  go_enter Try.func12, Try.ntmps12
  go_wp2
  exact bodyPost_ret (v := gateV e n u) (by simp [results, Try.results12, go_sem]) rfl ⟨rfl, by repeat (first | exact ext_refl _ | assumption | refine ext_drew ?_ | refine ext_alloc ?_ _ | refine ext_set ?_ (by first | omega | (simp; done) | (simp; omega)) _ | refine ext_trans ?_ (by assumption))⟩

theorem rright_eq (e n u : Int) (b : Bool) (h : decide (rightP e n u) = b) (w : World) :
    Calls Try.prog 15 #[gateV e n u] w fun r w' => r = .returned (.bool b) ∧ Below w.heap.size w w' := by subst h; exact rright_any e n u w

set_option maxRecDepth 100000 in
set_option maxHeartbeats 800000 in
theorem tells_bad (e n u k : Int) (hr : ¬ rightP e n u) (w : World) :
    Calls Try.prog 4 #[gateV e n u, .int .i64 k] w fun r w' => r = .returned (.bool true) ∧ Below w.heap.size w w' := by
  have h7 := reserve_bad e n u k hr
  have h9 := use_no e n u hr
  have h13 := turn_no e n u hr
  have h14 := right_no e n u hr
  have h15 := rright_eq e n u false (decide_eq_false hr)
  have h8 := wants_no e n u k hr
  have h16 := rwants_no e n u k hr
  have h10 := left_no e n u hr
  clear hr
  go_enter Try.func4, Try.ntmps4
  go_wp2_with fail
  refine (to_any _ _ _ _).mono ?_; rintro e1 w1 ⟨rfl, b1⟩; obtain ⟨hc1, hf1⟩ := bcell b1; (try simp only [World.size_drew, World.cell?_drew, World.frozen?_drew] at hc1 hf1); have y1 := b1.size; (try simp [Nat.add_one_le_iff] at y1); have z1_0 : w.heap.size < w1.heap.size := (by omega)
  go_wp2_with fail
  refine (h7 _).mono ?_; rintro e2 w2 ⟨rfl, b2⟩; obtain ⟨hc2, hf2⟩ := bcell b2; (try simp only [World.size_drew, World.cell?_drew, World.frozen?_drew] at hc2 hf2); have y2 := b2.size; (try simp [Nat.add_one_le_iff] at y2); have z2_0 : w.heap.size < w2.heap.size := (by omega); have z2_1 : w1.heap.size < w2.heap.size := (by omega)
  go_wp2_with fail
  refine (h9 _).mono ?_; rintro e3 w3 ⟨rfl, b3⟩; obtain ⟨hc3, hf3⟩ := bcell b3; (try simp only [World.size_drew, World.cell?_drew, World.frozen?_drew] at hc3 hf3); have y3 := b3.size; (try simp [Nat.add_one_le_iff] at y3); have z3_0 : w.heap.size < w3.heap.size := (by omega); have z3_1 : w1.heap.size < w3.heap.size := (by omega); have z3_2 : w2.heap.size < w3.heap.size := (by omega)
  go_wp2_with fail
  refine (h13 _).mono ?_; rintro e4 w4 ⟨rfl, b4⟩; obtain ⟨hc4, hf4⟩ := bcell b4; (try simp only [World.size_drew, World.cell?_drew, World.frozen?_drew] at hc4 hf4); have y4 := b4.size; (try simp [Nat.add_one_le_iff] at y4); have z4_0 : w.heap.size < w4.heap.size := (by omega); have z4_1 : w1.heap.size < w4.heap.size := (by omega); have z4_2 : w2.heap.size < w4.heap.size := (by omega); have z4_3 : w3.heap.size < w4.heap.size := (by omega)
  go_wp2_with fail
  refine RG.region 15 [] [.e false 0, .q false [1, 2, 3, 5], .e false 4, .e false 6, .q false [7, 8, 9, 10, 11, 13, 14], .e false 12] (by kernel_rfl) (by kernel_rfl) ?_
  refine RG.W_e (fun K hKo hK => ?_); simp only [RG.pick, List.map_cons, List.map_nil, List.getD_cons_zero, List.getD_cons_succ]
  go_wp2_with fail
  refine (opens_any _).mono ?_; rintro e5 w5 ⟨rfl, b5⟩; obtain ⟨hc5, hf5⟩ := bcell b5; (try simp only [World.size_drew, World.cell?_drew, World.frozen?_drew] at hc5 hf5); have y5 := b5.size; (try simp [Nat.add_one_le_iff] at y5); have z5_0 : w.heap.size < w5.heap.size := (by omega); have z5_1 : w1.heap.size < w5.heap.size := (by omega); have z5_2 : w2.heap.size < w5.heap.size := (by omega); have z5_3 : w3.heap.size < w5.heap.size := (by omega); have z5_4 : w4.heap.size < w5.heap.size := (by omega)
  go_wp2; refine ⟨fun _ => b5, ?_⟩
  apply RG.W_q; · (intro v bE; obtain ⟨hcE, hfE⟩ := bcell bE; (try simp only [World.size_drew, World.cell?_drew, World.frozen?_drew] at hcE hfE); simp only [RG.pick, List.map_cons, List.map_nil, List.getD_cons_zero, List.getD_cons_succ]; (repeat (go_big_quiet_step (fail))); exact wpQuiet_nil rfl)
  refine RG.W_e (fun K hKo hK => ?_); simp only [RG.pick, List.map_cons, List.map_nil, List.getD_cons_zero, List.getD_cons_succ]
  go_wp2_with fail
  refine (h14 _).mono ?_; rintro e6 w6 ⟨rfl, b6⟩; obtain ⟨hc6, hf6⟩ := bcell b6; (try simp only [World.size_drew, World.cell?_drew, World.frozen?_drew] at hc6 hf6); have y6 := b6.size; (try simp [Nat.add_one_le_iff] at y6); have z6_0 : w.heap.size < w6.heap.size := (by omega); have z6_1 : w1.heap.size < w6.heap.size := (by omega); have z6_2 : w2.heap.size < w6.heap.size := (by omega); have z6_3 : w3.heap.size < w6.heap.size := (by omega); have z6_4 : w4.heap.size < w6.heap.size := (by omega)
  go_wp2; refine ⟨fun _ => b6, ?_⟩
  refine RG.W_e (fun K hKo hK => ?_); simp only [RG.pick, List.map_cons, List.map_nil, List.getD_cons_zero, List.getD_cons_succ]
  go_wp2_with fail
  refine (h15 _).mono ?_; rintro e7 w7 ⟨rfl, b7⟩; obtain ⟨hc7, hf7⟩ := bcell b7; (try simp only [World.size_drew, World.cell?_drew, World.frozen?_drew] at hc7 hf7); have y7 := b7.size; (try simp [Nat.add_one_le_iff] at y7); have z7_0 : w.heap.size < w7.heap.size := (by omega); have z7_1 : w1.heap.size < w7.heap.size := (by omega); have z7_2 : w2.heap.size < w7.heap.size := (by omega); have z7_3 : w3.heap.size < w7.heap.size := (by omega); have z7_4 : w4.heap.size < w7.heap.size := (by omega)
  go_wp2; refine ⟨fun _ => b7, ?_⟩
  apply RG.W_q; · (intro v bE; obtain ⟨hcE, hfE⟩ := bcell bE; (try simp only [World.size_drew, World.cell?_drew, World.frozen?_drew] at hcE hfE); simp only [RG.pick, List.map_cons, List.map_nil, List.getD_cons_zero, List.getD_cons_succ]; (repeat (go_big_quiet_step (fail))); exact wpQuiet_nil rfl)
  refine RG.W_e (fun K hKo hK => ?_); simp only [RG.pick, List.map_cons, List.map_nil, List.getD_cons_zero, List.getD_cons_succ]
  go_wp2_with fail
  refine (h8 _).mono ?_; rintro e8 w8 ⟨rfl, b8⟩; obtain ⟨hc8, hf8⟩ := bcell b8; (try simp only [World.size_drew, World.cell?_drew, World.frozen?_drew] at hc8 hf8); have y8 := b8.size; (try simp [Nat.add_one_le_iff] at y8); have z8_0 : w.heap.size < w8.heap.size := (by omega); have z8_1 : w1.heap.size < w8.heap.size := (by omega); have z8_2 : w2.heap.size < w8.heap.size := (by omega); have z8_3 : w3.heap.size < w8.heap.size := (by omega); have z8_4 : w4.heap.size < w8.heap.size := (by omega)
  go_wp2; refine ⟨fun _ => b8, ?_⟩
  refine RG.W_n ?_; simp only [List.drop_succ_cons, List.drop_zero]
  go_wp2_with fail
  refine (h16 _).mono ?_; rintro e9 w9 ⟨rfl, b9⟩; obtain ⟨hc9, hf9⟩ := bcell b9; (try simp only [World.size_drew, World.cell?_drew, World.frozen?_drew] at hc9 hf9); have y9 := b9.size; (try simp [Nat.add_one_le_iff] at y9); have z9_0 : w.heap.size < w9.heap.size := (by omega); have z9_1 : w1.heap.size < w9.heap.size := (by omega); have z9_2 : w2.heap.size < w9.heap.size := (by omega); have z9_3 : w3.heap.size < w9.heap.size := (by omega); have z9_4 : w4.heap.size < w9.heap.size := (by omega)
  go_wp2_with fail
  refine (h15 _).mono ?_; rintro e10 w10 ⟨rfl, b10⟩; obtain ⟨hc10, hf10⟩ := bcell b10; (try simp only [World.size_drew, World.cell?_drew, World.frozen?_drew] at hc10 hf10); have y10 := b10.size; (try simp [Nat.add_one_le_iff] at y10); have z10_0 : w.heap.size < w10.heap.size := (by omega); have z10_1 : w1.heap.size < w10.heap.size := (by omega); have z10_2 : w2.heap.size < w10.heap.size := (by omega); have z10_3 : w3.heap.size < w10.heap.size := (by omega); have z10_4 : w4.heap.size < w10.heap.size := (by omega)
  go_wp2_with fail
  refine RG.region 23 [] [.q false [0, 1, 2, 3, 4, 5, 6, 7, 8, 9, 10, 11, 12, 13, 14, 15, 16, 17, 18, 19, 20, 21], .e false 22] (by kernel_rfl) (by kernel_rfl) ?_
  apply RG.W_q
  · (intro v bE; obtain ⟨hcE, hfE⟩ := bcell bE; (try simp only [World.size_drew, World.cell?_drew, World.frozen?_drew] at hcE hfE); simp only [RG.pick, List.map_cons, List.map_nil, List.getD_cons_zero, List.getD_cons_succ]; (repeat (go_big_quiet_step (fail))); exact wpQuiet_nil rfl)
  refine RG.W_e (fun K hKo hK => ?_); simp only [RG.pick, List.map_cons, List.map_nil, List.getD_cons_zero, List.getD_cons_succ]
  go_wp2_with fail
  refine (new_eq _ 0 (by decide) _).mono ?_; rintro e11 w11 ⟨rfl, b11⟩; obtain ⟨hc11, hf11⟩ := bcell b11; (try simp only [World.size_drew, World.cell?_drew, World.frozen?_drew] at hc11 hf11); have y11 := b11.size; (try simp [Nat.add_one_le_iff] at y11); have z11_0 : w.heap.size < w11.heap.size := (by omega); have z11_1 : w1.heap.size < w11.heap.size := (by omega); have z11_2 : w2.heap.size < w11.heap.size := (by omega); have z11_3 : w3.heap.size < w11.heap.size := (by omega); have z11_4 : w4.heap.size < w11.heap.size := (by omega)
  go_wp2; refine ⟨fun _ => b11, ?_⟩
  refine RG.W_n ?_; simp only [List.drop_succ_cons, List.drop_zero]
  go_wp2_with fail
  refine (h10 _).mono ?_; rintro e12 w12 ⟨rfl, b12⟩
  go_wp2
  go_ret
  refine ⟨rfl, ?_⟩
  repeat (first | exact ext_refl _ | assumption | refine ext_drew ?_ | refine ext_alloc ?_ _ | refine ext_set ?_ (by first | omega | (simp; done) | (simp; omega)) _ | refine ext_trans ?_ (by assumption))
end Go.Proofs.Ytjlifebdpgjaiaa
