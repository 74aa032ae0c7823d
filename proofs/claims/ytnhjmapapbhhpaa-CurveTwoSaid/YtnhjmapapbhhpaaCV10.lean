import Derived.Test.YtnhjmapapbhhpaaXT3
import Derived.Test.YtnhjmapapbhhpaaCV9
import Derived.Test.YtnhjmapapbhhpaaCG3
namespace Go.Proofs.Ytnhjmapapbhhpaa
set_option maxRecDepth 20000
set_option linter.unusedVariables false
set_option linter.unusedSimpArgs false
open Go.SE Go.RowKit
attribute [local irreducible] shX bigR lowR

set_option maxHeartbeats 2000000 in
theorem l_Shares {secret : List (BitVec 8)} {pub : List (BitVec 8)} (hsecret : secret.length = 32) (hpub : pub.length = 32) :
    Con Try.prog 3 [aggK secret, aggK pub] [] (fun v rs => v = .bool true ∧ rs = []) := by
  refine Con.enter Try.func3 Try.ntmps3 (Nat.le_of_ble_eq_true rfl) rfl fun w => ?_
  refine At.seq ?_
  refine At.region ?_
  refine At.s (S_box (some 2) 2 (zs := (secret).map u8V) rfl rfl rfl (fun b2 => ?_))
  refine At.s (S_box (some 3) 3 (zs := (pub).map u8V) rfl rfl rfl (fun b3 => ?_))
  refine At.p (some 4) (P_assign rfl rfl) ?_
  refine At.nil ?_
  refine At.next ?_
  refine At.seq ?_
  refine At.region ?_
  refine At.q (some 10) (Q_loadA (k := 2) rfl rfl Try.underlying22 rfl sz22 LN rfl) ?_
  refine At.q (some 11) (Q_loadA (k := 3) rfl rfl Try.underlying22 rfl sz22 LN rfl) ?_
  refine At.s (S_callV (some 12) [] [] (vs := [_, _]) rfl en8 rfl V0 (by simp) (c_Shared (secret := secret) (pub := pub) LN LN) (by rintro _ _ ⟨rfl, rfl⟩; rfl) ?_)
  rintro _ _ ⟨rfl, rfl⟩
  have := shX_len secret pub
  refine At.p (some 9) (P_move rfl rfl) ?_
  refine At.p (some 13) (P_extract rfl rfl rfl) ?_
  refine At.p (some 14) (P_extract rfl rfl rfl) ?_
  refine At.s (S_alloc (some 5) 5 (zs := (List.replicate 32 0#8).map u8V) rfl ze22 rfl (fun b5 => ?_))
  refine At.s (S_storeA none (k := 5) (vs := (shX secret pub).map u8V) rfl rfl rfl (by rw [sz22]; exact congrArg some LN) rfl (one_map (fun _ => rfl)) NG rfl LN ?_)
  refine At.p (some 6) (P_assign rfl rfl) ?_
  refine At.nil ?_
  refine At.next ?_
  refine At.seq ?_
  refine At.region ?_
  refine At.q (some 16) (Q_loadA (k := 2) rfl rfl Try.underlying22 rfl sz22 LN rfl) ?_
  refine At.q (some 17) (Q_loadA (k := 3) rfl rfl Try.underlying22 rfl sz22 LN rfl) ?_
  refine At.s (S_callV (some 18) [] [] (vs := [_, _]) rfl en9 rfl V0 (by simp) (r_Shared (secret := secret) (pub := pub) LN LN) (by rintro _ _ ⟨rfl, rfl⟩; rfl) ?_)
  rintro _ _ ⟨rfl, rfl⟩
  have := shX_len secret pub
  refine At.p (some 15) (P_move rfl rfl) ?_
  refine At.p (some 19) (P_extract rfl rfl rfl) ?_
  refine At.p (some 20) (P_extract rfl rfl rfl) ?_
  refine At.s (S_alloc (some 7) 7 (zs := (List.replicate 32 0#8).map u8V) rfl ze22 rfl (fun b7 => ?_))
  refine At.s (S_storeA none (k := 7) (vs := (shX secret pub).map u8V) rfl rfl rfl (by rw [sz22]; exact congrArg some LN) rfl (one_map (fun _ => rfl)) NG rfl LN ?_)
  refine At.p (some 8) (P_assign rfl rfl) ?_
  refine At.nil ?_
  refine At.next ?_
  refine At.seq ?_
  refine At.region ?_
  refine At.s (S_callV (some 21) [] [] (vs := []) rfl en10 rfl V0 (by simp) (c_shares  ) (by rintro _ _ ⟨rfl, rfl⟩; rfl) ?_)
  rintro _ _ ⟨rfl, rfl⟩
  refine At.p (some 22) (P_move rfl rfl) ?_
  refine At.gy (t := 22) rfl (by first | rfl | exact beq_self_eq_true _ | exact beq_iff_eq.2 q1 | exact bne_iff_ne.2 q2 | exact bne_iff_ne.2 (q1 ▸ q2) | (simp; done)) rfl rfl ?_
  refine At.q (some 23) (Q_loadA (k := 5) rfl rfl Try.underlying22 rfl sz22 LN rfl) ?_
  refine At.gy (t := 22) rfl (by first | rfl | exact beq_self_eq_true _ | exact beq_iff_eq.2 q1 | exact bne_iff_ne.2 q2 | exact bne_iff_ne.2 (q1 ▸ q2) | (simp; done)) rfl rfl ?_
  refine At.q (some 24) (Q_loadA (k := 7) rfl rfl Try.underlying22 rfl sz22 LN rfl) ?_
  refine At.gy (t := 22) rfl (by first | rfl | exact beq_self_eq_true _ | exact beq_iff_eq.2 q1 | exact bne_iff_ne.2 q2 | exact bne_iff_ne.2 (q1 ▸ q2) | (simp; done)) rfl rfl ?_
  refine At.p (some 25) (P_eql_arr (k := .u8) (xs := (shX secret pub)) (ys := (shX secret pub)) rfl Try.underlying22 Try.underlying5 sz5 Try.eqGuardType22 rfl rfl LN LN) ?_
  refine At.p (some 26) (P_pick_t rfl rfl (by first | rfl | exact beq_self_eq_true _ | exact beq_iff_eq.2 q1 | exact bne_iff_ne.2 q2 | exact bne_iff_ne.2 (q1 ▸ q2) | (simp; done)) rfl) ?_
  refine At.p (some 27) (P_move rfl rfl) ?_
  refine At.gy (t := 27) rfl (by first | rfl | exact beq_self_eq_true _ | exact beq_iff_eq.2 q1 | exact bne_iff_ne.2 q2 | exact bne_iff_ne.2 (q1 ▸ q2) | (simp; done)) rfl rfl ?_
  refine At.p (some 28) (P_move rfl rfl) ?_
  refine At.gy (t := 27) rfl (by first | rfl | exact beq_self_eq_true _ | exact beq_iff_eq.2 q1 | exact bne_iff_ne.2 q2 | exact bne_iff_ne.2 (q1 ▸ q2) | (simp; done)) rfl rfl ?_
  refine At.p (some 29) (P_move rfl rfl) ?_
  refine At.gy (t := 27) rfl (by first | rfl | exact beq_self_eq_true _ | exact beq_iff_eq.2 q1 | exact bne_iff_ne.2 q2 | exact bne_iff_ne.2 (q1 ▸ q2) | (simp; done)) rfl rfl ?_
  refine At.p (some 30) (P_eql_bool rfl Try.underlying4 rfl rfl) ?_
  refine At.p (some 31) (P_pick_t rfl rfl (by first | rfl | exact beq_self_eq_true _ | exact beq_iff_eq.2 q1 | exact bne_iff_ne.2 q2 | exact bne_iff_ne.2 (q1 ▸ q2) | (simp; done)) rfl) ?_
  refine At.p (some 4) (P_assign rfl rfl) ?_
  refine At.nil ?_
  refine At.next ?_
  refine At.ret ?_
  have hq0 : ((shX secret pub != List.replicate 32 0#8) == (shX secret pub != List.replicate 32 0#8)) = true := (by first | rfl | exact beq_self_eq_true _ | exact beq_iff_eq.2 q1 | exact bne_iff_ne.2 q2 | exact bne_iff_ne.2 (q1 ▸ q2) | (simp; done))
  refine At.give (.inl rfl) [] (rows' := []) (vs := [_]) rfl ⟨rfl, trivial⟩ rfl (by simp) (by simp) ⟨(by first | (rw [hq0]; try rfl; done) | (rw [← hq0]; try rfl; done) | (simp only [hq0]; try rfl; done) | (simp only [← hq0]; try rfl; done) | rfl), (by first | (rw [hq0]; try rfl; done) | (rw [← hq0]; try rfl; done) | (simp only [hq0]; try rfl; done) | (simp only [← hq0]; try rfl; done) | rfl)⟩

set_option maxHeartbeats 2000000 in
theorem l_Two {a : List (BitVec 8)} {b : List (BitVec 8)} (ha : a.length = 32) (hb : b.length = 32) :
    Con Try.prog 4 [aggK a, aggK b] [] (fun v rs => v = .bool true ∧ rs = []) := by
  refine Con.enter Try.func4 Try.ntmps4 (Nat.le_of_ble_eq_true rfl) rfl fun w => ?_
  refine At.seq ?_
  refine At.region ?_
  refine At.s (S_box (some 2) 2 (zs := (a).map u8V) rfl rfl rfl (fun b2 => ?_))
  refine At.s (S_box (some 3) 3 (zs := (b).map u8V) rfl rfl rfl (fun b3 => ?_))
  refine At.p (some 4) (P_assign rfl rfl) ?_
  refine At.nil ?_
  refine At.next ?_
  refine At.seq ?_
  have := shX_len a (9#8 :: List.replicate 31 0#8)
  have := shX_len b (9#8 :: List.replicate 31 0#8)
  refine At.ord [.q (aggK a), .q (aggK (shX a (9#8 :: List.replicate 31 0#8))), .q (aggK b), .q (aggK (shX b (9#8 :: List.replicate 31 0#8))), .al 5 22 ((List.replicate 32 0#8).map u8V), .al 6 22 ((List.replicate 32 0#8).map u8V), .st 5 none 22 ((shX a (9#8 :: List.replicate 31 0#8)).map u8V) 0, .st 6 none 22 ((shX b (9#8 :: List.replicate 31 0#8)).map u8V) 0] [0, 1, 2, 3, 4, 5, 6, 7] (by kernel_rfl) (by kernel_rfl) (by kernel_rfl) (by kernel_rfl) (by kernel_rfl) ?_ (fun A => ?_)
  · refine ⟨?_, ?_, ?_, ?_, ?_, ?_, ?_, ?_⟩
    · intro L A f h I R
      exact OGoal.q rfl (OStep.weak (sl := [(2, _)]) (rw_ := [(2, _)]) (AllL.cons_ (I.init _ _ rfl (by kernel_rfl)) trivial) (AllL.cons_ (I.get0 R rfl (by kernel_rfl)) trivial) (QStep.o (Q_loadA (k := 2) rfl rfl Try.underlying22 rfl sz22 LN rfl)))
    · intro L A f h I R
      exact OGoal.q rfl (OStep.weak (sl := [(13, _)]) (rw_ := []) (AllL.cons_ (I.slotD R 0 (by kernel_rfl) rfl rfl) trivial) trivial (O_call [] (vs := [_]) rfl en11 rfl V0 (c_Public (secret := a) LN)))
    · intro L A f h I R
      exact OGoal.q rfl (OStep.weak (sl := [(3, _)]) (rw_ := [(3, _)]) (AllL.cons_ (I.init _ _ rfl (by kernel_rfl)) trivial) (AllL.cons_ (I.get0 R rfl (by kernel_rfl)) trivial) (QStep.o (Q_loadA (k := 3) rfl rfl Try.underlying22 rfl sz22 LN rfl)))
    · intro L A f h I R
      exact OGoal.q rfl (OStep.weak (sl := [(15, _)]) (rw_ := []) (AllL.cons_ (I.slotD R 2 (by kernel_rfl) rfl rfl) trivial) trivial (O_call [] (vs := [_]) rfl en11 rfl V0 (c_Public (secret := b) LN)))
    · intro L A f h I R
      exact OGoal.al rfl rfl ze22 rfl
    · intro L A f h I R
      exact OGoal.al rfl rfl ze22 rfl
    · intro L A f h I R
      exact OGoal.st rfl (S_storeA none (k := 5) (vs := (shX a (9#8 :: List.replicate 31 0#8)).map u8V) rfl (I.slotD R 4 (by kernel_rfl) rfl rfl) (I.slotD R 1 (by kernel_rfl) rfl rfl) (by rw [sz22]; exact congrArg some LN) rfl (one_map (fun _ => rfl)) NG (I.getA R 4 (by kernel_rfl) rfl) LN ⟨rfl, rfl⟩)
    · intro L A f h I R
      exact OGoal.st rfl (S_storeA none (k := 6) (vs := (shX b (9#8 :: List.replicate 31 0#8)).map u8V) rfl (I.slotD R 5 (by kernel_rfl) rfl rfl) (I.slotD R 3 (by kernel_rfl) rfl rfl) (by rw [sz22]; exact congrArg some LN) rfl (one_map (fun _ => rfl)) NG (I.getA R 5 (by kernel_rfl) rfl) LN ⟨rfl, rfl⟩)
  ·
    refine At.into (l := [(2, ptr b2 0), (3, ptr b3 0), (4, .bool false), (5, ptr (A 5) 0), (6, ptr (A 6) 0)]) (m := [(2, ⟨true, b2, 0, 22, (a).map u8V, 0⟩), (3, ⟨true, b3, 0, 22, (b).map u8V, 0⟩), (5, ⟨true, (A 5), 0, 22, (shX a (9#8 :: List.replicate 31 0#8)).map u8V, 0⟩), (6, ⟨true, (A 6), 0, 22, (shX b (9#8 :: List.replicate 31 0#8)).map u8V, 0⟩)]) ?_ rfl rfl
    generalize A 5 = b5
    generalize A 6 = b6
    clear A
    refine At.next ?_
    refine At.seq ?_
    have q1 := two_eq ha hb
    have q2 := two_ne0 ha hb
    refine At.region ?_
    refine At.q (some 18) (Q_loadA (k := 2) rfl rfl Try.underlying22 rfl sz22 LN rfl) ?_
    refine At.q (some 19) (Q_loadA (k := 6) rfl rfl Try.underlying22 rfl sz22 LN rfl) ?_
    refine At.s (S_callV (some 20) [] [] (vs := [_, _]) rfl en8 rfl V0 (by simp) (c_Shared (secret := a) (pub := (shX b (9#8 :: List.replicate 31 0#8))) LN LN) (by rintro _ _ ⟨rfl, rfl⟩; rfl) ?_)
    rintro _ _ ⟨rfl, rfl⟩
    have := shX_len a (shX b (9#8 :: List.replicate 31 0#8))
    refine At.p (some 17) (P_move rfl rfl) ?_
    refine At.p (some 21) (P_extract rfl rfl rfl) ?_
    refine At.p (some 22) (P_extract rfl rfl rfl) ?_
    refine At.s (S_alloc (some 7) 7 (zs := (List.replicate 32 0#8).map u8V) rfl ze22 rfl (fun b7 => ?_))
    refine At.s (S_storeA none (k := 7) (vs := (shX a (shX b (9#8 :: List.replicate 31 0#8))).map u8V) rfl rfl rfl (by rw [sz22]; exact congrArg some LN) rfl (one_map (fun _ => rfl)) NG rfl LN ?_)
    refine At.p (some 8) (P_assign rfl rfl) ?_
    refine At.nil ?_
    refine At.next ?_
    refine At.seq ?_
    refine At.region ?_
    refine At.q (some 24) (Q_loadA (k := 3) rfl rfl Try.underlying22 rfl sz22 LN rfl) ?_
    refine At.q (some 25) (Q_loadA (k := 5) rfl rfl Try.underlying22 rfl sz22 LN rfl) ?_
    refine At.s (S_callV (some 26) [] [] (vs := [_, _]) rfl en8 rfl V0 (by simp) (c_Shared (secret := b) (pub := (shX a (9#8 :: List.replicate 31 0#8))) LN LN) (by rintro _ _ ⟨rfl, rfl⟩; rfl) ?_)
    rintro _ _ ⟨rfl, rfl⟩
    have := shX_len b (shX a (9#8 :: List.replicate 31 0#8))
    refine At.p (some 23) (P_move rfl rfl) ?_
    refine At.p (some 27) (P_extract rfl rfl rfl) ?_
    refine At.p (some 28) (P_extract rfl rfl rfl) ?_
    refine At.s (S_alloc (some 9) 9 (zs := (List.replicate 32 0#8).map u8V) rfl ze22 rfl (fun b9 => ?_))
    refine At.s (S_storeA none (k := 9) (vs := (shX b (shX a (9#8 :: List.replicate 31 0#8))).map u8V) rfl rfl rfl (by rw [sz22]; exact congrArg some LN) rfl (one_map (fun _ => rfl)) NG rfl LN ?_)
    refine At.p (some 10) (P_assign rfl rfl) ?_
    refine At.nil ?_
    refine At.next ?_
    refine At.seq ?_
    refine At.region ?_
    refine At.q (some 30) (Q_loadA (k := 2) rfl rfl Try.underlying22 rfl sz22 LN rfl) ?_
    refine At.p (some 31) (P_build_arr (cs := (([9#8, 0#8, 0#8, 0#8, 0#8, 0#8, 0#8, 0#8, 0#8, 0#8, 0#8, 0#8, 0#8, 0#8, 0#8, 0#8, 0#8, 0#8, 0#8, 0#8, 0#8, 0#8, 0#8, 0#8, 0#8, 0#8, 0#8, 0#8, 0#8, 0#8, 0#8, 0#8]).map u8V).toArray) (parts := _) (vs := [(0, _)]) rfl Try.underlying22 sz5 ze22 rfl rfl) ?_
    refine At.s (S_callV (some 32) [] [] (vs := [_, _]) rfl en9 rfl V0 (by simp) (r_Shared (secret := a) (pub := [9#8, 0#8, 0#8, 0#8, 0#8, 0#8, 0#8, 0#8, 0#8, 0#8, 0#8, 0#8, 0#8, 0#8, 0#8, 0#8, 0#8, 0#8, 0#8, 0#8, 0#8, 0#8, 0#8, 0#8, 0#8, 0#8, 0#8, 0#8, 0#8, 0#8, 0#8, 0#8]) LN LN) (by rintro _ _ ⟨rfl, rfl⟩; rfl) ?_)
    rintro _ _ ⟨rfl, rfl⟩
    have := shX_len a [9#8, 0#8, 0#8, 0#8, 0#8, 0#8, 0#8, 0#8, 0#8, 0#8, 0#8, 0#8, 0#8, 0#8, 0#8, 0#8, 0#8, 0#8, 0#8, 0#8, 0#8, 0#8, 0#8, 0#8, 0#8, 0#8, 0#8, 0#8, 0#8, 0#8, 0#8, 0#8]
    refine At.p (some 29) (P_move rfl rfl) ?_
    refine At.p (some 33) (P_extract rfl rfl rfl) ?_
    refine At.p (some 34) (P_extract rfl rfl rfl) ?_
    refine At.s (S_alloc (some 11) 11 (zs := (List.replicate 32 0#8).map u8V) rfl ze22 rfl (fun b11 => ?_))
    refine At.s (S_storeA none (k := 11) (vs := (shX a [9#8, 0#8, 0#8, 0#8, 0#8, 0#8, 0#8, 0#8, 0#8, 0#8, 0#8, 0#8, 0#8, 0#8, 0#8, 0#8, 0#8, 0#8, 0#8, 0#8, 0#8, 0#8, 0#8, 0#8, 0#8, 0#8, 0#8, 0#8, 0#8, 0#8, 0#8, 0#8]).map u8V) rfl rfl rfl (by rw [sz22]; exact congrArg some LN) rfl (one_map (fun _ => rfl)) NG rfl LN ?_)
    refine At.p (some 12) (P_assign rfl rfl) ?_
    refine At.nil ?_
    refine At.next ?_
    refine At.seq ?_
    refine At.region ?_
    refine At.s (S_callV (some 35) [] [] (vs := []) rfl en10 rfl V0 (by simp) (c_shares  ) (by rintro _ _ ⟨rfl, rfl⟩; rfl) ?_)
    rintro _ _ ⟨rfl, rfl⟩
    refine At.p (some 36) (P_move rfl rfl) ?_
    refine At.gy (t := 36) rfl (by first | rfl | exact beq_self_eq_true _ | exact beq_iff_eq.2 q1 | exact bne_iff_ne.2 q2 | exact bne_iff_ne.2 (q1 ▸ q2) | (simp; done)) rfl rfl ?_
    refine At.q (some 37) (Q_loadA (k := 7) rfl rfl Try.underlying22 rfl sz22 LN rfl) ?_
    refine At.gy (t := 36) rfl (by first | rfl | exact beq_self_eq_true _ | exact beq_iff_eq.2 q1 | exact bne_iff_ne.2 q2 | exact bne_iff_ne.2 (q1 ▸ q2) | (simp; done)) rfl rfl ?_
    refine At.q (some 38) (Q_loadA (k := 9) rfl rfl Try.underlying22 rfl sz22 LN rfl) ?_
    refine At.gy (t := 36) rfl (by first | rfl | exact beq_self_eq_true _ | exact beq_iff_eq.2 q1 | exact bne_iff_ne.2 q2 | exact bne_iff_ne.2 (q1 ▸ q2) | (simp; done)) rfl rfl ?_
    refine At.p (some 39) (P_eql_arr (k := .u8) (xs := (shX a (shX b (9#8 :: List.replicate 31 0#8)))) (ys := (shX b (shX a (9#8 :: List.replicate 31 0#8)))) rfl Try.underlying22 Try.underlying5 sz5 Try.eqGuardType22 rfl rfl LN LN) ?_
    refine At.p (some 40) (P_pick_t rfl rfl (by first | rfl | exact beq_self_eq_true _ | exact beq_iff_eq.2 q1 | exact bne_iff_ne.2 q2 | exact bne_iff_ne.2 (q1 ▸ q2) | (simp; done)) rfl) ?_
    refine At.p (some 41) (P_move rfl rfl) ?_
    refine At.gy (t := 41) rfl (by first | rfl | exact beq_self_eq_true _ | exact beq_iff_eq.2 q1 | exact bne_iff_ne.2 q2 | exact bne_iff_ne.2 (q1 ▸ q2) | (simp; done)) rfl rfl ?_
    refine At.p (some 42) (P_move rfl rfl) ?_
    refine At.p (some 43) (P_pick_t rfl rfl (by first | rfl | exact beq_self_eq_true _ | exact beq_iff_eq.2 q1 | exact bne_iff_ne.2 q2 | exact bne_iff_ne.2 (q1 ▸ q2) | (simp; done)) rfl) ?_
    refine At.p (some 44) (P_move rfl rfl) ?_
    refine At.gy (t := 44) rfl (by first | rfl | exact beq_self_eq_true _ | exact beq_iff_eq.2 q1 | exact bne_iff_ne.2 q2 | exact bne_iff_ne.2 (q1 ▸ q2) | (simp; done)) rfl rfl ?_
    refine At.p (some 45) (P_move rfl rfl) ?_
    refine At.p (some 46) (P_pick_t rfl rfl (by first | rfl | exact beq_self_eq_true _ | exact beq_iff_eq.2 q1 | exact bne_iff_ne.2 q2 | exact bne_iff_ne.2 (q1 ▸ q2) | (simp; done)) rfl) ?_
    refine At.p (some 47) (P_move rfl rfl) ?_
    refine At.gy (t := 47) rfl (by first | rfl | exact beq_self_eq_true _ | exact beq_iff_eq.2 q1 | exact bne_iff_ne.2 q2 | exact bne_iff_ne.2 (q1 ▸ q2) | (simp; done)) rfl rfl ?_
    refine At.q (some 48) (Q_loadA (k := 5) rfl rfl Try.underlying22 rfl sz22 LN rfl) ?_
    refine At.gy (t := 47) rfl (by first | rfl | exact beq_self_eq_true _ | exact beq_iff_eq.2 q1 | exact bne_iff_ne.2 q2 | exact bne_iff_ne.2 (q1 ▸ q2) | (simp; done)) rfl rfl ?_
    refine At.q (some 49) (Q_loadA (k := 11) rfl rfl Try.underlying22 rfl sz22 LN rfl) ?_
    refine At.gy (t := 47) rfl (by first | rfl | exact beq_self_eq_true _ | exact beq_iff_eq.2 q1 | exact bne_iff_ne.2 q2 | exact bne_iff_ne.2 (q1 ▸ q2) | (simp; done)) rfl rfl ?_
    refine At.p (some 50) (P_eql_arr (k := .u8) (xs := (shX a (9#8 :: List.replicate 31 0#8))) (ys := (shX a [9#8, 0#8, 0#8, 0#8, 0#8, 0#8, 0#8, 0#8, 0#8, 0#8, 0#8, 0#8, 0#8, 0#8, 0#8, 0#8, 0#8, 0#8, 0#8, 0#8, 0#8, 0#8, 0#8, 0#8, 0#8, 0#8, 0#8, 0#8, 0#8, 0#8, 0#8, 0#8])) rfl Try.underlying22 Try.underlying5 sz5 Try.eqGuardType22 rfl rfl LN LN) ?_
    refine At.p (some 51) (P_pick_t rfl rfl (by first | rfl | exact beq_self_eq_true _ | exact beq_iff_eq.2 q1 | exact bne_iff_ne.2 q2 | exact bne_iff_ne.2 (q1 ▸ q2) | (simp; done)) rfl) ?_
    refine At.p (some 4) (P_assign rfl rfl) ?_
    refine At.nil ?_
    refine At.next ?_
    refine At.ret ?_
    have hq0 : ((shX a (9#8 :: List.replicate 31 0#8)) == (shX a [9#8, 0#8, 0#8, 0#8, 0#8, 0#8, 0#8, 0#8, 0#8, 0#8, 0#8, 0#8, 0#8, 0#8, 0#8, 0#8, 0#8, 0#8, 0#8, 0#8, 0#8, 0#8, 0#8, 0#8, 0#8, 0#8, 0#8, 0#8, 0#8, 0#8, 0#8, 0#8])) = true := (by first | rfl | exact beq_self_eq_true _ | exact beq_iff_eq.2 q1 | exact bne_iff_ne.2 q2 | exact bne_iff_ne.2 (q1 ▸ q2) | (simp; done))
    refine At.give (.inl rfl) [] (rows' := []) (vs := [_]) rfl ⟨rfl, trivial⟩ rfl (by simp) (by simp) ⟨(by first | (rw [hq0]; try rfl; done) | (rw [← hq0]; try rfl; done) | (simp only [hq0]; try rfl; done) | (simp only [← hq0]; try rfl; done) | rfl), (by first | (rw [hq0]; try rfl; done) | (rw [← hq0]; try rfl; done) | (simp only [hq0]; try rfl; done) | (simp only [← hq0]; try rfl; done) | rfl)⟩

end Go.Proofs.Ytnhjmapapbhhpaa
