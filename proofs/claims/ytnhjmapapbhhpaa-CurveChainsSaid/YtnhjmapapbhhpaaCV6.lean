import Derived.Test.YtnhjmapapbhhpaaCG3
namespace Go.Proofs.Ytnhjmapapbhhpaa
set_option maxRecDepth 20000
set_option linter.unusedVariables false
set_option linter.unusedSimpArgs false
open Go.SE Go.RowKit
attribute [local irreducible] shX bigR lowR

set_option maxHeartbeats 2000000 in
theorem l_Chains {a : List (BitVec 8)} {b : List (BitVec 8)} {c : List (BitVec 8)} (ha : a.length = 32) (hb : b.length = 32) (hc : c.length = 32) :
    Con Try.prog 6 [aggK a, aggK b, aggK c] [] (fun v rs => v = .bool true ∧ rs = []) := by
  refine Con.enter Try.func6 Try.ntmps6 (Nat.le_of_ble_eq_true rfl) rfl fun w => ?_
  refine At.seq ?_
  refine At.region ?_
  refine At.s (S_box (some 3) 3 (zs := (a).map u8V) rfl rfl rfl (fun b3 => ?_))
  refine At.s (S_box (some 4) 4 (zs := (b).map u8V) rfl rfl rfl (fun b4 => ?_))
  refine At.s (S_box (some 5) 5 (zs := (c).map u8V) rfl rfl rfl (fun b5 => ?_))
  refine At.p (some 6) (P_assign rfl rfl) ?_
  refine At.nil ?_
  refine At.next ?_
  refine At.seq ?_
  have q1 := chain_eq ha hb hc
  have q2 := chain_ne ha hb hc
  refine At.draws 9 [8] [.q false [0, 1, 2, 3, 4, 5], .q true [6], .e false 7, .e true 8] (by kernel_rfl) (by kernel_rfl) ?_
  refine At.wq (some 16) (Q_loadA (k := 4) rfl rfl Try.underlying22 rfl sz22 LN rfl) ?_
  refine At.wq (some 17) (Q_loadA (k := 3) rfl rfl Try.underlying22 rfl sz22 LN rfl) ?_
  refine At.wcV (some 18) [] (vs := [_]) rfl en11 rfl V0 (c_Public (secret := a) LN) ?_
  have := shX_len a (9#8 :: List.replicate 31 0#8)
  refine At.wcV (some 19) [] (vs := [_, _]) rfl en8 rfl V0 (c_Shared (secret := b) (pub := (shX a (9#8 :: List.replicate 31 0#8))) LN LN) ?_
  have := shX_len b (shX a (9#8 :: List.replicate 31 0#8))
  refine At.wp (some 15) (P_move rfl rfl) ?_
  refine At.wp (some 20) (P_extract rfl rfl rfl) ?_
  refine At.wqn ?_
  refine At.wp (some 21) (P_extract rfl rfl rfl) ?_
  refine At.wqn ?_
  refine At.we ?_
  refine S_alloc (some 7) 7 (zs := (List.replicate 32 0#8).map u8V) rfl ze22 rfl (fun b7 => ?_)
  refine At.we ?_
  refine S_storeA none (k := 7) (vs := (shX b (shX a (9#8 :: List.replicate 31 0#8))).map u8V) rfl rfl rfl (by rw [sz22]; exact congrArg some LN) rfl (one_map (fun _ => rfl)) NG rfl LN ?_
  refine At.wt rfl ?_
  refine At.p (some 8) (P_assign rfl rfl) ?_
  refine At.nil ?_
  refine At.next ?_
  refine At.seq ?_
  refine At.region ?_
  refine At.q (some 23) (Q_loadA (k := 5) rfl rfl Try.underlying22 rfl sz22 LN rfl) ?_
  refine At.q (some 24) (Q_loadA (k := 7) rfl rfl Try.underlying22 rfl sz22 LN rfl) ?_
  refine At.s (S_callV (some 25) [] [] (vs := [_, _]) rfl en8 rfl V0 (by simp) (c_Shared (secret := c) (pub := (shX b (shX a (9#8 :: List.replicate 31 0#8)))) LN LN) (by rintro _ _ ⟨rfl, rfl⟩; rfl) ?_)
  rintro _ _ ⟨rfl, rfl⟩
  have := shX_len c (shX b (shX a (9#8 :: List.replicate 31 0#8)))
  refine At.p (some 22) (P_move rfl rfl) ?_
  refine At.p (some 26) (P_extract rfl rfl rfl) ?_
  refine At.p (some 27) (P_extract rfl rfl rfl) ?_
  refine At.s (S_alloc (some 9) 9 (zs := (List.replicate 32 0#8).map u8V) rfl ze22 rfl (fun b9 => ?_))
  refine At.s (S_storeA none (k := 9) (vs := (shX c (shX b (shX a (9#8 :: List.replicate 31 0#8)))).map u8V) rfl rfl rfl (by rw [sz22]; exact congrArg some LN) rfl (one_map (fun _ => rfl)) NG rfl LN ?_)
  refine At.p (some 10) (P_assign rfl rfl) ?_
  refine At.nil ?_
  refine At.next ?_
  refine At.seq ?_
  refine At.draws 9 [8] [.q false [0, 1, 2, 3, 4, 5], .q true [6], .e false 7, .e true 8] (by kernel_rfl) (by kernel_rfl) ?_
  refine At.wq (some 29) (Q_loadA (k := 3) rfl rfl Try.underlying22 rfl sz22 LN rfl) ?_
  refine At.wq (some 30) (Q_loadA (k := 5) rfl rfl Try.underlying22 rfl sz22 LN rfl) ?_
  refine At.wcV (some 31) [] (vs := [_]) rfl en11 rfl V0 (c_Public (secret := c) LN) ?_
  have := shX_len c (9#8 :: List.replicate 31 0#8)
  refine At.wcV (some 32) [] (vs := [_, _]) rfl en8 rfl V0 (c_Shared (secret := a) (pub := (shX c (9#8 :: List.replicate 31 0#8))) LN LN) ?_
  have := shX_len a (shX c (9#8 :: List.replicate 31 0#8))
  refine At.wp (some 28) (P_move rfl rfl) ?_
  refine At.wp (some 33) (P_extract rfl rfl rfl) ?_
  refine At.wqn ?_
  refine At.wp (some 34) (P_extract rfl rfl rfl) ?_
  refine At.wqn ?_
  refine At.we ?_
  refine S_alloc (some 11) 11 (zs := (List.replicate 32 0#8).map u8V) rfl ze22 rfl (fun b11 => ?_)
  refine At.we ?_
  refine S_storeA none (k := 11) (vs := (shX a (shX c (9#8 :: List.replicate 31 0#8))).map u8V) rfl rfl rfl (by rw [sz22]; exact congrArg some LN) rfl (one_map (fun _ => rfl)) NG rfl LN ?_
  refine At.wt rfl ?_
  refine At.p (some 12) (P_assign rfl rfl) ?_
  refine At.nil ?_
  refine At.next ?_
  refine At.seq ?_
  refine At.region ?_
  refine At.q (some 36) (Q_loadA (k := 4) rfl rfl Try.underlying22 rfl sz22 LN rfl) ?_
  refine At.q (some 37) (Q_loadA (k := 11) rfl rfl Try.underlying22 rfl sz22 LN rfl) ?_
  refine At.s (S_callV (some 38) [] [] (vs := [_, _]) rfl en8 rfl V0 (by simp) (c_Shared (secret := b) (pub := (shX a (shX c (9#8 :: List.replicate 31 0#8)))) LN LN) (by rintro _ _ ⟨rfl, rfl⟩; rfl) ?_)
  rintro _ _ ⟨rfl, rfl⟩
  have := shX_len b (shX a (shX c (9#8 :: List.replicate 31 0#8)))
  refine At.p (some 35) (P_move rfl rfl) ?_
  refine At.p (some 39) (P_extract rfl rfl rfl) ?_
  refine At.p (some 40) (P_extract rfl rfl rfl) ?_
  refine At.s (S_alloc (some 13) 13 (zs := (List.replicate 32 0#8).map u8V) rfl ze22 rfl (fun b13 => ?_))
  refine At.s (S_storeA none (k := 13) (vs := (shX b (shX a (shX c (9#8 :: List.replicate 31 0#8)))).map u8V) rfl rfl rfl (by rw [sz22]; exact congrArg some LN) rfl (one_map (fun _ => rfl)) NG rfl LN ?_)
  refine At.p (some 14) (P_assign rfl rfl) ?_
  refine At.nil ?_
  refine At.next ?_
  refine At.seq ?_
  refine At.region ?_
  refine At.s (S_callV (some 41) [] [] (vs := []) rfl en10 rfl V0 (by simp) (c_shares  ) (by rintro _ _ ⟨rfl, rfl⟩; rfl) ?_)
  rintro _ _ ⟨rfl, rfl⟩
  refine At.p (some 42) (P_move rfl rfl) ?_
  refine At.gy (t := 42) rfl (by first | rfl | exact bne_iff_ne.2 q2 | exact bne_iff_ne.2 (q1 ▸ q2)) rfl rfl ?_
  refine At.p (some 43) (P_move rfl rfl) ?_
  refine At.p (some 44) (P_pick_t rfl rfl (by first | rfl | exact bne_iff_ne.2 q2 | exact bne_iff_ne.2 (q1 ▸ q2)) rfl) ?_
  refine At.p (some 45) (P_move rfl rfl) ?_
  refine At.gy (t := 45) rfl (by first | rfl | exact bne_iff_ne.2 q2 | exact bne_iff_ne.2 (q1 ▸ q2)) rfl rfl ?_
  refine At.p (some 46) (P_move rfl rfl) ?_
  refine At.p (some 47) (P_pick_t rfl rfl (by first | rfl | exact bne_iff_ne.2 q2 | exact bne_iff_ne.2 (q1 ▸ q2)) rfl) ?_
  refine At.p (some 48) (P_move rfl rfl) ?_
  refine At.gy (t := 48) rfl (by first | rfl | exact bne_iff_ne.2 q2 | exact bne_iff_ne.2 (q1 ▸ q2)) rfl rfl ?_
  refine At.q (some 49) (Q_loadA (k := 9) rfl rfl Try.underlying22 rfl sz22 LN rfl) ?_
  refine At.gy (t := 48) rfl (by first | rfl | exact bne_iff_ne.2 q2 | exact bne_iff_ne.2 (q1 ▸ q2)) rfl rfl ?_
  refine At.q (some 50) (Q_loadA (k := 13) rfl rfl Try.underlying22 rfl sz22 LN rfl) ?_
  refine At.gy (t := 48) rfl (by first | rfl | exact bne_iff_ne.2 q2 | exact bne_iff_ne.2 (q1 ▸ q2)) rfl rfl ?_
  refine At.p (some 51) (P_eql_arr (k := .u8) (xs := (shX c (shX b (shX a (9#8 :: List.replicate 31 0#8))))) (ys := (shX b (shX a (shX c (9#8 :: List.replicate 31 0#8))))) rfl Try.underlying22 Try.underlying5 sz5 Try.eqGuardType22 rfl rfl LN LN) ?_
  refine At.p (some 52) (P_pick_t rfl rfl (by first | rfl | exact bne_iff_ne.2 q2 | exact bne_iff_ne.2 (q1 ▸ q2)) rfl) ?_
  refine At.p (some 6) (P_assign rfl rfl) ?_
  refine At.nil ?_
  refine At.next ?_
  refine At.ret ?_
  have hq0 : ((shX c (shX b (shX a (9#8 :: List.replicate 31 0#8)))) == (shX b (shX a (shX c (9#8 :: List.replicate 31 0#8))))) = true := (beq_iff_eq.2 q1)
  refine At.give (.inl rfl) [] (rows' := []) (vs := [_]) rfl ⟨rfl, trivial⟩ rfl (by simp) (by simp) ⟨(by first | (rw [hq0]; try rfl; done) | (rw [← hq0]; try rfl; done) | (simp only [hq0]; try rfl; done) | (simp only [← hq0]; try rfl; done) | rfl), (by first | (rw [hq0]; try rfl; done) | (rw [← hq0]; try rfl; done) | (simp only [hq0]; try rfl; done) | (simp only [← hq0]; try rfl; done) | rfl)⟩

end Go.Proofs.Ytnhjmapapbhhpaa
