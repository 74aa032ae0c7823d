import Derived.Test.YtnhjmapapbhhpaaCV3
namespace Go.Proofs.Ytnhjmapapbhhpaa
set_option maxRecDepth 20000
set_option linter.unusedVariables false
set_option linter.unusedSimpArgs false
open Go.SE Go.RowKit
theorem ladC_zero (u : List (BitVec 64)) (k : Nat) : ladC u k 0 = ⟨one5, zero5, u, one5⟩ := rfl
attribute [local irreducible] carN zadd subC0 mulC addC subC ladC packN xN
set_option maxHeartbeats 2000000 in
theorem c_Shared {secret : List (BitVec 8)} {pub : List (BitVec 8)} (hsecret : secret.length = 32) (hpub : pub.length = 32) :
    Con Try.prog 8 [aggK secret, aggK pub] [] (fun v rs => v = .tuple #[aggK (shX secret pub), .bool (shX secret pub != List.replicate 32 0#8)] ∧ rs = []) := by
  refine Con.enter Try.func8 Try.ntmps8 (Nat.le_of_ble_eq_true rfl) rfl fun w => ?_
  refine At.seq ?_
  refine At.region ?_
  refine At.s (S_box (some 2) 2 (zs := (secret).map u8V) rfl rfl rfl (fun b2 => ?_))
  refine At.s (S_box (some 3) 3 (zs := (pub).map u8V) rfl rfl rfl (fun b3 => ?_))
  refine At.s (S_alloc (some 4) 4 (zs := (List.replicate 32 0#8).map u8V) rfl ze22 rfl (fun b4 => ?_))
  refine At.p (some 5) (P_assign rfl rfl) ?_
  refine At.nil ?_
  refine At.next ?_
  refine At.seq ?_
  refine At.region ?_
  refine At.p (some 11) (P_indexAddr_arr1 (j := 0) rfl Try.underlying22 sz5 rfl rfl rfl (by decide)) ?_
  refine At.q (some 12) (Q_loadM (k := 2) (f := u8V) (l := secret) (0#8) rfl rfl Try.underlying5 rfl rfl OG) ?_
  refine At.p (some 13) (P_andNot_w UK.u8 (b := 7#8) rfl rfl rfl) ?_
  refine At.p (some 14) (P_indexAddr_arr1 (j := 0) rfl Try.underlying22 sz5 rfl rfl rfl (by decide)) ?_
  refine At.s (S_storeM none (f := u8V) (l := secret) (u := ((secret.getD 0 0#8) &&& ~~~ (7#8))) (k := 2) rfl rfl rfl sz5 rfl rfl rfl OG ?_)
  refine At.nil ?_
  refine At.next ?_
  refine At.seq ?_
  refine At.region ?_
  refine At.p (some 15) (P_indexAddr_arr1 (j := 31) rfl Try.underlying22 sz5 rfl rfl rfl (by decide)) ?_
  refine At.q (some 16) (Q_loadM (k := 2) (f := u8V) (l := (secret.set 0 ((secret.getD 0 0#8) &&& ~~~ (7#8)))) (0#8) rfl rfl Try.underlying5 rfl rfl OG) ?_
  refine At.p (some 17) (P_and_w UK.u8 (b := 63#8) rfl rfl rfl) ?_
  refine At.p (some 18) (P_or_w UK.u8 (b := 64#8) rfl rfl rfl) ?_
  refine At.p (some 19) (P_indexAddr_arr1 (j := 31) rfl Try.underlying22 sz5 rfl rfl rfl (by decide)) ?_
  refine At.s (S_storeM none (f := u8V) (l := (secret.set 0 ((secret.getD 0 0#8) &&& ~~~ (7#8)))) (u := ((((secret.set 0 ((secret.getD 0 0#8) &&& ~~~ (7#8))).getD 31 0#8) &&& 63#8) ||| 64#8)) (k := 2) rfl rfl rfl sz5 rfl rfl rfl OG ?_)
  refine At.nil ?_
  refine At.next ?_
  refine At.seq ?_
  refine At.region ?_
  refine At.q (some 20) (Q_loadA (k := 3) rfl rfl Try.underlying22 rfl sz22 LN rfl) ?_
  refine At.s (S_callV (some 21) [] [] (vs := [_]) rfl en12 rfl V0 (by simp) (c_unp (b := pub) LN) (by rintro _ _ ⟨rfl, rfl⟩; rfl) ?_)
  rintro _ _ ⟨rfl, rfl⟩
  have := dgs_len (leN pub % 57896044618658097711785492504343953926634992332820282019728792003956564819968) 5
  refine At.s (S_alloc (some 6) 6 (zs := (List.replicate 5 0#64).map u64V) rfl ze34 rfl (fun b6 => ?_))
  refine At.s (S_storeA none (k := 6) (vs := (dgs (leN pub % 57896044618658097711785492504343953926634992332820282019728792003956564819968) 5).map u64V) rfl rfl rfl (by rw [sz34]; exact congrArg some LN) rfl (one_map (fun _ => rfl)) NG rfl LN ?_)
  refine At.nil ?_
  refine At.next ?_
  refine At.seq ?_
  refine At.region ?_
  refine At.q (some 22) (Q_loadA (k := 6) rfl rfl Try.underlying34 rfl sz34 LN rfl) ?_
  refine At.p (some 23) (P_build_arr (cs := (([1#64, 0#64, 0#64, 0#64, 0#64]).map u64V).toArray) (parts := _) (vs := [(0, _)]) rfl Try.underlying34 sz31 ze34 rfl rfl) ?_
  refine At.p (some 24) (P_build_arr (cs := ((List.replicate 5 0#64).map u64V).toArray) (parts := _) (vs := []) rfl Try.underlying34 sz31 ze34 rfl rfl) ?_
  refine At.q (some 25) (Q_loadA (k := 6) rfl rfl Try.underlying34 rfl sz34 LN rfl) ?_
  refine At.p (some 26) (P_build_arr (cs := (([1#64, 0#64, 0#64, 0#64, 0#64]).map u64V).toArray) (parts := _) (vs := [(0, _)]) rfl Try.underlying34 sz31 ze34 rfl rfl) ?_
  refine At.p (some 27) (P_build_struct (cs := ([(dgs (leN pub % 57896044618658097711785492504343953926634992332820282019728792003956564819968) 5).map u64V, ([1#64, 0#64, 0#64, 0#64, 0#64]).map u64V, (List.replicate 5 0#64).map u64V, (dgs (leN pub % 57896044618658097711785492504343953926634992332820282019728792003956564819968) 5).map u64V, ([1#64, 0#64, 0#64, 0#64, 0#64]).map u64V].flatten).toArray) (parts := _) (vs := [(0, _), (1, _), (2, _), (3, _), (4, _)]) rfl Try.underlying38 ze38 pl38 rfl (by show Instr.fill _ ([(List.replicate 5 0#64).map u64V, (List.replicate 5 0#64).map u64V, (List.replicate 5 0#64).map u64V, (List.replicate 5 0#64).map u64V, (List.replicate 5 0#64).map u64V].flatten).toArray _ = _; refine fill_seg (k := 0) (vs := (dgs (leN pub % 57896044618658097711785492504343953926634992332820282019728792003956564819968) 5).map u64V) rfl rfl LN rfl LN LN ?_; refine fill_seg (k := 1) (vs := ([1#64, 0#64, 0#64, 0#64, 0#64]).map u64V) rfl rfl LN rfl LN LN ?_; refine fill_seg (k := 2) (vs := (List.replicate 5 0#64).map u64V) rfl rfl LN rfl LN LN ?_; refine fill_seg (k := 3) (vs := (dgs (leN pub % 57896044618658097711785492504343953926634992332820282019728792003956564819968) 5).map u64V) rfl rfl LN rfl LN LN ?_; refine fill_seg (k := 4) (vs := ([1#64, 0#64, 0#64, 0#64, 0#64]).map u64V) rfl rfl LN rfl LN LN ?_; exact fill_end (by simp))) ?_
  refine At.s (S_box (some 28) 28 (zs := [(dgs (leN pub % 57896044618658097711785492504343953926634992332820282019728792003956564819968) 5).map u64V, ([1#64, 0#64, 0#64, 0#64, 0#64]).map u64V, (List.replicate 5 0#64).map u64V, (dgs (leN pub % 57896044618658097711785492504343953926634992332820282019728792003956564819968) 5).map u64V, ([1#64, 0#64, 0#64, 0#64, 0#64]).map u64V].flatten) rfl rfl rfl (fun b28 => ?_))
  refine At.p (some 7) (P_assign rfl rfl) ?_
  refine At.nil ?_
  refine At.next ?_
  refine At.seq ?_
  refine At.seq ?_
  refine At.region ?_
  refine At.p (some 8) (P_assign rfl rfl) ?_
  refine At.nil ?_
  refine At.next ?_
  refine At.block ?_
  refine At.loopx (I := fun m fr H => ∃ (n : Nat), m = 255 - n ∧ fr = frOf [(0, aggK secret), (1, aggK pub), (2, ptr b2 0), (3, ptr b3 0), (4, ptr b4 0), (5, .bool false), (6, ptr b6 0), (7, ptr b28 0), (8, iV (254 - (n : Int))), (11, ptr b2 0), (12, u8V (secret.getD 0 0#8)), (13, u8V ((secret.getD 0 0#8) &&& ~~~ (7#8))), (14, ptr b2 0), (15, ptr b2 31), (16, u8V ((secret.set 0 ((secret.getD 0 0#8) &&& ~~~ (7#8))).getD 31 0#8)), (17, u8V (((secret.set 0 ((secret.getD 0 0#8) &&& ~~~ (7#8))).getD 31 0#8) &&& 63#8)), (18, u8V ((((secret.set 0 ((secret.getD 0 0#8) &&& ~~~ (7#8))).getD 31 0#8) &&& 63#8) ||| 64#8)), (19, ptr b2 31), (20, aggK pub), (21, .agg ((dgs (leN pub % 57896044618658097711785492504343953926634992332820282019728792003956564819968) 5).map u64V).toArray), (22, .agg ((dgs (leN pub % 57896044618658097711785492504343953926634992332820282019728792003956564819968) 5).map u64V).toArray), (23, .agg (([1#64, 0#64, 0#64, 0#64, 0#64]).map u64V).toArray), (24, .agg ((List.replicate 5 0#64).map u64V).toArray), (25, .agg ((dgs (leN pub % 57896044618658097711785492504343953926634992332820282019728792003956564819968) 5).map u64V).toArray), (26, .agg (([1#64, 0#64, 0#64, 0#64, 0#64]).map u64V).toArray), (27, .agg ([(dgs (leN pub % 57896044618658097711785492504343953926634992332820282019728792003956564819968) 5).map u64V, ([1#64, 0#64, 0#64, 0#64, 0#64]).map u64V, (List.replicate 5 0#64).map u64V, (dgs (leN pub % 57896044618658097711785492504343953926634992332820282019728792003956564819968) 5).map u64V, ([1#64, 0#64, 0#64, 0#64, 0#64]).map u64V].flatten).toArray), (28, ptr b28 0)] ∧ H = hOf [(2, ⟨true, b2, 0, 22, ((clampS secret)).map u8V, 0⟩), (3, ⟨true, b3, 0, 22, (pub).map u8V, 0⟩), (4, ⟨true, b4, 0, 22, (List.replicate 32 0#8).map u8V, 0⟩), (6, ⟨true, b6, 0, 34, (dgs (leN pub % 57896044618658097711785492504343953926634992332820282019728792003956564819968) 5).map u64V, 0⟩), (28, ⟨true, b28, 0, 38, [((dgs (uN pub) 5)).map u64V, ((ladC (dgs (uN pub) 5) (leN (clampS secret)) n).x2).map u64V, ((ladC (dgs (uN pub) 5) (leN (clampS secret)) n).z2).map u64V, ((ladC (dgs (uN pub) 5) (leN (clampS secret)) n).x3).map u64V, ((ladC (dgs (uN pub) 5) (leN (clampS secret)) n).z3).map u64V].flatten, 0⟩)] ∧ (n ≤ 255)) ?_ ?_
  · intro Kc0 hKc0
    refine At.to [(0, _), (1, _), (2, _), (3, _), (4, _), (5, _), (6, _), (7, _), (8, iV (254 - (0 : Int))), (11, _), (12, _), (13, _), (14, _), (15, _), (16, _), (17, _), (18, _), (19, _), (20, _), (21, _), (22, _), (23, _), (24, _), (25, _), (26, _), (27, _), (28, _)] [(2, ⟨true, b2, 0, 22, ((clampS secret)).map u8V, 0⟩), (3, _), (4, _), (6, _), (28, ⟨true, b28, 0, 38, [((dgs (uN pub) 5)).map u64V, ((ladC (dgs (uN pub) 5) (leN (clampS secret)) 0).x2).map u64V, ((ladC (dgs (uN pub) 5) (leN (clampS secret)) 0).z2).map u64V, ((ladC (dgs (uN pub) 5) (leN (clampS secret)) 0).x3).map u64V, ((ladC (dgs (uN pub) 5) (leN (clampS secret)) 0).z3).map u64V].flatten, 0⟩)] (AllL.cons_ (rfl) (AllL.cons_ (rfl) (AllL.cons_ (rfl) (AllL.cons_ (rfl) (AllL.cons_ (rfl) (AllL.cons_ (rfl) (AllL.cons_ (rfl) (AllL.cons_ (rfl) (AllL.cons_ (rfl) (AllL.cons_ (rfl) (AllL.cons_ (rfl) (AllL.cons_ (rfl) (AllL.cons_ (rfl) (AllL.cons_ (rfl) (AllL.cons_ (rfl) (AllL.cons_ (rfl) (AllL.cons_ (rfl) (AllL.cons_ (rfl) (AllL.cons_ (rfl) (AllL.cons_ (rfl) (AllL.cons_ (rfl) (AllL.cons_ (rfl) (AllL.cons_ (rfl) (AllL.cons_ (rfl) (AllL.cons_ (rfl) (AllL.cons_ (rfl) (AllL.cons_ (rfl) trivial))))))))))))))))))))))))))) (AllL.cons_ (rfl) (AllL.cons_ (rfl) (AllL.cons_ (rfl) (AllL.cons_ (rfl) (AllL.cons_ ((by rw [ladC_zero]; rfl)) trivial))))) ?_
    exact hKc0 _ _ _ ⟨0, rfl, rfl, rfl, (by omega)⟩
  · rintro m fr H ⟨n, rfl, rfl, rfl, hn⟩ Kc0 hKc0
    have hcl := (clampS_len secret).trans hsecret
    have hul := dgs_len (uN pub) 5
    have hub := (u_rel pub).1
    obtain ⟨q1, q2, q3, q4⟩ := lad_bnd pub (leN (clampS secret)) n
    have ql1 := q1.1
    have ql2 := q2.1
    have ql3 := q3.1
    have ql4 := q4.1
    obtain ⟨r1, r2, r3, r4⟩ := swap_bnd ((leN (clampS secret)).testBit (254 - n)) (lad_bnd pub (leN (clampS secret)) n)
    have rl1 := r1.1
    have rl2 := r2.1
    have rl3 := r3.1
    have rl4 := r4.1
    obtain ⟨s1, s2, s3, s4⟩ := ladder_step_bnd hub ⟨r1, r2, r3, r4⟩
    have sl1 := s1.1
    have sl2 := s2.1
    have sl3 := s3.1
    have sl4 := s4.1
    refine At.seq ?_
    refine At.seq ?_
    refine At.region ?_
    refine At.p (some 29) (P_move rfl rfl) ?_
    refine At.p (some 30) (P_cmp rfl rfl rfl rfl rfl rfl) ?_
    refine At.nil ?_
    refine At.next ?_
    refine At.cond rfl (fun h30 => ?_) (fun h30 => ?_)
    · -- cond 30 t
      have e30 : (254 - (n : Int)) ≥ 0 := of_decide_eq_true h30
      refine At.skip ?_
      refine At.next ?_
      refine At.seq ?_
      refine At.block ?_
      refine At.seq ?_
      refine At.region ?_
      refine At.p (some 33) (P_move rfl rfl) ?_
      refine At.p (some 34) (P_quo_i rfl rfl rfl (by omega) (by omega) (by first | decide | omega)) ?_
      refine At.p (some 35) (P_indexAddr_arr1 (j := ((254 - n) / 8)) rfl Try.underlying22 sz5 rfl rfl RO OG) ?_
      refine At.q (some 36) (Q_loadM (k := 2) (f := u8V) (l := (clampS secret)) (0#8) rfl rfl Try.underlying5 rfl rfl OG) ?_
      refine At.p (some 37) (P_move rfl rfl) ?_
      refine At.p (some 38) (P_rem_i rfl rfl rfl (by omega) (by first | decide | omega)) ?_
      refine At.p (some 39) (P_shr_w UK.u8 (n := 8) rfl rfl rfl (by first | decide | omega)) ?_
      refine At.p (some 40) (P_and_w UK.u8 (b := 1#8) rfl rfl rfl) ?_
      have hbit : ((((clampS secret).getD ((254 - n) / 8) 0#8) >>> (((254 - (n : Int)) % 8) : Int).toNat) &&& 1#8) = BitVec.ofNat 8 ((leN (clampS secret)) / 2 ^ (254 - n) % 2) := by rw [show ((254 - (n : Int)) % 8).toNat = (254 - n) % 8 by omega]; exact byte_bit hcl (by omega)
      simp only [hbit]
      refine At.p (some 9) (P_assign rfl rfl) ?_
      refine At.nil ?_
      refine At.next ?_
      refine At.seq ?_
      refine At.region ?_
      refine At.p (some 41) (P_move rfl rfl) ?_
      refine At.p (some 42) (P_move rfl rfl) ?_
      refine At.s (S_callR (some 43) [(28, _)] [] [28] (vs := [_, _]) rfl en13 rfl (ON rfl rfl O0) (by simp) V0 (by simp) (c_swap (bl := b28) (x1 := (dgs (uN pub) 5)) (x2 := ((ladC (dgs (uN pub) 5) (leN (clampS secret)) n).x2)) (z2 := ((ladC (dgs (uN pub) 5) (leN (clampS secret)) n).z2)) (x3 := ((ladC (dgs (uN pub) 5) (leN (clampS secret)) n).x3)) (z3 := ((ladC (dgs (uN pub) 5) (leN (clampS secret)) n).z3)) (bit := (BitVec.ofNat 8 ((leN (clampS secret)) / 2 ^ (254 - n) % 2))) LN LN LN LN LN (bit01 _ _)) (by rintro _ _ ⟨rfl, rfl⟩; rfl) ?_)
      rintro _ _ ⟨rfl, rfl⟩
      rw [swap_x2, swap_z2, swap_x3, swap_z3]
      refine At.nil ?_
      refine At.next ?_
      refine At.seq ?_
      refine At.region ?_
      refine At.p (some 44) (P_move rfl rfl) ?_
      refine At.s (S_callR (some 45) [(28, _)] [] [28] (vs := [_]) rfl en14 rfl (ON rfl rfl O0) (by simp) V0 (by simp) (c_step (bl := b28) (x1 := (dgs (uN pub) 5)) (x2 := ((swapS ((leN (clampS secret)).testBit (254 - n)) (ladC (dgs (uN pub) 5) (leN (clampS secret)) n)).x2)) (z2 := ((swapS ((leN (clampS secret)).testBit (254 - n)) (ladC (dgs (uN pub) 5) (leN (clampS secret)) n)).z2)) (x3 := ((swapS ((leN (clampS secret)).testBit (254 - n)) (ladC (dgs (uN pub) 5) (leN (clampS secret)) n)).x3)) (z3 := ((swapS ((leN (clampS secret)).testBit (254 - n)) (ladC (dgs (uN pub) 5) (leN (clampS secret)) n)).z3)) LN LN LN LN LN BD BD BD BD BD) (by rintro _ _ ⟨rfl, rfl⟩; rfl) ?_)
      rintro _ _ ⟨rfl, rfl⟩
      refine At.nil ?_
      refine At.next ?_
      refine At.region ?_
      refine At.p (some 46) (P_move rfl rfl) ?_
      refine At.p (some 47) (P_move rfl rfl) ?_
      refine At.s (S_callR (some 48) [(28, _)] [] [28] (vs := [_, _]) rfl en13 rfl (ON rfl rfl O0) (by simp) V0 (by simp) (c_swap (bl := b28) (x1 := (dgs (uN pub) 5)) (x2 := ((stepG addC subC mulC num5 (dgs (uN pub) 5) (swapS ((leN (clampS secret)).testBit (254 - n)) (ladC (dgs (uN pub) 5) (leN (clampS secret)) n))).x2)) (z2 := ((stepG addC subC mulC num5 (dgs (uN pub) 5) (swapS ((leN (clampS secret)).testBit (254 - n)) (ladC (dgs (uN pub) 5) (leN (clampS secret)) n))).z2)) (x3 := ((stepG addC subC mulC num5 (dgs (uN pub) 5) (swapS ((leN (clampS secret)).testBit (254 - n)) (ladC (dgs (uN pub) 5) (leN (clampS secret)) n))).x3)) (z3 := ((stepG addC subC mulC num5 (dgs (uN pub) 5) (swapS ((leN (clampS secret)).testBit (254 - n)) (ladC (dgs (uN pub) 5) (leN (clampS secret)) n))).z3)) (bit := (BitVec.ofNat 8 ((leN (clampS secret)) / 2 ^ (254 - n) % 2))) LN LN LN LN LN (bit01 _ _)) (by rintro _ _ ⟨rfl, rfl⟩; rfl) ?_)
      rintro _ _ ⟨rfl, rfl⟩
      rw [swap_x2, swap_z2, swap_x3, swap_z3]
      refine At.nil ?_
      refine At.inb_n ?_
      refine At.next ?_
      refine At.region ?_
      refine At.p (some 31) (P_move rfl rfl) ?_
      refine At.p (some 32) (P_sub_i rfl rfl rfl (by omega)) ?_
      refine At.p (some 8) (P_assign rfl rfl) ?_
      refine At.nil ?_
      refine At.next ?_
      refine At.to [(0, _), (1, _), (2, _), (3, _), (4, _), (5, _), (6, _), (7, _), (8, iV (254 - ((n + 1) : Int))), (11, _), (12, _), (13, _), (14, _), (15, _), (16, _), (17, _), (18, _), (19, _), (20, _), (21, _), (22, _), (23, _), (24, _), (25, _), (26, _), (27, _), (28, _)] [(2, _), (3, _), (4, _), (6, _), (28, ⟨true, b28, 0, 38, [((dgs (uN pub) 5)).map u64V, ((ladC (dgs (uN pub) 5) (leN (clampS secret)) (n + 1)).x2).map u64V, ((ladC (dgs (uN pub) 5) (leN (clampS secret)) (n + 1)).z2).map u64V, ((ladC (dgs (uN pub) 5) (leN (clampS secret)) (n + 1)).x3).map u64V, ((ladC (dgs (uN pub) 5) (leN (clampS secret)) (n + 1)).z3).map u64V].flatten, 0⟩)] (AllL.cons_ (rfl) (AllL.cons_ (rfl) (AllL.cons_ (rfl) (AllL.cons_ (rfl) (AllL.cons_ (rfl) (AllL.cons_ (rfl) (AllL.cons_ (rfl) (AllL.cons_ (rfl) (AllL.cons_ ((congrArg (fun z : Int => some (iV z)) (show (254 - (n : Int) - 1) = 254 - ((n : Int) + 1) by omega))) (AllL.cons_ (rfl) (AllL.cons_ (rfl) (AllL.cons_ (rfl) (AllL.cons_ (rfl) (AllL.cons_ (rfl) (AllL.cons_ (rfl) (AllL.cons_ (rfl) (AllL.cons_ (rfl) (AllL.cons_ (rfl) (AllL.cons_ (rfl) (AllL.cons_ (rfl) (AllL.cons_ (rfl) (AllL.cons_ (rfl) (AllL.cons_ (rfl) (AllL.cons_ (rfl) (AllL.cons_ (rfl) (AllL.cons_ (rfl) (AllL.cons_ (rfl) trivial))))))))))))))))))))))))))) (AllL.cons_ (rfl) (AllL.cons_ (rfl) (AllL.cons_ (rfl) (AllL.cons_ (rfl) (AllL.cons_ ((by rw [ladC_succ]; rfl)) trivial))))) ?_
      exact hKc0 _ _ _ (by omega) ⟨n + 1, rfl, rfl, rfl, (by omega)⟩
    · -- cond 30 f
      have e30 : ¬ (254 - (n : Int)) ≥ 0 := of_decide_eq_false h30
      refine At.exit ?_
      refine At.thn_e ?_
      refine At.thn_e ?_
      refine At.inb_hit ?_
      refine At.next ?_
      refine At.seq ?_
      obtain rfl : n = 255 := by omega
      obtain ⟨q1, q2, q3, q4⟩ := lad_bnd pub (leN (clampS secret)) 255
      have ql1 := q1.1
      have ql2 := q2.1
      have ql3 := q3.1
      have ql4 := q4.1
      have hbi := (inv_rel homC (x := nv (ladC (dgs (uN pub) 5) (leN (clampS secret)) 255).z2 % pN) ⟨q2, rfl⟩ 254).1
      have hbl := hbi.1
      refine At.draws 12 [] [.q false [0, 1, 2, 3, 4, 5, 6, 7, 8, 9, 10], .e false 11] (by kernel_rfl) (by kernel_rfl) ?_
      refine At.wp (some 49) (P_move rfl rfl) ?_
      refine At.wp (some 50) (P_nilCheck rfl rfl) ?_
      refine At.wp (some 51) (P_fieldAddr0 (off := 5) rfl Try.underlying38 rfl sz34 rfl rfl) ?_
      refine At.wq (some 52) (Q_loadN (k := 28) (j := 5) (cs := ((ladC (dgs (uN pub) 5) (leN (clampS secret)) 255).x2).map u64V) rfl rfl Try.underlying34 rfl sz34 rfl rfl rfl (seg_at (i := 1) rfl LN LN) LN) ?_
      refine At.wp (some 53) (P_move rfl rfl) ?_
      refine At.wp (some 54) (P_nilCheck rfl rfl) ?_
      refine At.wp (some 55) (P_fieldAddr0 (off := 10) rfl Try.underlying38 rfl sz34 rfl rfl) ?_
      refine At.wq (some 56) (Q_loadN (k := 28) (j := 10) (cs := ((ladC (dgs (uN pub) 5) (leN (clampS secret)) 255).z2).map u64V) rfl rfl Try.underlying34 rfl sz34 rfl rfl rfl (seg_at (i := 2) rfl LN LN) LN) ?_
      refine At.wcV (some 57) [] (vs := [_]) rfl en17 rfl V0 (c_inv (a := ((ladC (dgs (uN pub) 5) (leN (clampS secret)) 255).z2)) LN BD) ?_
      have := (inv_rel homC (x := nv ((ladC (dgs (uN pub) 5) (leN (clampS secret)) 255).z2) % pN) ⟨BD, rfl⟩ 254).1.1
      refine At.wcV (some 58) [] (vs := [_, _]) rfl en16 rfl V0 (c_mulC (a := ((ladC (dgs (uN pub) 5) (leN (clampS secret)) 255).x2)) (b := (invG mulC ((ladC (dgs (uN pub) 5) (leN (clampS secret)) 255).z2) 254)) LN LN BD BD) ?_
      have := mulC_len ((ladC (dgs (uN pub) 5) (leN (clampS secret)) 255).x2) (invG mulC ((ladC (dgs (uN pub) 5) (leN (clampS secret)) 255).z2) 254)
      refine At.wcV (some 59) [] (vs := [_]) rfl en15 rfl V0 (c_pack (a := (mulC ((ladC (dgs (uN pub) 5) (leN (clampS secret)) 255).x2) (invG mulC ((ladC (dgs (uN pub) 5) (leN (clampS secret)) 255).z2) 254))) LN BD) ?_
      have := packN_len (nv (mulC ((ladC (dgs (uN pub) 5) (leN (clampS secret)) 255).x2) (invG mulC ((ladC (dgs (uN pub) 5) (leN (clampS secret)) 255).z2) 254)))
      refine At.wqn ?_
      refine At.we ?_
      refine S_alloc (some 10) 10 (zs := (List.replicate 32 0#8).map u8V) rfl ze22 rfl (fun b10 => ?_)
      refine At.wt rfl ?_
      refine At.s (S_storeA none (k := 10) (vs := (packN (nv (mulC ((ladC (dgs (uN pub) 5) (leN (clampS secret)) 255).x2) (invG mulC ((ladC (dgs (uN pub) 5) (leN (clampS secret)) 255).z2) 254)))).map u8V) rfl rfl rfl (by rw [sz22]; exact congrArg some LN) rfl (one_map (fun _ => rfl)) NG rfl LN ?_)
      refine At.nil ?_
      refine At.next ?_
      refine At.seq ?_
      refine At.ord [.q (aggK (packN (nv (mulC ((ladC (dgs (uN pub) 5) (leN (clampS secret)) 255).x2) (invG mulC ((ladC (dgs (uN pub) 5) (leN (clampS secret)) 255).z2) 254))))), .q (aggK (packN (nv (mulC ((ladC (dgs (uN pub) 5) (leN (clampS secret)) 255).x2) (invG mulC ((ladC (dgs (uN pub) 5) (leN (clampS secret)) 255).z2) 254))))), .q (aggK (List.replicate 32 0#8)), .q (.bool (!((packN (nv (mulC ((ladC (dgs (uN pub) 5) (leN (clampS secret)) 255).x2) (invG mulC ((ladC (dgs (uN pub) 5) (leN (clampS secret)) 255).z2) 254)))) == (List.replicate 32 0#8)))), .st 4 (some b4) 22 ((packN (nv (mulC ((ladC (dgs (uN pub) 5) (leN (clampS secret)) 255).x2) (invG mulC ((ladC (dgs (uN pub) 5) (leN (clampS secret)) 255).z2) 254)))).map u8V) 0, .q (.bool (!((packN (nv (mulC ((ladC (dgs (uN pub) 5) (leN (clampS secret)) 255).x2) (invG mulC ((ladC (dgs (uN pub) 5) (leN (clampS secret)) 255).z2) 254)))) == (List.replicate 32 0#8))))] [0, 1, 2, 3, 4, 5] (by kernel_rfl) (by kernel_rfl) (by kernel_rfl) (by kernel_rfl) (by kernel_rfl) ?_ (fun A => ?_)
      · refine ⟨?_, ?_, ?_, ?_, ?_, ?_⟩
        · intro L A f h I R
          exact OGoal.q rfl (OStep.weak (sl := [(10, _)]) (rw_ := [(10, _)]) (AllL.cons_ (I.init _ _ rfl (by kernel_rfl)) trivial) (AllL.cons_ (I.get0 R rfl (by kernel_rfl)) trivial) (QStep.o (Q_loadA (k := 10) rfl rfl Try.underlying22 rfl sz22 LN rfl)))
        · intro L A f h I R
          exact OGoal.q rfl (OStep.weak (sl := [(10, _)]) (rw_ := [(10, _)]) (AllL.cons_ (I.init _ _ rfl (by kernel_rfl)) trivial) (AllL.cons_ (I.get0 R rfl (by kernel_rfl)) trivial) (QStep.o (Q_loadA (k := 10) rfl rfl Try.underlying22 rfl sz22 LN rfl)))
        · intro L A f h I R
          exact OGoal.q rfl (OStep.weak (sl := []) (rw_ := []) trivial trivial (PStep.o (P_build_arr (cs := ((List.replicate 32 0#8).map u8V).toArray) (parts := _) (vs := []) rfl Try.underlying22 sz5 ze22 rfl rfl)))
        · intro L A f h I R
          exact OGoal.q rfl (OStep.weak (sl := [(61, _), (62, _)]) (rw_ := []) (AllL.cons_ (I.slotD R 1 (by kernel_rfl) rfl rfl) (AllL.cons_ (I.slotD R 2 (by kernel_rfl) rfl rfl) trivial)) trivial (PStep.o (P_neq_arr (k := .u8) (xs := (packN (nv (mulC ((ladC (dgs (uN pub) 5) (leN (clampS secret)) 255).x2) (invG mulC ((ladC (dgs (uN pub) 5) (leN (clampS secret)) 255).z2) 254))))) (ys := (List.replicate 32 0#8)) rfl Try.underlying22 Try.underlying5 sz5 Try.eqGuardType22 rfl rfl LN LN)))
        · intro L A f h I R
          exact OGoal.st rfl (S_storeA none (k := 4) (vs := (packN (nv (mulC ((ladC (dgs (uN pub) 5) (leN (clampS secret)) 255).x2) (invG mulC ((ladC (dgs (uN pub) 5) (leN (clampS secret)) 255).z2) 254)))).map u8V) rfl (I.init _ _ rfl (by kernel_rfl)) (I.slotD R 0 (by kernel_rfl) rfl rfl) (by rw [sz22]; exact congrArg some LN) rfl (one_map (fun _ => rfl)) NG (I.get0 R rfl (by kernel_rfl)) LN ⟨rfl, rfl⟩)
        · intro L A f h I R
          exact OGoal.q rfl (OStep.weak (sl := [(63, _)]) (rw_ := []) (AllL.cons_ (I.slotD R 3 (by kernel_rfl) rfl rfl) trivial) trivial (PStep.o (P_assign rfl rfl)))
      ·
        refine At.into (l := [(4, ptr b4 0), (5, .bool (!((packN (nv (mulC ((ladC (dgs (uN pub) 5) (leN (clampS secret)) 255).x2) (invG mulC ((ladC (dgs (uN pub) 5) (leN (clampS secret)) 255).z2) 254)))) == (List.replicate 32 0#8))))]) (m := [(4, ⟨true, b4, 0, 22, (packN (nv (mulC ((ladC (dgs (uN pub) 5) (leN (clampS secret)) 255).x2) (invG mulC ((ladC (dgs (uN pub) 5) (leN (clampS secret)) 255).z2) 254)))).map u8V, 0⟩)]) ?_ rfl rfl
        clear A
        refine At.next ?_
        refine At.ret ?_
        have hq0 : packN (nv (mulC ((ladC (dgs (uN pub) 5) (leN (clampS secret)) 255).x2) (invG mulC ((ladC (dgs (uN pub) 5) (leN (clampS secret)) 255).z2) 254))) = shX secret pub := sh_end _ _
        have hq1 : (!((packN (nv (mulC ((ladC (dgs (uN pub) 5) (leN (clampS secret)) 255).x2) (invG mulC ((ladC (dgs (uN pub) 5) (leN (clampS secret)) 255).z2) 254)))) == (List.replicate 32 0#8))) = (shX secret pub != List.replicate 32 0#8) := (by rw [sh_end]; rfl)
        refine At.giveV (.inl rfl) [] (rows' := []) (ResV.two rfl (ResOne.cellA (k := 4) rfl Try.underlying22 rfl sz22 LN rfl) (ResOne.tmp rfl)) rfl (by simp) (by simp) ?_
        exact ⟨(by first | (rw [hq0, hq1]; try rfl; done) | (rw [← hq0, ← hq1]; try rfl; done) | (simp only [hq0, hq1]; try rfl; done) | (simp only [← hq0, ← hq1]; try rfl; done) | rfl), (by first | (rw [hq0, hq1]; try rfl; done) | (rw [← hq0, ← hq1]; try rfl; done) | (simp only [hq0, hq1]; try rfl; done) | (simp only [← hq0, ← hq1]; try rfl; done) | rfl)⟩

set_option maxHeartbeats 2000000 in
theorem c_Public {secret : List (BitVec 8)} (hsecret : secret.length = 32) :
    Con Try.prog 11 [aggK secret] [] (fun v rs => v = aggK (shX secret (9#8 :: List.replicate 31 0#8)) ∧ rs = []) := by
  refine Con.enter Try.func11 Try.ntmps11 (Nat.le_of_ble_eq_true rfl) rfl fun w => ?_
  refine At.seq ?_
  refine At.region ?_
  refine At.s (S_box (some 1) 1 (zs := (secret).map u8V) rfl rfl rfl (fun b1 => ?_))
  refine At.s (S_alloc (some 2) 2 (zs := (List.replicate 32 0#8).map u8V) rfl ze22 rfl (fun b2 => ?_))
  refine At.nil ?_
  refine At.next ?_
  refine At.seq ?_
  refine At.region ?_
  refine At.q (some 6) (Q_loadA (k := 1) rfl rfl Try.underlying22 rfl sz22 LN rfl) ?_
  refine At.p (some 7) (P_build_arr (cs := (([9#8, 0#8, 0#8, 0#8, 0#8, 0#8, 0#8, 0#8, 0#8, 0#8, 0#8, 0#8, 0#8, 0#8, 0#8, 0#8, 0#8, 0#8, 0#8, 0#8, 0#8, 0#8, 0#8, 0#8, 0#8, 0#8, 0#8, 0#8, 0#8, 0#8, 0#8, 0#8]).map u8V).toArray) (parts := _) (vs := [(0, _)]) rfl Try.underlying22 sz5 ze22 rfl rfl) ?_
  refine At.s (S_callV (some 8) [] [] (vs := [_, _]) rfl en8 rfl V0 (by simp) (c_Shared (secret := secret) (pub := [9#8, 0#8, 0#8, 0#8, 0#8, 0#8, 0#8, 0#8, 0#8, 0#8, 0#8, 0#8, 0#8, 0#8, 0#8, 0#8, 0#8, 0#8, 0#8, 0#8, 0#8, 0#8, 0#8, 0#8, 0#8, 0#8, 0#8, 0#8, 0#8, 0#8, 0#8, 0#8]) LN LN) (by rintro _ _ ⟨rfl, rfl⟩; rfl) ?_)
  rintro _ _ ⟨rfl, rfl⟩
  have := shX_len secret [9#8, 0#8, 0#8, 0#8, 0#8, 0#8, 0#8, 0#8, 0#8, 0#8, 0#8, 0#8, 0#8, 0#8, 0#8, 0#8, 0#8, 0#8, 0#8, 0#8, 0#8, 0#8, 0#8, 0#8, 0#8, 0#8, 0#8, 0#8, 0#8, 0#8, 0#8, 0#8]
  refine At.p (some 5) (P_move rfl rfl) ?_
  refine At.p (some 9) (P_extract rfl rfl rfl) ?_
  refine At.p (some 10) (P_extract rfl rfl rfl) ?_
  refine At.s (S_alloc (some 3) 3 (zs := (List.replicate 32 0#8).map u8V) rfl ze22 rfl (fun b3 => ?_))
  refine At.s (S_storeA none (k := 3) (vs := (shX secret [9#8, 0#8, 0#8, 0#8, 0#8, 0#8, 0#8, 0#8, 0#8, 0#8, 0#8, 0#8, 0#8, 0#8, 0#8, 0#8, 0#8, 0#8, 0#8, 0#8, 0#8, 0#8, 0#8, 0#8, 0#8, 0#8, 0#8, 0#8, 0#8, 0#8, 0#8, 0#8]).map u8V) rfl rfl rfl (by rw [sz22]; exact congrArg some LN) rfl (one_map (fun _ => rfl)) NG rfl LN ?_)
  refine At.p (some 4) (P_assign rfl rfl) ?_
  refine At.nil ?_
  refine At.next ?_
  refine At.seq ?_
  refine At.region ?_
  refine At.q (some 11) (Q_loadA (k := 3) rfl rfl Try.underlying22 rfl sz22 LN rfl) ?_
  refine At.s (S_storeA none (k := 2) (vs := (shX secret [9#8, 0#8, 0#8, 0#8, 0#8, 0#8, 0#8, 0#8, 0#8, 0#8, 0#8, 0#8, 0#8, 0#8, 0#8, 0#8, 0#8, 0#8, 0#8, 0#8, 0#8, 0#8, 0#8, 0#8, 0#8, 0#8, 0#8, 0#8, 0#8, 0#8, 0#8, 0#8]).map u8V) rfl rfl rfl (by rw [sz22]; exact congrArg some LN) rfl (one_map (fun _ => rfl)) NG rfl LN ?_)
  refine At.nil ?_
  refine At.next ?_
  refine At.ret ?_
  have hq0 : (shX secret [9#8, 0#8, 0#8, 0#8, 0#8, 0#8, 0#8, 0#8, 0#8, 0#8, 0#8, 0#8, 0#8, 0#8, 0#8, 0#8, 0#8, 0#8, 0#8, 0#8, 0#8, 0#8, 0#8, 0#8, 0#8, 0#8, 0#8, 0#8, 0#8, 0#8, 0#8, 0#8]).map u8V = (shX secret (9#8 :: List.replicate 31 0#8)).map u8V := rfl
  refine At.giveV (.inl rfl) [] (rows' := []) (ResV.cellA (k := 2) rfl rfl Try.underlying22 rfl sz22 LN rfl) rfl (by simp) (by simp) ?_
  exact ⟨congrArg (fun z => Value.agg (List.toArray z)) hq0, rfl⟩

end Go.Proofs.Ytnhjmapapbhhpaa
