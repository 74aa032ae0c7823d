import Derived.Test.YtablmdbonibjaaaDoorRV7
namespace Go.Proofs.YtablmdbonibjaaaDoor
set_option maxRecDepth 20000
set_option linter.unusedVariables false
set_option linter.unusedSimpArgs false
open Go.SE Go.RowKit
attribute [local irreducible] macS sumS labS expS sealS openT openE openOk aTag streamS
attribute [local irreducible] dkS dvS nnS nnI hdR rsT rsB rsE rpT rpE roE roK roT roX roO kdOk trN trL trK inR
set_option maxHeartbeats 2000000 in
theorem c_seals   :
  Con Tryd.prog 14 [] [] (fun v rs => v = .bool true ∧ rs = []) := by
 refine Con.enter Tryd.func14 Tryd.ntmps14 (Nat.le_of_ble_eq_true rfl) rfl fun w => ?_
 refine At.seq ?_
 refine At.region ?_
 refine At.p (some 0) (P_assign rfl rfl) ?_
 refine At.nil ?_
 refine At.next ?_
 refine At.seq ?_
 refine At.region ?_
 refine At.s (S_buildSliceV (some 10) 10 (([1#8, 0#8]).map u8V) rfl Tryd.underlying29 sz5 ze5 rfl rfl (by decide) (by decide) rfl ⟨rfl, rfl⟩ (fun b10 => ?_))
 refine At.s (S_callV (some 11) [(10, _)] [11] (vs := [_, _]) rfl en12 rfl (VN (by simp) rfl View.all V0) (by simp) (c_Plain (kd := 21) (txt := [1#8, 0#8]) (ntxt := 2) (Atxt := (some ⟨b10, 0, none⟩)) (ctxt := 2) (btxt := b10) (qtxt := 0) LN (fun _ => rfl) OG) (by rintro _ _ ⟨A11, b11, c11, g11a, g11b, rfl, rfl⟩; rfl) ?_)
 rintro _ _ ⟨A11, b11, c11, g11a, g11b, rfl, rfl⟩
 refine At.p (some 9) (P_move rfl rfl) ?_
 refine At.p (some 12) (P_extract rfl rfl rfl) ?_
 refine At.p (some 13) (P_extract rfl rfl rfl) ?_
 refine At.p (some 1) (P_assign rfl rfl) ?_
 refine At.p (some 2) (P_assign rfl rfl) ?_
 refine At.nil ?_
 refine At.next ?_
 refine At.seq ?_
 refine At.region ?_
 refine At.p (some 14) (P_build_arr (cs := (([1#8, 0#8, 0#8, 0#8, 0#8, 0#8, 0#8, 0#8, 0#8, 0#8, 0#8, 0#8, 0#8, 0#8, 0#8, 0#8, 0#8, 0#8, 0#8, 0#8, 0#8, 0#8, 0#8, 0#8, 0#8, 0#8, 0#8, 0#8, 0#8, 0#8, 0#8, 0#8]).map u8V).toArray) (parts := _) (vs := [(0, _)]) rfl Tryd.underlying22 sz5 ze22 rfl rfl) ?_
 refine At.s (S_callV (some 15) [] [] (vs := [_]) rfl en20 rfl V0 (by simp) (c_Der (s := [1#8, 0#8, 0#8, 0#8, 0#8, 0#8, 0#8, 0#8, 0#8, 0#8, 0#8, 0#8, 0#8, 0#8, 0#8, 0#8, 0#8, 0#8, 0#8, 0#8, 0#8, 0#8, 0#8, 0#8, 0#8, 0#8, 0#8, 0#8, 0#8, 0#8, 0#8, 0#8]) LN) (by rintro _ _ ⟨rfl, rfl⟩; rfl) ?_)
 rintro _ _ ⟨rfl, rfl⟩
 have := dkS_len [1#8, 0#8, 0#8, 0#8, 0#8, 0#8, 0#8, 0#8, 0#8, 0#8, 0#8, 0#8, 0#8, 0#8, 0#8, 0#8, 0#8, 0#8, 0#8, 0#8, 0#8, 0#8, 0#8, 0#8, 0#8, 0#8, 0#8, 0#8, 0#8, 0#8, 0#8, 0#8]
 have := dvS_len [1#8, 0#8, 0#8, 0#8, 0#8, 0#8, 0#8, 0#8, 0#8, 0#8, 0#8, 0#8, 0#8, 0#8, 0#8, 0#8, 0#8, 0#8, 0#8, 0#8, 0#8, 0#8, 0#8, 0#8, 0#8, 0#8, 0#8, 0#8, 0#8, 0#8, 0#8, 0#8]
 refine At.s (S_alloc (some 3) 3 (zs := [(List.replicate 32 0#8).map u8V, (List.replicate 12 0#8).map u8V].flatten) rfl ze33 rfl (fun b3 => ?_))
 refine At.s (S_storeA none (k := 3) (vs := [(dkS [1#8, 0#8, 0#8, 0#8, 0#8, 0#8, 0#8, 0#8, 0#8, 0#8, 0#8, 0#8, 0#8, 0#8, 0#8, 0#8, 0#8, 0#8, 0#8, 0#8, 0#8, 0#8, 0#8, 0#8, 0#8, 0#8, 0#8, 0#8, 0#8, 0#8, 0#8, 0#8]).map u8V, (dvS [1#8, 0#8, 0#8, 0#8, 0#8, 0#8, 0#8, 0#8, 0#8, 0#8, 0#8, 0#8, 0#8, 0#8, 0#8, 0#8, 0#8, 0#8, 0#8, 0#8, 0#8, 0#8, 0#8, 0#8, 0#8, 0#8, 0#8, 0#8, 0#8, 0#8, 0#8, 0#8]).map u8V].flatten) rfl rfl rfl (by rw [sz33]; exact congrArg some LN) rfl (one_flatc (one_map (fun _ => rfl)) (one_flatc (one_map (fun _ => rfl)) one_flat0)) NG rfl LN ?_)
 refine At.nil ?_
 refine At.next ?_
 refine At.seq ?_
 obtain ⟨u1, u2, u3, u4, u5, u6, u7⟩ := seals_known (dkS [1#8, 0#8, 0#8, 0#8, 0#8, 0#8, 0#8, 0#8, 0#8, 0#8, 0#8, 0#8, 0#8, 0#8, 0#8, 0#8, 0#8, 0#8, 0#8, 0#8, 0#8, 0#8, 0#8, 0#8, 0#8, 0#8, 0#8, 0#8, 0#8, 0#8, 0#8, 0#8]) (dvS [1#8, 0#8, 0#8, 0#8, 0#8, 0#8, 0#8, 0#8, 0#8, 0#8, 0#8, 0#8, 0#8, 0#8, 0#8, 0#8, 0#8, 0#8, 0#8, 0#8, 0#8, 0#8, 0#8, 0#8, 0#8, 0#8, 0#8, 0#8, 0#8, 0#8, 0#8, 0#8])
 refine At.region ?_
 refine At.q (some 17) (Q_loadA (k := 3) rfl rfl Tryd.underlying33 rfl sz33 LN rfl) ?_
 refine At.s (S_buildSliceV (some 18) 18 (([104#8, 105#8]).map u8V) rfl Tryd.underlying29 sz5 ze5 rfl rfl (by decide) (by decide) rfl ⟨rfl, rfl⟩ (fun b18 => ?_))
 refine At.s (S_convB (some 19) (k := 18) rfl Tryd.underlying29 Tryd.underlying5 rfl rfl (by simp) ?_)
 refine At.s (S_callV (some 20) [(18, _)] [20] (vs := [_, _, _, _, _]) rfl en9 rfl (VN (by simp) rfl View.all V0) (by simp) (c_RSeal (key := (dkS [1#8, 0#8, 0#8, 0#8, 0#8, 0#8, 0#8, 0#8, 0#8, 0#8, 0#8, 0#8, 0#8, 0#8, 0#8, 0#8, 0#8, 0#8, 0#8, 0#8, 0#8, 0#8, 0#8, 0#8, 0#8, 0#8, 0#8, 0#8, 0#8, 0#8, 0#8, 0#8])) (iv := (dvS [1#8, 0#8, 0#8, 0#8, 0#8, 0#8, 0#8, 0#8, 0#8, 0#8, 0#8, 0#8, 0#8, 0#8, 0#8, 0#8, 0#8, 0#8, 0#8, 0#8, 0#8, 0#8, 0#8, 0#8, 0#8, 0#8, 0#8, 0#8, 0#8, 0#8, 0#8, 0#8])) (seq := (5#64)) (kd := 23) (txt := [104#8, 105#8]) (ntxt := 2) (Atxt := (some ⟨b18, 0, none⟩)) (ctxt := 2) (btxt := b18) (qtxt := 0) (pad := 3) LN LN LN (fun _ => rfl) OG) (by rintro _ _ ⟨A20, b20, c20, g20a, g20b, rfl, rfl⟩; rfl) ?_)
 rintro _ _ ⟨A20, b20, c20, g20a, g20b, rfl, rfl⟩
 have := rsT_le (dkS [1#8, 0#8, 0#8, 0#8, 0#8, 0#8, 0#8, 0#8, 0#8, 0#8, 0#8, 0#8, 0#8, 0#8, 0#8, 0#8, 0#8, 0#8, 0#8, 0#8, 0#8, 0#8, 0#8, 0#8, 0#8, 0#8, 0#8, 0#8, 0#8, 0#8, 0#8, 0#8]) (dvS [1#8, 0#8, 0#8, 0#8, 0#8, 0#8, 0#8, 0#8, 0#8, 0#8, 0#8, 0#8, 0#8, 0#8, 0#8, 0#8, 0#8, 0#8, 0#8, 0#8, 0#8, 0#8, 0#8, 0#8, 0#8, 0#8, 0#8, 0#8, 0#8, 0#8, 0#8, 0#8]) (5#64) 23 [104#8, 105#8] 3
 refine At.p (some 16) (P_move rfl rfl) ?_
 refine At.p (some 21) (P_extract rfl rfl rfl) ?_
 refine At.p (some 22) (P_extract rfl rfl rfl) ?_
 refine At.p (some 4) (P_assign rfl rfl) ?_
 refine At.p (some 5) (P_assign rfl rfl) ?_
 refine At.nil ?_
 refine At.next ?_
 refine At.seq ?_
 refine At.seq ?_
 refine At.region ?_
 refine At.p (some 23) (P_move rfl rfl) ?_
 refine At.p (some 24) (P_len_sl rfl rfl ⟨_, Tryd.underlying29⟩ rfl) ?_
 refine At.p (some 25) (P_cmp rfl rfl rfl rfl rfl rfl) ?_
 refine At.nil ?_
 refine At.next ?_
 refine At.cond rfl (fun h25 => (by simp [u4] at h25)) (fun h25 => ?_)
 have e25 : ((rsT (dkS [1#8, 0#8, 0#8, 0#8, 0#8, 0#8, 0#8, 0#8, 0#8, 0#8, 0#8, 0#8, 0#8, 0#8, 0#8, 0#8, 0#8, 0#8, 0#8, 0#8, 0#8, 0#8, 0#8, 0#8, 0#8, 0#8, 0#8, 0#8, 0#8, 0#8, 0#8, 0#8]) (dvS [1#8, 0#8, 0#8, 0#8, 0#8, 0#8, 0#8, 0#8, 0#8, 0#8, 0#8, 0#8, 0#8, 0#8, 0#8, 0#8, 0#8, 0#8, 0#8, 0#8, 0#8, 0#8, 0#8, 0#8, 0#8, 0#8, 0#8, 0#8, 0#8, 0#8, 0#8, 0#8]) (5#64) 23 [104#8, 105#8] 3).length : Int) = 27 := bne_eq_false_iff_eq.1 h25
 refine At.skip ?_
 refine At.next ?_
 refine At.seq ?_
 refine At.draws 10 [] [.q false [0, 1, 2], .e false 3, .q false [4, 5, 6, 7, 8, 9]] (by kernel_rfl) (by kernel_rfl) ?_
 refine At.wq (some 27) (Q_loadA (k := 3) rfl rfl Tryd.underlying33 rfl sz33 LN rfl) ?_
 refine At.wp (some 28) (P_move rfl rfl) ?_
 refine At.wp (some 29) (P_slice_sl (l := 5) (h := (rsT (dkS [1#8, 0#8, 0#8, 0#8, 0#8, 0#8, 0#8, 0#8, 0#8, 0#8, 0#8, 0#8, 0#8, 0#8, 0#8, 0#8, 0#8, 0#8, 0#8, 0#8, 0#8, 0#8, 0#8, 0#8, 0#8, 0#8, 0#8, 0#8, 0#8, 0#8, 0#8, 0#8]) (dvS [1#8, 0#8, 0#8, 0#8, 0#8, 0#8, 0#8, 0#8, 0#8, 0#8, 0#8, 0#8, 0#8, 0#8, 0#8, 0#8, 0#8, 0#8, 0#8, 0#8, 0#8, 0#8, 0#8, 0#8, 0#8, 0#8, 0#8, 0#8, 0#8, 0#8, 0#8, 0#8]) (5#64) 23 [104#8, 105#8] 3).length) (m := c20) rfl Tryd.underlying29 sz5 rfl ⟨_, _, rfl, rfl⟩ rfl rfl DO DO DO) ?_
 refine At.wqn ?_
 refine At.we ?_
 refine SStep.up (S_callV (some 30) [(20, _)] [30] (vs := [_, _, _]) rfl en15 rfl (VN (by simp) rfl (View.sub (j := 5) (m := (((rsT (dkS [1#8, 0#8, 0#8, 0#8, 0#8, 0#8, 0#8, 0#8, 0#8, 0#8, 0#8, 0#8, 0#8, 0#8, 0#8, 0#8, 0#8, 0#8, 0#8, 0#8, 0#8, 0#8, 0#8, 0#8, 0#8, 0#8, 0#8, 0#8, 0#8, 0#8, 0#8, 0#8]) (dvS [1#8, 0#8, 0#8, 0#8, 0#8, 0#8, 0#8, 0#8, 0#8, 0#8, 0#8, 0#8, 0#8, 0#8, 0#8, 0#8, 0#8, 0#8, 0#8, 0#8, 0#8, 0#8, 0#8, 0#8, 0#8, 0#8, 0#8, 0#8, 0#8, 0#8, 0#8, 0#8]) (5#64) 23 [104#8, 105#8] 3).length) - 5)) rfl rfl) V0) (by simp) (c_ROpen (key := (dkS [1#8, 0#8, 0#8, 0#8, 0#8, 0#8, 0#8, 0#8, 0#8, 0#8, 0#8, 0#8, 0#8, 0#8, 0#8, 0#8, 0#8, 0#8, 0#8, 0#8, 0#8, 0#8, 0#8, 0#8, 0#8, 0#8, 0#8, 0#8, 0#8, 0#8, 0#8, 0#8])) (iv := (dvS [1#8, 0#8, 0#8, 0#8, 0#8, 0#8, 0#8, 0#8, 0#8, 0#8, 0#8, 0#8, 0#8, 0#8, 0#8, 0#8, 0#8, 0#8, 0#8, 0#8, 0#8, 0#8, 0#8, 0#8, 0#8, 0#8, 0#8, 0#8, 0#8, 0#8, 0#8, 0#8])) (seq := (5#64)) (b := (((rsT (dkS [1#8, 0#8, 0#8, 0#8, 0#8, 0#8, 0#8, 0#8, 0#8, 0#8, 0#8, 0#8, 0#8, 0#8, 0#8, 0#8, 0#8, 0#8, 0#8, 0#8, 0#8, 0#8, 0#8, 0#8, 0#8, 0#8, 0#8, 0#8, 0#8, 0#8, 0#8, 0#8]) (dvS [1#8, 0#8, 0#8, 0#8, 0#8, 0#8, 0#8, 0#8, 0#8, 0#8, 0#8, 0#8, 0#8, 0#8, 0#8, 0#8, 0#8, 0#8, 0#8, 0#8, 0#8, 0#8, 0#8, 0#8, 0#8, 0#8, 0#8, 0#8, 0#8, 0#8, 0#8, 0#8]) (5#64) 23 [104#8, 105#8] 3).drop 5).take (((rsT (dkS [1#8, 0#8, 0#8, 0#8, 0#8, 0#8, 0#8, 0#8, 0#8, 0#8, 0#8, 0#8, 0#8, 0#8, 0#8, 0#8, 0#8, 0#8, 0#8, 0#8, 0#8, 0#8, 0#8, 0#8, 0#8, 0#8, 0#8, 0#8, 0#8, 0#8, 0#8, 0#8]) (dvS [1#8, 0#8, 0#8, 0#8, 0#8, 0#8, 0#8, 0#8, 0#8, 0#8, 0#8, 0#8, 0#8, 0#8, 0#8, 0#8, 0#8, 0#8, 0#8, 0#8, 0#8, 0#8, 0#8, 0#8, 0#8, 0#8, 0#8, 0#8, 0#8, 0#8, 0#8, 0#8]) (5#64) 23 [104#8, 105#8] 3).length) - 5))) (nb := (((rsT (dkS [1#8, 0#8, 0#8, 0#8, 0#8, 0#8, 0#8, 0#8, 0#8, 0#8, 0#8, 0#8, 0#8, 0#8, 0#8, 0#8, 0#8, 0#8, 0#8, 0#8, 0#8, 0#8, 0#8, 0#8, 0#8, 0#8, 0#8, 0#8, 0#8, 0#8, 0#8, 0#8]) (dvS [1#8, 0#8, 0#8, 0#8, 0#8, 0#8, 0#8, 0#8, 0#8, 0#8, 0#8, 0#8, 0#8, 0#8, 0#8, 0#8, 0#8, 0#8, 0#8, 0#8, 0#8, 0#8, 0#8, 0#8, 0#8, 0#8, 0#8, 0#8, 0#8, 0#8, 0#8, 0#8]) (5#64) 23 [104#8, 105#8] 3).length) - 5)) (Ab := (cut A20 5 c20 1)) (cb := (c20 - 5)) (bb := b20) (qb := (0 + 5)) LN LN LN (fun h => cut_addr1 ((fun h => g20a (by omega)) (by omega)) (by omega)) OG OG) (by rintro _ _ ⟨A30, b30, c30, r30, m30, g30a, g30b, rfl, rfl⟩; rfl) ?_)
 rintro _ _ ⟨A30, b30, c30, r30, m30, g30a, g30b, rfl, rfl⟩
 refine At.forgetM 30 rfl ?_
 refine At.wp (some 26) (P_move rfl rfl) ?_
 refine At.wp (some 31) (P_extract rfl rfl rfl) ?_
 refine At.wp (some 32) (P_extract rfl rfl rfl) ?_
 refine At.wp (some 33) (P_extract rfl rfl rfl) ?_
 refine At.wp (some 6) (P_assign rfl rfl) ?_
 refine At.wp (some 7) (P_assign rfl rfl) ?_
 refine At.wqn ?_
 refine At.wt rfl ?_
 refine At.p (some 8) (P_assign rfl rfl) ?_
 refine At.nil ?_
 refine At.next ?_
 refine At.seq ?_
 refine At.region ?_
 refine At.p (some 34) (P_move rfl rfl) ?_
 refine At.p (some 35) (P_cmp rfl rfl rfl rfl rfl rfl) ?_
 refine At.p (some 36) (P_move rfl rfl) ?_
 refine At.gy (t := 36) rfl (by first | rfl | exact beq_iff_eq.2 u1 | exact beq_iff_eq.2 u3 | exact beq_iff_eq.2 u5 | exact beq_iff_eq.2 u6 | exact decide_eq_true u2 | exact decide_eq_true u7 | (simp; done)) rfl rfl ?_
 refine At.p (some 37) (P_move rfl rfl) ?_
 refine At.gy (t := 36) rfl (by first | rfl | exact beq_iff_eq.2 u1 | exact beq_iff_eq.2 u3 | exact beq_iff_eq.2 u5 | exact beq_iff_eq.2 u6 | exact decide_eq_true u2 | exact decide_eq_true u7 | (simp; done)) rfl rfl ?_
 refine At.q (some 38) (Q_strA (l := (rpT 21 [1#8, 0#8])) (n := ((rpT 21 [1#8, 0#8]).length)) (k := 11) LN rfl Tryd.underlying29 Tryd.underlying5 Tryd.underlying9 rfl (fun h => g11a (by omega)) (fun _ => ⟨rfl, rfl, rfl⟩)) ?_
 refine At.gy (t := 36) rfl (by first | rfl | exact beq_iff_eq.2 u1 | exact beq_iff_eq.2 u3 | exact beq_iff_eq.2 u5 | exact beq_iff_eq.2 u6 | exact decide_eq_true u2 | exact decide_eq_true u7 | (simp; done)) rfl rfl ?_
 refine At.p (some 39) (P_eql_str (a := (rpT 21 [1#8, 0#8])) (b := [21#8, 3#8, 3#8, 0#8, 2#8, 1#8, 0#8]) rfl rfl rfl) ?_
 refine At.p (some 40) (P_pick_t rfl rfl (by first | rfl | exact beq_iff_eq.2 u1 | exact beq_iff_eq.2 u3 | exact beq_iff_eq.2 u5 | exact beq_iff_eq.2 u6 | exact decide_eq_true u2 | exact decide_eq_true u7 | (simp; done)) rfl) ?_
 refine At.p (some 41) (P_move rfl rfl) ?_
 refine At.gy (t := 41) rfl (by first | rfl | exact beq_iff_eq.2 u1 | exact beq_iff_eq.2 u3 | exact beq_iff_eq.2 u5 | exact beq_iff_eq.2 u6 | exact decide_eq_true u2 | exact decide_eq_true u7 | (simp; done)) rfl rfl ?_
 refine At.p (some 42) (P_move rfl rfl) ?_
 refine At.gy (t := 41) rfl (by first | rfl | exact beq_iff_eq.2 u1 | exact beq_iff_eq.2 u3 | exact beq_iff_eq.2 u5 | exact beq_iff_eq.2 u6 | exact decide_eq_true u2 | exact decide_eq_true u7 | (simp; done)) rfl rfl ?_
 refine At.p (some 43) (P_cmp rfl rfl rfl rfl rfl rfl) ?_
 refine At.p (some 44) (P_pick_t rfl rfl (by first | rfl | exact beq_iff_eq.2 u1 | exact beq_iff_eq.2 u3 | exact beq_iff_eq.2 u5 | exact beq_iff_eq.2 u6 | exact decide_eq_true u2 | exact decide_eq_true u7 | (simp; done)) rfl) ?_
 refine At.p (some 45) (P_move rfl rfl) ?_
 refine At.gy (t := 45) rfl (by first | rfl | exact beq_iff_eq.2 u1 | exact beq_iff_eq.2 u3 | exact beq_iff_eq.2 u5 | exact beq_iff_eq.2 u6 | exact decide_eq_true u2 | exact decide_eq_true u7 | (simp; done)) rfl rfl ?_
 refine At.p (some 46) (P_move rfl rfl) ?_
 refine At.gy (t := 45) rfl (by first | rfl | exact beq_iff_eq.2 u1 | exact beq_iff_eq.2 u3 | exact beq_iff_eq.2 u5 | exact beq_iff_eq.2 u6 | exact decide_eq_true u2 | exact decide_eq_true u7 | (simp; done)) rfl rfl ?_
 refine At.p (some 47) (P_cmp rfl rfl rfl rfl rfl rfl) ?_
 refine At.p (some 48) (P_pick_t rfl rfl (by first | rfl | exact beq_iff_eq.2 u1 | exact beq_iff_eq.2 u3 | exact beq_iff_eq.2 u5 | exact beq_iff_eq.2 u6 | exact decide_eq_true u2 | exact decide_eq_true u7 | (simp; done)) rfl) ?_
 refine At.p (some 49) (P_move rfl rfl) ?_
 refine At.gy (t := 49) rfl (by first | rfl | exact beq_iff_eq.2 u1 | exact beq_iff_eq.2 u3 | exact beq_iff_eq.2 u5 | exact beq_iff_eq.2 u6 | exact decide_eq_true u2 | exact decide_eq_true u7 | (simp; done)) rfl rfl ?_
 refine At.p (some 50) (P_move rfl rfl) ?_
 refine At.gy (t := 49) rfl (by first | rfl | exact beq_iff_eq.2 u1 | exact beq_iff_eq.2 u3 | exact beq_iff_eq.2 u5 | exact beq_iff_eq.2 u6 | exact decide_eq_true u2 | exact decide_eq_true u7 | (simp; done)) rfl rfl ?_
 refine At.p (some 51) (P_cmp rfl rfl rfl rfl rfl rfl) ?_
 refine At.p (some 52) (P_pick_t rfl rfl (by first | rfl | exact beq_iff_eq.2 u1 | exact beq_iff_eq.2 u3 | exact beq_iff_eq.2 u5 | exact beq_iff_eq.2 u6 | exact decide_eq_true u2 | exact decide_eq_true u7 | (simp; done)) rfl) ?_
 refine At.p (some 53) (P_move rfl rfl) ?_
 refine At.gy (t := 53) rfl (by first | rfl | exact beq_iff_eq.2 u1 | exact beq_iff_eq.2 u3 | exact beq_iff_eq.2 u5 | exact beq_iff_eq.2 u6 | exact decide_eq_true u2 | exact decide_eq_true u7 | (simp; done)) rfl rfl ?_
 refine At.p (some 54) (P_move rfl rfl) ?_
 refine At.gy (t := 53) rfl (by first | rfl | exact beq_iff_eq.2 u1 | exact beq_iff_eq.2 u3 | exact beq_iff_eq.2 u5 | exact beq_iff_eq.2 u6 | exact decide_eq_true u2 | exact decide_eq_true u7 | (simp; done)) rfl rfl ?_
 refine At.q (some 55) (Q_strA (l := (roT (dkS [1#8, 0#8, 0#8, 0#8, 0#8, 0#8, 0#8, 0#8, 0#8, 0#8, 0#8, 0#8, 0#8, 0#8, 0#8, 0#8, 0#8, 0#8, 0#8, 0#8, 0#8, 0#8, 0#8, 0#8, 0#8, 0#8, 0#8, 0#8, 0#8, 0#8, 0#8, 0#8]) (dvS [1#8, 0#8, 0#8, 0#8, 0#8, 0#8, 0#8, 0#8, 0#8, 0#8, 0#8, 0#8, 0#8, 0#8, 0#8, 0#8, 0#8, 0#8, 0#8, 0#8, 0#8, 0#8, 0#8, 0#8, 0#8, 0#8, 0#8, 0#8, 0#8, 0#8, 0#8, 0#8]) (5#64) (((rsT (dkS [1#8, 0#8, 0#8, 0#8, 0#8, 0#8, 0#8, 0#8, 0#8, 0#8, 0#8, 0#8, 0#8, 0#8, 0#8, 0#8, 0#8, 0#8, 0#8, 0#8, 0#8, 0#8, 0#8, 0#8, 0#8, 0#8, 0#8, 0#8, 0#8, 0#8, 0#8, 0#8]) (dvS [1#8, 0#8, 0#8, 0#8, 0#8, 0#8, 0#8, 0#8, 0#8, 0#8, 0#8, 0#8, 0#8, 0#8, 0#8, 0#8, 0#8, 0#8, 0#8, 0#8, 0#8, 0#8, 0#8, 0#8, 0#8, 0#8, 0#8, 0#8, 0#8, 0#8, 0#8, 0#8]) (5#64) 23 [104#8, 105#8] 3).drop 5).take (((rsT (dkS [1#8, 0#8, 0#8, 0#8, 0#8, 0#8, 0#8, 0#8, 0#8, 0#8, 0#8, 0#8, 0#8, 0#8, 0#8, 0#8, 0#8, 0#8, 0#8, 0#8, 0#8, 0#8, 0#8, 0#8, 0#8, 0#8, 0#8, 0#8, 0#8, 0#8, 0#8, 0#8]) (dvS [1#8, 0#8, 0#8, 0#8, 0#8, 0#8, 0#8, 0#8, 0#8, 0#8, 0#8, 0#8, 0#8, 0#8, 0#8, 0#8, 0#8, 0#8, 0#8, 0#8, 0#8, 0#8, 0#8, 0#8, 0#8, 0#8, 0#8, 0#8, 0#8, 0#8, 0#8, 0#8]) (5#64) 23 [104#8, 105#8] 3).length) - 5)))) (n := ((roT (dkS [1#8, 0#8, 0#8, 0#8, 0#8, 0#8, 0#8, 0#8, 0#8, 0#8, 0#8, 0#8, 0#8, 0#8, 0#8, 0#8, 0#8, 0#8, 0#8, 0#8, 0#8, 0#8, 0#8, 0#8, 0#8, 0#8, 0#8, 0#8, 0#8, 0#8, 0#8, 0#8]) (dvS [1#8, 0#8, 0#8, 0#8, 0#8, 0#8, 0#8, 0#8, 0#8, 0#8, 0#8, 0#8, 0#8, 0#8, 0#8, 0#8, 0#8, 0#8, 0#8, 0#8, 0#8, 0#8, 0#8, 0#8, 0#8, 0#8, 0#8, 0#8, 0#8, 0#8, 0#8, 0#8]) (5#64) (((rsT (dkS [1#8, 0#8, 0#8, 0#8, 0#8, 0#8, 0#8, 0#8, 0#8, 0#8, 0#8, 0#8, 0#8, 0#8, 0#8, 0#8, 0#8, 0#8, 0#8, 0#8, 0#8, 0#8, 0#8, 0#8, 0#8, 0#8, 0#8, 0#8, 0#8, 0#8, 0#8, 0#8]) (dvS [1#8, 0#8, 0#8, 0#8, 0#8, 0#8, 0#8, 0#8, 0#8, 0#8, 0#8, 0#8, 0#8, 0#8, 0#8, 0#8, 0#8, 0#8, 0#8, 0#8, 0#8, 0#8, 0#8, 0#8, 0#8, 0#8, 0#8, 0#8, 0#8, 0#8, 0#8, 0#8]) (5#64) 23 [104#8, 105#8] 3).drop 5).take (((rsT (dkS [1#8, 0#8, 0#8, 0#8, 0#8, 0#8, 0#8, 0#8, 0#8, 0#8, 0#8, 0#8, 0#8, 0#8, 0#8, 0#8, 0#8, 0#8, 0#8, 0#8, 0#8, 0#8, 0#8, 0#8, 0#8, 0#8, 0#8, 0#8, 0#8, 0#8, 0#8, 0#8]) (dvS [1#8, 0#8, 0#8, 0#8, 0#8, 0#8, 0#8, 0#8, 0#8, 0#8, 0#8, 0#8, 0#8, 0#8, 0#8, 0#8, 0#8, 0#8, 0#8, 0#8, 0#8, 0#8, 0#8, 0#8, 0#8, 0#8, 0#8, 0#8, 0#8, 0#8, 0#8, 0#8]) (5#64) 23 [104#8, 105#8] 3).length) - 5))).length)) (k := 30) LN rfl Tryd.underlying29 Tryd.underlying5 Tryd.underlying9 rfl g30a (fun _ => ⟨rfl, rfl, rfl⟩)) ?_
 refine At.gy (t := 53) rfl (by first | rfl | exact beq_iff_eq.2 u1 | exact beq_iff_eq.2 u3 | exact beq_iff_eq.2 u5 | exact beq_iff_eq.2 u6 | exact decide_eq_true u2 | exact decide_eq_true u7 | (simp; done)) rfl rfl ?_
 refine At.p (some 56) (P_eql_str (a := (roT (dkS [1#8, 0#8, 0#8, 0#8, 0#8, 0#8, 0#8, 0#8, 0#8, 0#8, 0#8, 0#8, 0#8, 0#8, 0#8, 0#8, 0#8, 0#8, 0#8, 0#8, 0#8, 0#8, 0#8, 0#8, 0#8, 0#8, 0#8, 0#8, 0#8, 0#8, 0#8, 0#8]) (dvS [1#8, 0#8, 0#8, 0#8, 0#8, 0#8, 0#8, 0#8, 0#8, 0#8, 0#8, 0#8, 0#8, 0#8, 0#8, 0#8, 0#8, 0#8, 0#8, 0#8, 0#8, 0#8, 0#8, 0#8, 0#8, 0#8, 0#8, 0#8, 0#8, 0#8, 0#8, 0#8]) (5#64) (((rsT (dkS [1#8, 0#8, 0#8, 0#8, 0#8, 0#8, 0#8, 0#8, 0#8, 0#8, 0#8, 0#8, 0#8, 0#8, 0#8, 0#8, 0#8, 0#8, 0#8, 0#8, 0#8, 0#8, 0#8, 0#8, 0#8, 0#8, 0#8, 0#8, 0#8, 0#8, 0#8, 0#8]) (dvS [1#8, 0#8, 0#8, 0#8, 0#8, 0#8, 0#8, 0#8, 0#8, 0#8, 0#8, 0#8, 0#8, 0#8, 0#8, 0#8, 0#8, 0#8, 0#8, 0#8, 0#8, 0#8, 0#8, 0#8, 0#8, 0#8, 0#8, 0#8, 0#8, 0#8, 0#8, 0#8]) (5#64) 23 [104#8, 105#8] 3).drop 5).take (((rsT (dkS [1#8, 0#8, 0#8, 0#8, 0#8, 0#8, 0#8, 0#8, 0#8, 0#8, 0#8, 0#8, 0#8, 0#8, 0#8, 0#8, 0#8, 0#8, 0#8, 0#8, 0#8, 0#8, 0#8, 0#8, 0#8, 0#8, 0#8, 0#8, 0#8, 0#8, 0#8, 0#8]) (dvS [1#8, 0#8, 0#8, 0#8, 0#8, 0#8, 0#8, 0#8, 0#8, 0#8, 0#8, 0#8, 0#8, 0#8, 0#8, 0#8, 0#8, 0#8, 0#8, 0#8, 0#8, 0#8, 0#8, 0#8, 0#8, 0#8, 0#8, 0#8, 0#8, 0#8, 0#8, 0#8]) (5#64) 23 [104#8, 105#8] 3).length) - 5)))) (b := [104#8, 105#8]) rfl rfl rfl) ?_
 refine At.p (some 57) (P_pick_t rfl rfl (by first | rfl | exact beq_iff_eq.2 u1 | exact beq_iff_eq.2 u3 | exact beq_iff_eq.2 u5 | exact beq_iff_eq.2 u6 | exact decide_eq_true u2 | exact decide_eq_true u7 | (simp; done)) rfl) ?_
 refine At.p (some 0) (P_assign rfl rfl) ?_
 refine At.nil ?_
 refine At.next ?_
 refine At.ret ?_
 have hq0 : (decide ((roT (dkS [1#8, 0#8, 0#8, 0#8, 0#8, 0#8, 0#8, 0#8, 0#8, 0#8, 0#8, 0#8, 0#8, 0#8, 0#8, 0#8, 0#8, 0#8, 0#8, 0#8, 0#8, 0#8, 0#8, 0#8, 0#8, 0#8, 0#8, 0#8, 0#8, 0#8, 0#8, 0#8]) (dvS [1#8, 0#8, 0#8, 0#8, 0#8, 0#8, 0#8, 0#8, 0#8, 0#8, 0#8, 0#8, 0#8, 0#8, 0#8, 0#8, 0#8, 0#8, 0#8, 0#8, 0#8, 0#8, 0#8, 0#8, 0#8, 0#8, 0#8, 0#8, 0#8, 0#8, 0#8, 0#8]) (5#64) (((rsT (dkS [1#8, 0#8, 0#8, 0#8, 0#8, 0#8, 0#8, 0#8, 0#8, 0#8, 0#8, 0#8, 0#8, 0#8, 0#8, 0#8, 0#8, 0#8, 0#8, 0#8, 0#8, 0#8, 0#8, 0#8, 0#8, 0#8, 0#8, 0#8, 0#8, 0#8, 0#8, 0#8]) (dvS [1#8, 0#8, 0#8, 0#8, 0#8, 0#8, 0#8, 0#8, 0#8, 0#8, 0#8, 0#8, 0#8, 0#8, 0#8, 0#8, 0#8, 0#8, 0#8, 0#8, 0#8, 0#8, 0#8, 0#8, 0#8, 0#8, 0#8, 0#8, 0#8, 0#8, 0#8, 0#8]) (5#64) 23 [104#8, 105#8] 3).drop 5).take (((rsT (dkS [1#8, 0#8, 0#8, 0#8, 0#8, 0#8, 0#8, 0#8, 0#8, 0#8, 0#8, 0#8, 0#8, 0#8, 0#8, 0#8, 0#8, 0#8, 0#8, 0#8, 0#8, 0#8, 0#8, 0#8, 0#8, 0#8, 0#8, 0#8, 0#8, 0#8, 0#8, 0#8]) (dvS [1#8, 0#8, 0#8, 0#8, 0#8, 0#8, 0#8, 0#8, 0#8, 0#8, 0#8, 0#8, 0#8, 0#8, 0#8, 0#8, 0#8, 0#8, 0#8, 0#8, 0#8, 0#8, 0#8, 0#8, 0#8, 0#8, 0#8, 0#8, 0#8, 0#8, 0#8, 0#8]) (5#64) 23 [104#8, 105#8] 3).length) - 5))) = [104#8, 105#8])) = true := (by first | rfl | exact beq_iff_eq.2 u1 | exact beq_iff_eq.2 u3 | exact beq_iff_eq.2 u5 | exact beq_iff_eq.2 u6 | exact decide_eq_true u2 | exact decide_eq_true u7 | (simp; done))
 refine At.give (.inl rfl) [] (rows' := []) (vs := [_]) rfl ⟨rfl, trivial⟩ rfl (by simp) (by simp) ⟨(by first | (rw [hq0]; try rfl; done) | (rw [← hq0]; try rfl; done) | (simp only [hq0]; try rfl; done) | (simp only [← hq0]; try rfl; done) | rfl), (by first | (rw [hq0]; try rfl; done) | (rw [← hq0]; try rfl; done) | (simp only [hq0]; try rfl; done) | (simp only [← hq0]; try rfl; done) | rfl)⟩

set_option maxHeartbeats 2000000 in
theorem l_Parts {txt : List (BitVec 8)} {Atxt : Option Addr} {ntxt ctxt btxt qtxt : Nat} {more : Int} (hntxt : txt.length = ntxt) (hAtxt : 0 < ntxt → Atxt = some ⟨btxt, qtxt, none⟩) (hctxt : ntxt ≤ ctxt) :
  Con Tryd.prog 8 [.slice Atxt ntxt ctxt, iV more] [pRow btxt qtxt txt] (fun v rs => v = .bool true ∧ rs = []) := by
 refine Con.enter Tryd.func8 Tryd.ntmps8 (Nat.le_of_ble_eq_true rfl) rfl fun w => ?_
 refine At.seq ?_
 refine At.region ?_
 refine At.p (some 4) (P_assign rfl rfl) ?_
 refine At.nil ?_
 refine At.next ?_
 refine At.seq ?_
 refine At.region ?_
 refine At.s (S_buildSlice0 (some 8) 8 rfl Tryd.underlying29 sz5 (fun b8 => ?_))
 refine At.p (some 9) (P_move rfl rfl) ?_
 refine At.p (some 10) (P_move rfl rfl) ?_
 refine At.p (some 11) (P_len_sl rfl rfl ⟨_, Tryd.underlying29⟩ rfl) ?_
 refine At.p (some 12) (P_min2 rfl rfl rfl rfl) ?_
 refine At.p (some 13) (P_slice_sl (l := 0) (h := (min ntxt 300)) (m := ctxt) rfl Tryd.underlying29 sz5 rfl rfl ⟨_, _, rfl, by omega⟩ rfl DO DO DO) ?_
 refine At.s (S_appendM (some 14) 8 ((txt.take ((min ntxt 300) - 0))) (f := u8V) (l := []) (L := (txt.take ((min ntxt 300) - 0))) (m := ((min ntxt 300) - 0)) rfl Tryd.underlying29 Tryd.underlying29 (.inr ⟨_, rfl⟩) sz5 by5 ze5 rfl rfl (fun h => ⟨rfl, rfl⟩) LN OG (Src.part (k := 0) (j := 0) (l := txt) rfl (fun h => cut_zero (hAtxt (by omega))) (fun _ => ⟨rfl, rfl, (Nat.add_zero _)⟩) OG) (fun _ => rfl) OG OG rfl LN ?_)
 intro A14 b14 c14 g14a g14b
 refine At.p (some 15) (P_move rfl rfl) ?_
 refine At.p (some 16) (P_conv_iw UK.u64 rfl Tryd.underlying3 Tryd.underlying26 rfl) ?_
 refine At.p (some 17) (P_rem_w UK.u64 (b := 900#64) rfl rfl rfl (by decide)) ?_
 obtain ⟨k18, hk18, hek18, hdk18⟩ := umod_c ((BitVec.ofInt 64 more)) 900#64 (by decide) (by decide)
 have hk18 : k18 < 900 := hk18
 refine At.p (some 18) (P_conv_WiE hek18 rfl Tryd.underlying26 Tryd.underlying3 rfl) ?_
 refine At.s (S_appendZ (some 19) 8 (((txt.take ((min ntxt 300) - 0)) ++ List.replicate k18 0#8)) (0#8) (f := u8V) (l := (txt.take ((min ntxt 300) - 0))) (m := k18) rfl Tryd.underlying29 Tryd.underlying3 sz5 by5 ze5 rfl rfl (fun h => ⟨g14a h, rfl⟩) LN OG rfl RO (fun _ => rfl) OG OG rfl ?_)
 intro A19 b19 c19 g19a g19b
 refine At.p (some 0) (P_assign rfl rfl) ?_
 refine At.nil ?_
 refine At.next ?_
 refine At.seq ?_
 refine At.region ?_
 refine At.p (some 20) (P_move rfl rfl) ?_
 refine At.s (S_callRF (some 21) [] [(8, _)] [21] 100000 (vs := [_]) rfl en26 rfl O0 (by simp) (VN (by simp) rfl View.all V0) (by simp) rfl (c_Parts (b := ((txt.take ((min ntxt 300) - 0)) ++ List.replicate k18 0#8)) (nb := (((txt.take ((min ntxt 300) - 0)) ++ List.replicate k18 0#8).length)) (Ab := A19) (cb := c19) (bb := b19) (qb := 0) LN (fun h => g19a (by omega)) OG OG) (by rintro _ _ ⟨_, _, _, _, _, _, _, _, rfl, rfl⟩; simp) ?_)
 rintro _ _ ⟨es, A21, b21, c21, g21a, g21b, hes, hp, rfl, rfl⟩
 rw [sets_famB rfl]
 have hTl : ((txt.take ((min ntxt 300) - 0)) ++ List.replicate k18 0#8).length = min ntxt 300 + k18 := by rw [List.length_append, List.length_take, List.length_replicate]; omega
 have hel : es.length = (((txt.take ((min ntxt 300) - 0)) ++ List.replicate k18 0#8).length + 256 - 1) / 256 := by have h9 := congrArg List.length hp; rwa [List.length_map, partsS, partsTo_len] at h9
 refine At.p (some 5) (P_assign rfl rfl) ?_
 refine At.nil ?_
 refine At.next ?_
 refine At.seq ?_
 refine At.region ?_
 refine At.p (some 6) (P_assign rfl rfl) ?_
 refine At.nil ?_
 refine At.next ?_
 refine At.seq ?_
 refine At.seq ?_
 refine At.region ?_
 refine At.p (some 7) (P_assign rfl rfl) ?_
 refine At.nil ?_
 refine At.next ?_
 refine At.block ?_
 refine At.loopx (I := fun m fr H => ∃ (i : Nat), m = es.length - i ∧ fr = frOf [(0, .slice A19 (((txt.take ((min ntxt 300) - 0)) ++ List.replicate k18 0#8).length) c19), (1, iV more), (5, .slice A21 es.length c21), (6, strV (((txt.take ((min ntxt 300) - 0)) ++ List.replicate k18 0#8).take (i * 256))), (7, iV (i : Int)), (8, .slice (some ⟨b8, 0, none⟩) 0 0), (9, .slice Atxt ntxt ctxt), (10, .slice Atxt ntxt ctxt), (11, iV (ntxt : Int)), (12, iV (min (ntxt : Int) 300)), (13, .slice (cut Atxt 0 ctxt 1) ((min ntxt 300) - 0) (ctxt - 0)), (14, .slice A14 ((txt.take ((min ntxt 300) - 0)).length) c14), (15, iV more), (16, u64V (BitVec.ofInt 64 more)), (17, u64V ((BitVec.ofInt 64 more) % 900#64)), (18, iV (k18 : Int)), (19, .slice A19 (((txt.take ((min ntxt 300) - 0)) ++ List.replicate k18 0#8).length) c19), (20, .slice A19 (((txt.take ((min ntxt 300) - 0)) ++ List.replicate k18 0#8).length) c19), (21, .slice A21 es.length c21)] ∧ H = famsOf (hOf [(0, pRow btxt qtxt txt), (8, ⟨true, b19, 0, 5, (((txt.take ((min ntxt 300) - 0)) ++ List.replicate k18 0#8)).map u8V, c19 - (((txt.take ((min ntxt 300) - 0)) ++ List.replicate k18 0#8)).length⟩), (21, ⟨true, b21, 0, 29, (es).map BE.v, c21 - (es).length⟩)]) [famB 100000 5 es] ∧ (i ≤ es.length)) ?_ ?_
 ·
  intro Kc0 hKc0
  refine At.toM [(0, _), (1, _), (5, _), (6, strV (((txt.take ((min ntxt 300) - 0)) ++ List.replicate k18 0#8).take (0 * 256))), (7, _), (8, _), (9, _), (10, _), (11, _), (12, _), (13, _), (14, _), (15, _), (16, _), (17, _), (18, _), (19, _), (20, _), (21, _)] [(0, _), (8, _), (21, _)] [famB 100000 5 es] (AllL.cons_ (rfl) (AllL.cons_ (rfl) (AllL.cons_ (rfl) (AllL.cons_ ((by rw [Nat.zero_mul]; rfl)) (AllL.cons_ (rfl) (AllL.cons_ (rfl) (AllL.cons_ (rfl) (AllL.cons_ (rfl) (AllL.cons_ (rfl) (AllL.cons_ (rfl) (AllL.cons_ (rfl) (AllL.cons_ (rfl) (AllL.cons_ (rfl) (AllL.cons_ (rfl) (AllL.cons_ (rfl) (AllL.cons_ (rfl) (AllL.cons_ (rfl) (AllL.cons_ (rfl) (AllL.cons_ (rfl) trivial))))))))))))))))))) (AllL.cons_ (rfl) (AllL.cons_ (rfl) (AllL.cons_ (rfl) trivial))) (AllL.cons_ FK trivial) ?_
  exact hKc0 _ _ _ ⟨0, rfl, rfl, rfl, (by omega)⟩
 ·
  rintro m fr H ⟨i, rfl, rfl, rfl, hi⟩ Kc0 hKc0
  refine At.seq ?_
  refine At.seq ?_
  refine At.region ?_
  refine At.p (some 22) (P_move rfl rfl) ?_
  refine At.p (some 23) (P_move rfl rfl) ?_
  refine At.p (some 24) (P_len_sl rfl rfl ⟨_, Tryd.underlying58⟩ rfl) ?_
  refine At.p (some 25) (P_cmp rfl rfl rfl rfl rfl rfl) ?_
  refine At.nil ?_
  refine At.next ?_
  refine At.cond rfl (fun h25 => ?_) (fun h25 => ?_)
  · -- cond 25 t
   have e25 : (i : Int) < (es.length : Int) := of_decide_eq_true h25
   have hla := parts_at hp (i := i) (by omega)
   have hlb : (es.getD i default).l.length = min 256 (((txt.take ((min ntxt 300) - 0)) ++ List.replicate k18 0#8).length - i * 256) := by rw [hla, List.length_take, List.length_drop]
   have hlc := congrArg List.length hp
   refine At.skip ?_
   refine At.next ?_
   refine At.seq ?_
   refine At.block ?_
   refine At.seq ?_
   refine At.seq ?_
   refine At.region ?_
   refine At.p (some 28) (P_move rfl rfl) ?_
   refine At.p (some 29) (P_move rfl rfl) ?_
   refine At.p (some 30) (P_indexAddr_slz (b := b21) (j := i) rfl Tryd.underlying58 sz29 rfl ((fun h => g21a (by omega)) OG) rfl RO OG) ?_
   have hok31 : BE.ok (es.getD i default) := hes _ (getD_mem OG)
   refine At.q (some 31) (Q_loadM (k := 21) (f := BE.v) (l := es) ((default : BE)) rfl rfl Tryd.underlying29 rfl rfl OG) ?_
   refine At.p (some 32) (P_len_sl rfl rfl ⟨_, Tryd.underlying29⟩ rfl) ?_
   refine At.p (some 33) (P_cmp rfl rfl rfl rfl rfl rfl) ?_
   refine At.p (some 34) (P_move rfl rfl) ?_
   refine At.gy (t := 34) rfl (by first | exact beq_eq_false_iff_ne.2 (by omega) | exact decide_eq_false (by omega)) rfl rfl ?_
   refine At.p (some 35) (P_move rfl rfl) ?_
   refine At.gy (t := 34) rfl (by first | exact beq_eq_false_iff_ne.2 (by omega) | exact decide_eq_false (by omega)) rfl rfl ?_
   refine At.p (some 36) (P_move rfl rfl) ?_
   refine At.gy (t := 34) rfl (by first | exact beq_eq_false_iff_ne.2 (by omega) | exact decide_eq_false (by omega)) rfl rfl ?_
   refine At.p (some 37) (P_indexAddr_slz (b := b21) (j := i) rfl Tryd.underlying58 sz29 rfl ((fun h => g21a (by omega)) OG) rfl RO OG) ?_
   refine At.gy (t := 34) rfl (by first | exact beq_eq_false_iff_ne.2 (by omega) | exact decide_eq_false (by omega)) rfl rfl ?_
   have hok38 : BE.ok (es.getD i default) := hes _ (getD_mem OG)
   refine At.q (some 38) (Q_loadM (k := 21) (f := BE.v) (l := es) ((default : BE)) rfl rfl Tryd.underlying29 rfl rfl OG) ?_
   refine At.gy (t := 34) rfl (by first | exact beq_eq_false_iff_ne.2 (by omega) | exact decide_eq_false (by omega)) rfl rfl ?_
   refine At.p (some 39) (P_len_sl rfl rfl ⟨_, Tryd.underlying29⟩ rfl) ?_
   refine At.gy (t := 34) rfl (by first | exact beq_eq_false_iff_ne.2 (by omega) | exact decide_eq_false (by omega)) rfl rfl ?_
   refine At.p (some 40) (P_cmp rfl rfl rfl rfl rfl rfl) ?_
   refine At.p (some 41) (P_pick_f rfl rfl (by first | exact beq_eq_false_iff_ne.2 (by omega) | exact decide_eq_false (by omega)) rfl) ?_
   refine At.p (some 42) (P_move rfl rfl) ?_
   refine At.gy (t := 42) rfl (by first | exact beq_eq_false_iff_ne.2 (by omega) | exact decide_eq_false (by omega)) rfl rfl ?_
   refine At.p (some 43) (P_move rfl rfl) ?_
   refine At.gy (t := 42) rfl (by first | exact beq_eq_false_iff_ne.2 (by omega) | exact decide_eq_false (by omega)) rfl rfl ?_
   refine At.p (some 44) (P_move rfl rfl) ?_
   refine At.gy (t := 42) rfl (by first | exact beq_eq_false_iff_ne.2 (by omega) | exact decide_eq_false (by omega)) rfl rfl ?_
   refine At.p (some 45) (P_len_sl rfl rfl ⟨_, Tryd.underlying58⟩ rfl) ?_
   refine At.gy (t := 42) rfl (by first | exact beq_eq_false_iff_ne.2 (by omega) | exact decide_eq_false (by omega)) rfl rfl ?_
   refine At.p (some 46) (P_sub_i rfl rfl rfl (by omega)) ?_
   refine At.gy (t := 42) rfl (by first | exact beq_eq_false_iff_ne.2 (by omega) | exact decide_eq_false (by omega)) rfl rfl ?_
   refine At.p (some 47) (P_cmp rfl rfl rfl rfl rfl rfl) ?_
   refine At.gy (t := 42) rfl (by first | exact beq_eq_false_iff_ne.2 (by omega) | exact decide_eq_false (by omega)) rfl rfl ?_
   refine At.p (some 48) (P_move rfl rfl) ?_
   refine At.gsplit (t := 48) (want := true) rfl (fun g1 => ?_) (fun g1 => ?_)
   ·
    have eg1 : (i : Int) < ((es.length : Int) - 1) := of_decide_eq_true g1
    refine At.gy (t := 48) rfl g1 rfl rfl ?_
    refine At.p (some 49) (P_move rfl rfl) ?_
    refine At.gy (t := 48) rfl g1 rfl rfl ?_
    refine At.p (some 50) (P_move rfl rfl) ?_
    refine At.gy (t := 48) rfl g1 rfl rfl ?_
    refine At.p (some 51) (P_indexAddr_slz (b := b21) (j := i) rfl Tryd.underlying58 sz29 rfl ((fun h => g21a (by omega)) OG) rfl RO OG) ?_
    refine At.gy (t := 48) rfl g1 rfl rfl ?_
    have hok52 : BE.ok (es.getD i default) := hes _ (getD_mem OG)
    refine At.q (some 52) (Q_loadM (k := 21) (f := BE.v) (l := es) ((default : BE)) rfl rfl Tryd.underlying29 rfl rfl OG) ?_
    refine At.gy (t := 48) rfl g1 rfl rfl ?_
    refine At.p (some 53) (P_len_sl rfl rfl ⟨_, Tryd.underlying29⟩ rfl) ?_
    refine At.gy (t := 48) rfl g1 rfl rfl ?_
    refine At.p (some 54) (P_cmp rfl rfl rfl rfl rfl rfl) ?_
    refine At.gy (t := 42) rfl (by first | exact beq_eq_false_iff_ne.2 (by omega) | exact decide_eq_false (by omega)) rfl rfl ?_
    refine At.p (some 55) (P_pick_t rfl rfl g1 rfl) ?_
    refine At.p (some 56) (P_pick_f rfl rfl (by first | exact beq_eq_false_iff_ne.2 (by omega) | exact decide_eq_false (by omega)) rfl) ?_
    refine At.nil ?_
    refine At.next ?_
    refine At.cond rfl (fun h56 => (by exfalso; have h9 := bne_iff_ne.1 h56; omega)) (fun h56 => ?_)
    have e56 : ((es.getD i default).l.length : Int) = 256 := bne_eq_false_iff_eq.1 h56
    refine At.skip ?_
    refine At.next ?_
    refine At.region ?_
    refine At.p (some 57) (P_move rfl rfl) ?_
    refine At.p (some 58) (P_move rfl rfl) ?_
    refine At.p (some 59) (P_move rfl rfl) ?_
    refine At.p (some 60) (P_indexAddr_slz (b := b21) (j := i) rfl Tryd.underlying58 sz29 rfl ((fun h => g21a (by omega)) OG) rfl RO OG) ?_
    have hok61 : BE.ok (es.getD i default) := hes _ (getD_mem OG)
    refine At.q (some 61) (Q_loadM (k := 21) (f := BE.v) (l := es) ((default : BE)) rfl rfl Tryd.underlying29 rfl rfl OG) ?_
    refine At.toM [(0, .slice A19 (((txt.take ((min ntxt 300) - 0)) ++ List.replicate k18 0#8).length) c19), (1, iV more), (5, .slice A21 es.length c21), (6, strV (((txt.take ((min ntxt 300) - 0)) ++ List.replicate k18 0#8).take (i * 256))), (7, iV (i : Int)), (8, .slice (some ⟨b8, 0, none⟩) 0 0), (9, .slice Atxt ntxt ctxt), (10, .slice Atxt ntxt ctxt), (11, iV (ntxt : Int)), (12, iV (min (ntxt : Int) 300)), (13, .slice (cut Atxt 0 ctxt 1) ((min ntxt 300) - 0) (ctxt - 0)), (14, .slice A14 ((txt.take ((min ntxt 300) - 0)).length) c14), (15, iV more), (16, u64V (BitVec.ofInt 64 more)), (17, u64V ((BitVec.ofInt 64 more) % 900#64)), (18, iV (k18 : Int)), (19, .slice A19 (((txt.take ((min ntxt 300) - 0)) ++ List.replicate k18 0#8).length) c19), (20, .slice A19 (((txt.take ((min ntxt 300) - 0)) ++ List.replicate k18 0#8).length) c19), (21, .slice A21 es.length c21), (22, iV (i : Int)), (23, .slice A21 es.length c21), (24, iV (es.length : Int)), (25, .bool (decide ((i : Int) < (es.length : Int)))), (28, .slice A21 es.length c21), (29, iV (i : Int)), (30, ptr b21 i), (31, .slice ((es.getD i default).A) ((es.getD i default).l.length) ((es.getD i default).c)), (32, iV ((es.getD i default).l.length : Int)), (33, .bool (((es.getD i default).l.length : Int) == 0)), (34, .bool (((es.getD i default).l.length : Int) == 0)), (35, .slice A21 es.length c21), (36, iV (i : Int)), (37, ptr b21 i), (38, .slice ((es.getD i default).A) ((es.getD i default).l.length) ((es.getD i default).c)), (39, iV ((es.getD i default).l.length : Int)), (40, .bool (decide (((es.getD i default).l.length : Int) > 256))), (41, .bool (decide (((es.getD i default).l.length : Int) > 256))), (42, .bool (decide (((es.getD i default).l.length : Int) > 256))), (43, iV (i : Int)), (44, .slice A21 es.length c21), (45, iV (es.length : Int)), (46, iV ((es.length : Int) - 1)), (47, .bool (decide ((i : Int) < ((es.length : Int) - 1)))), (48, .bool (decide ((i : Int) < ((es.length : Int) - 1)))), (49, .slice A21 es.length c21), (50, iV (i : Int)), (51, ptr b21 i), (52, .slice ((es.getD i default).A) ((es.getD i default).l.length) ((es.getD i default).c)), (53, iV ((es.getD i default).l.length : Int)), (54, .bool (((es.getD i default).l.length : Int) != 256)), (55, .bool (((es.getD i default).l.length : Int) != 256)), (56, .bool (((es.getD i default).l.length : Int) != 256)), (57, strV (((txt.take ((min ntxt 300) - 0)) ++ List.replicate k18 0#8).take (i * 256))), (58, .slice A21 es.length c21), (59, iV (i : Int)), (60, ptr b21 i), (61, .slice ((es.getD i default).A) ((es.getD i default).l.length) ((es.getD i default).c))] [(0, pRow btxt qtxt txt), (8, ⟨true, b19, 0, 5, (((txt.take ((min ntxt 300) - 0)) ++ List.replicate k18 0#8)).map u8V, c19 - (((txt.take ((min ntxt 300) - 0)) ++ List.replicate k18 0#8)).length⟩), (21, ⟨true, b21, 0, 29, (es).map BE.v, c21 - (es).length⟩)] [famB 100000 5 es] (AllL.cons_ rfl (AllL.cons_ rfl (AllL.cons_ rfl (AllL.cons_ rfl (AllL.cons_ rfl (AllL.cons_ rfl (AllL.cons_ rfl (AllL.cons_ rfl (AllL.cons_ rfl (AllL.cons_ rfl (AllL.cons_ rfl (AllL.cons_ rfl (AllL.cons_ rfl (AllL.cons_ rfl (AllL.cons_ rfl (AllL.cons_ rfl (AllL.cons_ rfl (AllL.cons_ rfl (AllL.cons_ rfl (AllL.cons_ rfl (AllL.cons_ rfl (AllL.cons_ rfl (AllL.cons_ rfl (AllL.cons_ rfl (AllL.cons_ rfl (AllL.cons_ rfl (AllL.cons_ rfl (AllL.cons_ rfl (AllL.cons_ rfl (AllL.cons_ rfl (AllL.cons_ rfl (AllL.cons_ rfl (AllL.cons_ rfl (AllL.cons_ rfl (AllL.cons_ rfl (AllL.cons_ rfl (AllL.cons_ rfl (AllL.cons_ rfl (AllL.cons_ rfl (AllL.cons_ rfl (AllL.cons_ rfl (AllL.cons_ rfl (AllL.cons_ rfl (AllL.cons_ rfl (AllL.cons_ rfl (AllL.cons_ rfl (AllL.cons_ rfl (AllL.cons_ rfl (AllL.cons_ rfl (AllL.cons_ rfl (AllL.cons_ rfl (AllL.cons_ rfl (AllL.cons_ rfl (AllL.cons_ rfl (AllL.cons_ rfl (AllL.cons_ rfl (AllL.cons_ rfl trivial))))))))))))))))))))))))))))))))))))))))))))))))))))))))) (AllL.cons_ rfl (AllL.cons_ rfl (AllL.cons_ rfl trivial))) (AllL.cons_ FK trivial) ?_
    refine At.famOut 70 (i := i) (by first | assumption | omega) (AllL.cons_ rfl (AllL.cons_ rfl (AllL.cons_ rfl trivial))) rfl trivial ?_
    refine At.q (some 62) (Q_strA (l := ((es.getD i default).l)) (n := ((es.getD i default).l.length)) (k := 70) LN rfl Tryd.underlying29 Tryd.underlying5 Tryd.underlying9 rfl (fun h => BE.adr hok61 (by omega)) (fun _ => ⟨rfl, rfl, rfl⟩)) ?_
    refine At.toM [(0, .slice A19 (((txt.take ((min ntxt 300) - 0)) ++ List.replicate k18 0#8).length) c19), (1, iV more), (5, .slice A21 es.length c21), (6, strV (((txt.take ((min ntxt 300) - 0)) ++ List.replicate k18 0#8).take (i * 256))), (7, iV (i : Int)), (8, .slice (some ⟨b8, 0, none⟩) 0 0), (9, .slice Atxt ntxt ctxt), (10, .slice Atxt ntxt ctxt), (11, iV (ntxt : Int)), (12, iV (min (ntxt : Int) 300)), (13, .slice (cut Atxt 0 ctxt 1) ((min ntxt 300) - 0) (ctxt - 0)), (14, .slice A14 ((txt.take ((min ntxt 300) - 0)).length) c14), (15, iV more), (16, u64V (BitVec.ofInt 64 more)), (17, u64V ((BitVec.ofInt 64 more) % 900#64)), (18, iV (k18 : Int)), (19, .slice A19 (((txt.take ((min ntxt 300) - 0)) ++ List.replicate k18 0#8).length) c19), (20, .slice A19 (((txt.take ((min ntxt 300) - 0)) ++ List.replicate k18 0#8).length) c19), (21, .slice A21 es.length c21), (22, iV (i : Int)), (23, .slice A21 es.length c21), (24, iV (es.length : Int)), (25, .bool (decide ((i : Int) < (es.length : Int)))), (28, .slice A21 es.length c21), (29, iV (i : Int)), (30, ptr b21 i), (31, .slice ((es.getD i default).A) ((es.getD i default).l.length) ((es.getD i default).c)), (32, iV ((es.getD i default).l.length : Int)), (33, .bool (((es.getD i default).l.length : Int) == 0)), (34, .bool (((es.getD i default).l.length : Int) == 0)), (35, .slice A21 es.length c21), (36, iV (i : Int)), (37, ptr b21 i), (38, .slice ((es.getD i default).A) ((es.getD i default).l.length) ((es.getD i default).c)), (39, iV ((es.getD i default).l.length : Int)), (40, .bool (decide (((es.getD i default).l.length : Int) > 256))), (41, .bool (decide (((es.getD i default).l.length : Int) > 256))), (42, .bool (decide (((es.getD i default).l.length : Int) > 256))), (43, iV (i : Int)), (44, .slice A21 es.length c21), (45, iV (es.length : Int)), (46, iV ((es.length : Int) - 1)), (47, .bool (decide ((i : Int) < ((es.length : Int) - 1)))), (48, .bool (decide ((i : Int) < ((es.length : Int) - 1)))), (49, .slice A21 es.length c21), (50, iV (i : Int)), (51, ptr b21 i), (52, .slice ((es.getD i default).A) ((es.getD i default).l.length) ((es.getD i default).c)), (53, iV ((es.getD i default).l.length : Int)), (54, .bool (((es.getD i default).l.length : Int) != 256)), (55, .bool (((es.getD i default).l.length : Int) != 256)), (56, .bool (((es.getD i default).l.length : Int) != 256)), (57, strV (((txt.take ((min ntxt 300) - 0)) ++ List.replicate k18 0#8).take (i * 256))), (58, .slice A21 es.length c21), (59, iV (i : Int)), (60, ptr b21 i), (61, .slice ((es.getD i default).A) ((es.getD i default).l.length) ((es.getD i default).c)), (62, strV ((es.getD i default).l))] [(70, ⟨true, (es.getD i default).b, 0, 5, ((es.getD i default).l).map u8V, (es.getD i default).c - (es.getD i default).l.length⟩), (0, pRow btxt qtxt txt), (8, ⟨true, b19, 0, 5, (((txt.take ((min ntxt 300) - 0)) ++ List.replicate k18 0#8)).map u8V, c19 - (((txt.take ((min ntxt 300) - 0)) ++ List.replicate k18 0#8)).length⟩), (21, ⟨true, b21, 0, 29, (es).map BE.v, c21 - (es).length⟩)] [famBut 100000 5 es i] (AllL.cons_ rfl (AllL.cons_ rfl (AllL.cons_ rfl (AllL.cons_ rfl (AllL.cons_ rfl (AllL.cons_ rfl (AllL.cons_ rfl (AllL.cons_ rfl (AllL.cons_ rfl (AllL.cons_ rfl (AllL.cons_ rfl (AllL.cons_ rfl (AllL.cons_ rfl (AllL.cons_ rfl (AllL.cons_ rfl (AllL.cons_ rfl (AllL.cons_ rfl (AllL.cons_ rfl (AllL.cons_ rfl (AllL.cons_ rfl (AllL.cons_ rfl (AllL.cons_ rfl (AllL.cons_ rfl (AllL.cons_ rfl (AllL.cons_ rfl (AllL.cons_ rfl (AllL.cons_ rfl (AllL.cons_ rfl (AllL.cons_ rfl (AllL.cons_ rfl (AllL.cons_ rfl (AllL.cons_ rfl (AllL.cons_ rfl (AllL.cons_ rfl (AllL.cons_ rfl (AllL.cons_ rfl (AllL.cons_ rfl (AllL.cons_ rfl (AllL.cons_ rfl (AllL.cons_ rfl (AllL.cons_ rfl (AllL.cons_ rfl (AllL.cons_ rfl (AllL.cons_ rfl (AllL.cons_ rfl (AllL.cons_ rfl (AllL.cons_ rfl (AllL.cons_ rfl (AllL.cons_ rfl (AllL.cons_ rfl (AllL.cons_ rfl (AllL.cons_ rfl (AllL.cons_ rfl (AllL.cons_ rfl (AllL.cons_ rfl (AllL.cons_ rfl (AllL.cons_ rfl (AllL.cons_ rfl trivial)))))))))))))))))))))))))))))))))))))))))))))))))))))))))) (AllL.cons_ rfl (AllL.cons_ rfl (AllL.cons_ rfl (AllL.cons_ rfl trivial)))) (AllL.cons_ FK trivial) ?_
    refine At.famIn (AllL.cons_ rfl (AllL.cons_ rfl (AllL.cons_ rfl trivial))) rfl trivial ?_
    refine At.p (some 63) (P_add_str (a := (((txt.take ((min ntxt 300) - 0)) ++ List.replicate k18 0#8).take (i * 256))) (b := ((es.getD i default).l)) rfl rfl rfl OG) ?_
    refine At.p (some 6) (P_assign rfl rfl) ?_
    refine At.nil ?_
    refine At.inb_n ?_
    refine At.next ?_
    refine At.region ?_
    refine At.p (some 26) (P_move rfl rfl) ?_
    refine At.p (some 27) (P_add_i rfl rfl rfl (by omega)) ?_
    refine At.p (some 7) (P_assign rfl rfl) ?_
    refine At.nil ?_
    refine At.next ?_
    refine At.toM [(0, _), (1, _), (5, _), (6, strV (((txt.take ((min ntxt 300) - 0)) ++ List.replicate k18 0#8).take ((i + 1) * 256))), (7, _), (8, _), (9, _), (10, _), (11, _), (12, _), (13, _), (14, _), (15, _), (16, _), (17, _), (18, _), (19, _), (20, _), (21, _)] [(0, _), (8, _), (21, _)] [famB 100000 5 es] (AllL.cons_ (rfl) (AllL.cons_ (rfl) (AllL.cons_ (rfl) (AllL.cons_ ((congrArg (fun z => some (strV z)) (by rw [hla, Nat.add_mul, Nat.one_mul, List.take_add]))) (AllL.cons_ (rfl) (AllL.cons_ (rfl) (AllL.cons_ (rfl) (AllL.cons_ (rfl) (AllL.cons_ (rfl) (AllL.cons_ (rfl) (AllL.cons_ (rfl) (AllL.cons_ (rfl) (AllL.cons_ (rfl) (AllL.cons_ (rfl) (AllL.cons_ (rfl) (AllL.cons_ (rfl) (AllL.cons_ (rfl) (AllL.cons_ (rfl) (AllL.cons_ (rfl) trivial))))))))))))))))))) (AllL.cons_ (rfl) (AllL.cons_ (rfl) (AllL.cons_ (rfl) trivial))) (AllL.cons_ FK trivial) ?_
    exact hKc0 _ _ _ (by omega) ⟨i + 1, rfl, rfl, rfl, (by omega)⟩
   ·
    have eg1 : ¬ (i : Int) < ((es.length : Int) - 1) := of_decide_eq_false g1
    refine At.gn (some 49) (t := 48) rfl g1 rfl rfl ?_
    refine At.gn (some 50) (t := 48) rfl g1 rfl rfl ?_
    refine At.gn (some 51) (t := 48) rfl g1 rfl rfl ?_
    refine At.gn (some 52) (t := 48) rfl g1 rfl rfl ?_
    refine At.gn (some 53) (t := 48) rfl g1 rfl rfl ?_
    refine At.gn (some 54) (t := 48) rfl g1 rfl rfl ?_
    refine At.gy (t := 42) rfl (by first | exact beq_eq_false_iff_ne.2 (by omega) | exact decide_eq_false (by omega)) rfl rfl ?_
    refine At.p (some 55) (P_pick_f rfl rfl g1 rfl) ?_
    refine At.p (some 56) (P_pick_f rfl rfl (by first | exact beq_eq_false_iff_ne.2 (by omega) | exact decide_eq_false (by omega)) rfl) ?_
    refine At.nil ?_
    refine At.next ?_
    refine At.cond rfl (fun h => absurd (h.symm.trans rfl) (by decide)) (fun _ => ?_)
    refine At.skip ?_
    refine At.next ?_
    refine At.region ?_
    refine At.p (some 57) (P_move rfl rfl) ?_
    refine At.p (some 58) (P_move rfl rfl) ?_
    refine At.p (some 59) (P_move rfl rfl) ?_
    refine At.p (some 60) (P_indexAddr_slz (b := b21) (j := i) rfl Tryd.underlying58 sz29 rfl ((fun h => g21a (by omega)) OG) rfl RO OG) ?_
    have hok61 : BE.ok (es.getD i default) := hes _ (getD_mem OG)
    refine At.q (some 61) (Q_loadM (k := 21) (f := BE.v) (l := es) ((default : BE)) rfl rfl Tryd.underlying29 rfl rfl OG) ?_
    refine At.toM [(0, .slice A19 (((txt.take ((min ntxt 300) - 0)) ++ List.replicate k18 0#8).length) c19), (1, iV more), (5, .slice A21 es.length c21), (6, strV (((txt.take ((min ntxt 300) - 0)) ++ List.replicate k18 0#8).take (i * 256))), (7, iV (i : Int)), (8, .slice (some ⟨b8, 0, none⟩) 0 0), (9, .slice Atxt ntxt ctxt), (10, .slice Atxt ntxt ctxt), (11, iV (ntxt : Int)), (12, iV (min (ntxt : Int) 300)), (13, .slice (cut Atxt 0 ctxt 1) ((min ntxt 300) - 0) (ctxt - 0)), (14, .slice A14 ((txt.take ((min ntxt 300) - 0)).length) c14), (15, iV more), (16, u64V (BitVec.ofInt 64 more)), (17, u64V ((BitVec.ofInt 64 more) % 900#64)), (18, iV (k18 : Int)), (19, .slice A19 (((txt.take ((min ntxt 300) - 0)) ++ List.replicate k18 0#8).length) c19), (20, .slice A19 (((txt.take ((min ntxt 300) - 0)) ++ List.replicate k18 0#8).length) c19), (21, .slice A21 es.length c21), (22, iV (i : Int)), (23, .slice A21 es.length c21), (24, iV (es.length : Int)), (25, .bool (decide ((i : Int) < (es.length : Int)))), (28, .slice A21 es.length c21), (29, iV (i : Int)), (30, ptr b21 i), (31, .slice ((es.getD i default).A) ((es.getD i default).l.length) ((es.getD i default).c)), (32, iV ((es.getD i default).l.length : Int)), (33, .bool (((es.getD i default).l.length : Int) == 0)), (34, .bool (((es.getD i default).l.length : Int) == 0)), (35, .slice A21 es.length c21), (36, iV (i : Int)), (37, ptr b21 i), (38, .slice ((es.getD i default).A) ((es.getD i default).l.length) ((es.getD i default).c)), (39, iV ((es.getD i default).l.length : Int)), (40, .bool (decide (((es.getD i default).l.length : Int) > 256))), (41, .bool (decide (((es.getD i default).l.length : Int) > 256))), (42, .bool (decide (((es.getD i default).l.length : Int) > 256))), (43, iV (i : Int)), (44, .slice A21 es.length c21), (45, iV (es.length : Int)), (46, iV ((es.length : Int) - 1)), (47, .bool (decide ((i : Int) < ((es.length : Int) - 1)))), (48, .bool (decide ((i : Int) < ((es.length : Int) - 1)))), (49, undef), (50, undef), (51, undef), (52, undef), (53, undef), (54, undef), (55, .bool false), (56, .bool false), (57, strV (((txt.take ((min ntxt 300) - 0)) ++ List.replicate k18 0#8).take (i * 256))), (58, .slice A21 es.length c21), (59, iV (i : Int)), (60, ptr b21 i), (61, .slice ((es.getD i default).A) ((es.getD i default).l.length) ((es.getD i default).c))] [(0, pRow btxt qtxt txt), (8, ⟨true, b19, 0, 5, (((txt.take ((min ntxt 300) - 0)) ++ List.replicate k18 0#8)).map u8V, c19 - (((txt.take ((min ntxt 300) - 0)) ++ List.replicate k18 0#8)).length⟩), (21, ⟨true, b21, 0, 29, (es).map BE.v, c21 - (es).length⟩)] [famB 100000 5 es] (AllL.cons_ rfl (AllL.cons_ rfl (AllL.cons_ rfl (AllL.cons_ rfl (AllL.cons_ rfl (AllL.cons_ rfl (AllL.cons_ rfl (AllL.cons_ rfl (AllL.cons_ rfl (AllL.cons_ rfl (AllL.cons_ rfl (AllL.cons_ rfl (AllL.cons_ rfl (AllL.cons_ rfl (AllL.cons_ rfl (AllL.cons_ rfl (AllL.cons_ rfl (AllL.cons_ rfl (AllL.cons_ rfl (AllL.cons_ rfl (AllL.cons_ rfl (AllL.cons_ rfl (AllL.cons_ rfl (AllL.cons_ rfl (AllL.cons_ rfl (AllL.cons_ rfl (AllL.cons_ rfl (AllL.cons_ rfl (AllL.cons_ rfl (AllL.cons_ rfl (AllL.cons_ rfl (AllL.cons_ rfl (AllL.cons_ rfl (AllL.cons_ rfl (AllL.cons_ rfl (AllL.cons_ rfl (AllL.cons_ rfl (AllL.cons_ rfl (AllL.cons_ rfl (AllL.cons_ rfl (AllL.cons_ rfl (AllL.cons_ rfl (AllL.cons_ rfl (AllL.cons_ rfl (AllL.cons_ rfl (AllL.cons_ rfl (AllL.cons_ rfl (AllL.cons_ rfl (AllL.cons_ rfl (AllL.cons_ rfl (AllL.cons_ rfl (AllL.cons_ rfl (AllL.cons_ rfl (AllL.cons_ rfl (AllL.cons_ rfl (AllL.cons_ rfl (AllL.cons_ rfl trivial))))))))))))))))))))))))))))))))))))))))))))))))))))))))) (AllL.cons_ rfl (AllL.cons_ rfl (AllL.cons_ rfl trivial))) (AllL.cons_ FK trivial) ?_
    refine At.famOut 70 (i := i) (by first | assumption | omega) (AllL.cons_ rfl (AllL.cons_ rfl (AllL.cons_ rfl trivial))) rfl trivial ?_
    refine At.q (some 62) (Q_strA (l := ((es.getD i default).l)) (n := ((es.getD i default).l.length)) (k := 70) LN rfl Tryd.underlying29 Tryd.underlying5 Tryd.underlying9 rfl (fun h => BE.adr hok61 (by omega)) (fun _ => ⟨rfl, rfl, rfl⟩)) ?_
    refine At.toM [(0, .slice A19 (((txt.take ((min ntxt 300) - 0)) ++ List.replicate k18 0#8).length) c19), (1, iV more), (5, .slice A21 es.length c21), (6, strV (((txt.take ((min ntxt 300) - 0)) ++ List.replicate k18 0#8).take (i * 256))), (7, iV (i : Int)), (8, .slice (some ⟨b8, 0, none⟩) 0 0), (9, .slice Atxt ntxt ctxt), (10, .slice Atxt ntxt ctxt), (11, iV (ntxt : Int)), (12, iV (min (ntxt : Int) 300)), (13, .slice (cut Atxt 0 ctxt 1) ((min ntxt 300) - 0) (ctxt - 0)), (14, .slice A14 ((txt.take ((min ntxt 300) - 0)).length) c14), (15, iV more), (16, u64V (BitVec.ofInt 64 more)), (17, u64V ((BitVec.ofInt 64 more) % 900#64)), (18, iV (k18 : Int)), (19, .slice A19 (((txt.take ((min ntxt 300) - 0)) ++ List.replicate k18 0#8).length) c19), (20, .slice A19 (((txt.take ((min ntxt 300) - 0)) ++ List.replicate k18 0#8).length) c19), (21, .slice A21 es.length c21), (22, iV (i : Int)), (23, .slice A21 es.length c21), (24, iV (es.length : Int)), (25, .bool (decide ((i : Int) < (es.length : Int)))), (28, .slice A21 es.length c21), (29, iV (i : Int)), (30, ptr b21 i), (31, .slice ((es.getD i default).A) ((es.getD i default).l.length) ((es.getD i default).c)), (32, iV ((es.getD i default).l.length : Int)), (33, .bool (((es.getD i default).l.length : Int) == 0)), (34, .bool (((es.getD i default).l.length : Int) == 0)), (35, .slice A21 es.length c21), (36, iV (i : Int)), (37, ptr b21 i), (38, .slice ((es.getD i default).A) ((es.getD i default).l.length) ((es.getD i default).c)), (39, iV ((es.getD i default).l.length : Int)), (40, .bool (decide (((es.getD i default).l.length : Int) > 256))), (41, .bool (decide (((es.getD i default).l.length : Int) > 256))), (42, .bool (decide (((es.getD i default).l.length : Int) > 256))), (43, iV (i : Int)), (44, .slice A21 es.length c21), (45, iV (es.length : Int)), (46, iV ((es.length : Int) - 1)), (47, .bool (decide ((i : Int) < ((es.length : Int) - 1)))), (48, .bool (decide ((i : Int) < ((es.length : Int) - 1)))), (49, undef), (50, undef), (51, undef), (52, undef), (53, undef), (54, undef), (55, .bool false), (56, .bool false), (57, strV (((txt.take ((min ntxt 300) - 0)) ++ List.replicate k18 0#8).take (i * 256))), (58, .slice A21 es.length c21), (59, iV (i : Int)), (60, ptr b21 i), (61, .slice ((es.getD i default).A) ((es.getD i default).l.length) ((es.getD i default).c)), (62, strV ((es.getD i default).l))] [(70, ⟨true, (es.getD i default).b, 0, 5, ((es.getD i default).l).map u8V, (es.getD i default).c - (es.getD i default).l.length⟩), (0, pRow btxt qtxt txt), (8, ⟨true, b19, 0, 5, (((txt.take ((min ntxt 300) - 0)) ++ List.replicate k18 0#8)).map u8V, c19 - (((txt.take ((min ntxt 300) - 0)) ++ List.replicate k18 0#8)).length⟩), (21, ⟨true, b21, 0, 29, (es).map BE.v, c21 - (es).length⟩)] [famBut 100000 5 es i] (AllL.cons_ rfl (AllL.cons_ rfl (AllL.cons_ rfl (AllL.cons_ rfl (AllL.cons_ rfl (AllL.cons_ rfl (AllL.cons_ rfl (AllL.cons_ rfl (AllL.cons_ rfl (AllL.cons_ rfl (AllL.cons_ rfl (AllL.cons_ rfl (AllL.cons_ rfl (AllL.cons_ rfl (AllL.cons_ rfl (AllL.cons_ rfl (AllL.cons_ rfl (AllL.cons_ rfl (AllL.cons_ rfl (AllL.cons_ rfl (AllL.cons_ rfl (AllL.cons_ rfl (AllL.cons_ rfl (AllL.cons_ rfl (AllL.cons_ rfl (AllL.cons_ rfl (AllL.cons_ rfl (AllL.cons_ rfl (AllL.cons_ rfl (AllL.cons_ rfl (AllL.cons_ rfl (AllL.cons_ rfl (AllL.cons_ rfl (AllL.cons_ rfl (AllL.cons_ rfl (AllL.cons_ rfl (AllL.cons_ rfl (AllL.cons_ rfl (AllL.cons_ rfl (AllL.cons_ rfl (AllL.cons_ rfl (AllL.cons_ rfl (AllL.cons_ rfl (AllL.cons_ rfl (AllL.cons_ rfl (AllL.cons_ rfl (AllL.cons_ rfl (AllL.cons_ rfl (AllL.cons_ rfl (AllL.cons_ rfl (AllL.cons_ rfl (AllL.cons_ rfl (AllL.cons_ rfl (AllL.cons_ rfl (AllL.cons_ rfl (AllL.cons_ rfl (AllL.cons_ rfl (AllL.cons_ rfl trivial)))))))))))))))))))))))))))))))))))))))))))))))))))))))))) (AllL.cons_ rfl (AllL.cons_ rfl (AllL.cons_ rfl (AllL.cons_ rfl trivial)))) (AllL.cons_ FK trivial) ?_
    refine At.famIn (AllL.cons_ rfl (AllL.cons_ rfl (AllL.cons_ rfl trivial))) rfl trivial ?_
    refine At.p (some 63) (P_add_str (a := (((txt.take ((min ntxt 300) - 0)) ++ List.replicate k18 0#8).take (i * 256))) (b := ((es.getD i default).l)) rfl rfl rfl OG) ?_
    refine At.p (some 6) (P_assign rfl rfl) ?_
    refine At.nil ?_
    refine At.inb_n ?_
    refine At.next ?_
    refine At.region ?_
    refine At.p (some 26) (P_move rfl rfl) ?_
    refine At.p (some 27) (P_add_i rfl rfl rfl (by omega)) ?_
    refine At.p (some 7) (P_assign rfl rfl) ?_
    refine At.nil ?_
    refine At.next ?_
    refine At.toM [(0, _), (1, _), (5, _), (6, strV (((txt.take ((min ntxt 300) - 0)) ++ List.replicate k18 0#8).take ((i + 1) * 256))), (7, _), (8, _), (9, _), (10, _), (11, _), (12, _), (13, _), (14, _), (15, _), (16, _), (17, _), (18, _), (19, _), (20, _), (21, _)] [(0, _), (8, _), (21, _)] [famB 100000 5 es] (AllL.cons_ (rfl) (AllL.cons_ (rfl) (AllL.cons_ (rfl) (AllL.cons_ ((congrArg (fun z => some (strV z)) (by rw [hla, Nat.add_mul, Nat.one_mul, List.take_add]))) (AllL.cons_ (rfl) (AllL.cons_ (rfl) (AllL.cons_ (rfl) (AllL.cons_ (rfl) (AllL.cons_ (rfl) (AllL.cons_ (rfl) (AllL.cons_ (rfl) (AllL.cons_ (rfl) (AllL.cons_ (rfl) (AllL.cons_ (rfl) (AllL.cons_ (rfl) (AllL.cons_ (rfl) (AllL.cons_ (rfl) (AllL.cons_ (rfl) (AllL.cons_ (rfl) trivial))))))))))))))))))) (AllL.cons_ (rfl) (AllL.cons_ (rfl) (AllL.cons_ (rfl) trivial))) (AllL.cons_ FK trivial) ?_
    exact hKc0 _ _ _ (by omega) ⟨i + 1, rfl, rfl, rfl, (by omega)⟩
  · -- cond 25 f
   have e25 : ¬ (i : Int) < (es.length : Int) := of_decide_eq_false h25
   refine At.exit ?_
   refine At.thn_e ?_
   refine At.thn_e ?_
   refine At.inb_hit ?_
   refine At.next ?_
   refine At.seq ?_
   obtain rfl : i = es.length := by omega
   refine At.region ?_
   refine At.s (S_callV (some 64) [] [] (vs := []) rfl en14 rfl V0 (by simp) (c_seals  ) (by rintro _ _ ⟨rfl, rfl⟩; rfl) ?_)
   rintro _ _ ⟨rfl, rfl⟩
   refine At.p (some 65) (P_move rfl rfl) ?_
   refine At.gy (t := 65) rfl rfl rfl rfl ?_
   refine At.p (some 66) (P_move rfl rfl) ?_
   refine At.gy (t := 65) rfl rfl rfl rfl ?_
   refine At.p (some 67) (P_move rfl rfl) ?_
   refine At.gy (t := 65) rfl rfl rfl rfl ?_
   refine At.q (some 68) (Q_strA (l := ((txt.take ((min ntxt 300) - 0)) ++ List.replicate k18 0#8)) (n := (((txt.take ((min ntxt 300) - 0)) ++ List.replicate k18 0#8).length)) (k := 8) LN rfl Tryd.underlying29 Tryd.underlying5 Tryd.underlying9 rfl (fun h => g19a (by omega)) (fun _ => ⟨rfl, rfl, rfl⟩)) ?_
   refine At.gy (t := 65) rfl rfl rfl rfl ?_
   refine At.p (some 69) (P_eql_str (a := (((txt.take ((min ntxt 300) - 0)) ++ List.replicate k18 0#8).take (es.length * 256))) (b := ((txt.take ((min ntxt 300) - 0)) ++ List.replicate k18 0#8)) rfl rfl rfl) ?_
   refine At.p (some 70) (P_pick_t rfl rfl rfl rfl) ?_
   refine At.p (some 4) (P_assign rfl rfl) ?_
   refine At.nil ?_
   refine At.next ?_
   refine At.ret ?_
   have hq0 : (decide ((((txt.take ((min ntxt 300) - 0)) ++ List.replicate k18 0#8).take (es.length * 256)) = ((txt.take ((min ntxt 300) - 0)) ++ List.replicate k18 0#8))) = true := (decide_eq_true (List.take_of_length_le (by omega)))
   refine At.give (.inl rfl) [] (rows' := []) (vs := [_]) rfl ⟨rfl, trivial⟩ rfl (by simp) (by simp) ⟨(by first | (rw [hq0]; try rfl; done) | (rw [← hq0]; try rfl; done) | (simp only [hq0]; try rfl; done) | (simp only [← hq0]; try rfl; done) | rfl), (by first | (rw [hq0]; try rfl; done) | (rw [← hq0]; try rfl; done) | (simp only [hq0]; try rfl; done) | (simp only [← hq0]; try rfl; done) | rfl)⟩


end Go.Proofs.YtablmdbonibjaaaDoor
