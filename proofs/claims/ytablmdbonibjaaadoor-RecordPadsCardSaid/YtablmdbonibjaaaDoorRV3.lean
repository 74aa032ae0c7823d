import Derived.Test.YtablmdbonibjaaaDoorRV2
namespace Go.Proofs.YtablmdbonibjaaaDoor
set_option maxRecDepth 20000
set_option linter.unusedVariables false
set_option linter.unusedSimpArgs false
open Go.SE Go.RowKit
attribute [local irreducible] macS sumS labS expS sealS openT openE openOk aTag streamS
attribute [local irreducible] dkS dvS nxS nnS nnI hdR rsT rsB rsE rpT rpE roE roK roT roX roO kdOk trN trL trK inR
set_option maxHeartbeats 2000000 in
theorem c_to {key : List (BitVec 8)} {iv : List (BitVec 8)} (hkey : key.length = 32) (hiv : iv.length = 12) :
  Con Tryd.prog 10 [.agg ([(key).map u8V, (iv).map u8V].flatten).toArray] [] (fun v rs => v = .agg ([(key).map u8V, (iv).map u8V].flatten).toArray ∧ rs = []) := by
 refine Con.enter Tryd.func10 Tryd.ntmps10 (Nat.le_of_ble_eq_true rfl) rfl fun w => ?_
 refine At.seq ?_
 refine At.region ?_
 refine At.s (S_box (some 1) 1 (zs := [(key).map u8V, (iv).map u8V].flatten) rfl rfl rfl (fun b1 => ?_))
 refine At.s (S_alloc (some 2) 2 (zs := [(List.replicate 32 0#8).map u8V, (List.replicate 12 0#8).map u8V].flatten) rfl ze33 rfl (fun b2 => ?_))
 refine At.nil ?_
 refine At.next ?_
 refine At.seq ?_
 refine At.region ?_
 refine At.p (some 3) (P_fieldAddr0 (off := 0) rfl Tryd.underlying25 rfl sz22 rfl rfl) ?_
 refine At.q (some 4) (Q_loadN (k := 1) (j := 0) (cs := (key).map u8V) rfl rfl Tryd.underlying22 rfl sz22 rfl rfl rfl (seg_at (i := 0) rfl LN LN) LN) ?_
 refine At.p (some 5) (P_fieldAddr0 (off := 32) rfl Tryd.underlying25 rfl sz23 rfl rfl) ?_
 refine At.q (some 6) (Q_loadN (k := 1) (j := 32) (cs := (iv).map u8V) rfl rfl Tryd.underlying23 rfl sz23 rfl rfl rfl (seg_at (i := 1) rfl LN LN) LN) ?_
 refine At.p (some 7) (P_build_struct (cs := ([(key).map u8V, (iv).map u8V].flatten).toArray) (parts := _) (vs := [(0, _), (1, _)]) rfl Tryd.underlying33 ze33 pl33 rfl (by show Instr.fill _ ([(List.replicate 32 0#8).map u8V, (List.replicate 12 0#8).map u8V].flatten).toArray _ = _; refine fill_seg (k := 0) (vs := (key).map u8V) rfl rfl LN rfl LN LN ?_; refine fill_seg (k := 1) (vs := (iv).map u8V) rfl rfl LN rfl LN LN ?_; exact fill_end (by simp))) ?_
 refine At.s (S_storeA none (k := 2) (vs := [(key).map u8V, (iv).map u8V].flatten) rfl rfl rfl (by rw [sz33]; exact congrArg some LN) rfl (one_flatc (one_map (fun _ => rfl)) (one_flatc (one_map (fun _ => rfl)) one_flat0)) NG rfl LN ?_)
 refine At.nil ?_
 refine At.next ?_
 refine At.ret ?_
 have hq0 : [(key).map u8V, (iv).map u8V].flatten = [(key).map u8V, (iv).map u8V].flatten := rfl
 refine At.giveV (.inl rfl) [] (rows' := []) (ResV.cellA (k := 2) rfl rfl Tryd.underlying33 rfl sz33 LN rfl) rfl (by simp) (by simp) ?_
 exact ⟨congrArg (fun z => Value.agg (List.toArray z)) hq0, rfl⟩

set_option maxHeartbeats 2000000 in
theorem c_From {key : List (BitVec 8)} {iv : List (BitVec 8)} (hkey : key.length = 32) (hiv : iv.length = 12) :
  Con Tryd.prog 21 [.agg ([(key).map u8V, (iv).map u8V].flatten).toArray] [] (fun v rs => v = .agg ([(key).map u8V, (iv).map u8V].flatten).toArray ∧ rs = []) := by
 refine Con.enter Tryd.func21 Tryd.ntmps21 (Nat.le_of_ble_eq_true rfl) rfl fun w => ?_
 refine At.seq ?_
 refine At.region ?_
 refine At.s (S_box (some 1) 1 (zs := [(key).map u8V, (iv).map u8V].flatten) rfl rfl rfl (fun b1 => ?_))
 refine At.s (S_alloc (some 2) 2 (zs := [(List.replicate 32 0#8).map u8V, (List.replicate 12 0#8).map u8V].flatten) rfl ze25 rfl (fun b2 => ?_))
 refine At.nil ?_
 refine At.next ?_
 refine At.seq ?_
 refine At.region ?_
 refine At.p (some 3) (P_fieldAddr0 (off := 0) rfl Tryd.underlying33 rfl sz22 rfl rfl) ?_
 refine At.q (some 4) (Q_loadN (k := 1) (j := 0) (cs := (key).map u8V) rfl rfl Tryd.underlying22 rfl sz22 rfl rfl rfl (seg_at (i := 0) rfl LN LN) LN) ?_
 refine At.p (some 5) (P_fieldAddr0 (off := 32) rfl Tryd.underlying33 rfl sz23 rfl rfl) ?_
 refine At.q (some 6) (Q_loadN (k := 1) (j := 32) (cs := (iv).map u8V) rfl rfl Tryd.underlying23 rfl sz23 rfl rfl rfl (seg_at (i := 1) rfl LN LN) LN) ?_
 refine At.p (some 7) (P_build_struct (cs := ([(key).map u8V, (iv).map u8V].flatten).toArray) (parts := _) (vs := [(0, _), (1, _)]) rfl Tryd.underlying25 ze25 pl25 rfl (by show Instr.fill _ ([(List.replicate 32 0#8).map u8V, (List.replicate 12 0#8).map u8V].flatten).toArray _ = _; refine fill_seg (k := 0) (vs := (key).map u8V) rfl rfl LN rfl LN LN ?_; refine fill_seg (k := 1) (vs := (iv).map u8V) rfl rfl LN rfl LN LN ?_; exact fill_end (by simp))) ?_
 refine At.s (S_storeA none (k := 2) (vs := [(key).map u8V, (iv).map u8V].flatten) rfl rfl rfl (by rw [sz25]; exact congrArg some LN) rfl (one_flatc (one_map (fun _ => rfl)) (one_flatc (one_map (fun _ => rfl)) one_flat0)) NG rfl LN ?_)
 refine At.nil ?_
 refine At.next ?_
 refine At.ret ?_
 have hq0 : [(key).map u8V, (iv).map u8V].flatten = [(key).map u8V, (iv).map u8V].flatten := rfl
 refine At.giveV (.inl rfl) [] (rows' := []) (ResV.cellA (k := 2) rfl rfl Tryd.underlying25 rfl sz25 LN rfl) rfl (by simp) (by simp) ?_
 exact ⟨congrArg (fun z => Value.agg (List.toArray z)) hq0, rfl⟩

set_option maxHeartbeats 2000000 in
theorem c_seals   :
  Con Tryd.prog 14 [] [] (fun v rs => v = .bool true ∧ rs = []) := by
 refine Con.enter Tryd.func14 Tryd.ntmps14 (Nat.le_of_ble_eq_true rfl) rfl fun w => ?_
 refine At.seq ?_
 refine At.region ?_
 refine At.p (some 0) (P_assign rfl rfl) ?_
 refine At.nil ?_
 refine At.next ?_
 refine At.seq ?_
 refine At.region ?_
 refine At.s (S_buildSliceV (some 10) 10 (([1#8, 0#8]).map u8V) rfl Tryd.underlying29 sz5 ze5 rfl rfl (by decide) (by decide) rfl ⟨rfl, rfl⟩ (fun b10 => ?_))
 refine At.s (S_callV (some 11) [(10, _)] [11] (vs := [_, _]) rfl en12 rfl (VN (by simp) rfl View.all V0) (by simp) (c_Plain (kd := 21) (txt := [1#8, 0#8]) (ntxt := 2) (Atxt := (some ⟨b10, 0, none⟩)) (ctxt := 2) (btxt := b10) (qtxt := 0) LN (fun _ => rfl) OG) (by rintro _ _ ⟨A11, b11, c11, g11a, g11b, rfl, rfl⟩; rfl) ?_)
 rintro _ _ ⟨A11, b11, c11, g11a, g11b, rfl, rfl⟩
 refine At.p (some 9) (P_move rfl rfl) ?_
 refine At.p (some 12) (P_extract rfl rfl rfl) ?_
 refine At.p (some 13) (P_extract rfl rfl rfl) ?_
 refine At.p (some 1) (P_assign rfl rfl) ?_
 refine At.p (some 2) (P_assign rfl rfl) ?_
 refine At.nil ?_
 refine At.next ?_
 refine At.seq ?_
 refine At.region ?_
 refine At.p (some 14) (P_build_arr (cs := (([1#8, 0#8, 0#8, 0#8, 0#8, 0#8, 0#8, 0#8, 0#8, 0#8, 0#8, 0#8, 0#8, 0#8, 0#8, 0#8, 0#8, 0#8, 0#8, 0#8, 0#8, 0#8, 0#8, 0#8, 0#8, 0#8, 0#8, 0#8, 0#8, 0#8, 0#8, 0#8]).map u8V).toArray) (parts := _) (vs := [(0, _)]) rfl Tryd.underlying22 sz5 ze22 rfl rfl) ?_
 refine At.s (S_callV (some 15) [] [] (vs := [_]) rfl en20 rfl V0 (by simp) (c_Der (s := [1#8, 0#8, 0#8, 0#8, 0#8, 0#8, 0#8, 0#8, 0#8, 0#8, 0#8, 0#8, 0#8, 0#8, 0#8, 0#8, 0#8, 0#8, 0#8, 0#8, 0#8, 0#8, 0#8, 0#8, 0#8, 0#8, 0#8, 0#8, 0#8, 0#8, 0#8, 0#8]) LN) (by rintro _ _ ⟨rfl, rfl⟩; rfl) ?_)
 rintro _ _ ⟨rfl, rfl⟩
 have := dkS_len [1#8, 0#8, 0#8, 0#8, 0#8, 0#8, 0#8, 0#8, 0#8, 0#8, 0#8, 0#8, 0#8, 0#8, 0#8, 0#8, 0#8, 0#8, 0#8, 0#8, 0#8, 0#8, 0#8, 0#8, 0#8, 0#8, 0#8, 0#8, 0#8, 0#8, 0#8, 0#8]
 have := dvS_len [1#8, 0#8, 0#8, 0#8, 0#8, 0#8, 0#8, 0#8, 0#8, 0#8, 0#8, 0#8, 0#8, 0#8, 0#8, 0#8, 0#8, 0#8, 0#8, 0#8, 0#8, 0#8, 0#8, 0#8, 0#8, 0#8, 0#8, 0#8, 0#8, 0#8, 0#8, 0#8]
 refine At.s (S_alloc (some 3) 3 (zs := [(List.replicate 32 0#8).map u8V, (List.replicate 12 0#8).map u8V].flatten) rfl ze33 rfl (fun b3 => ?_))
 refine At.s (S_storeA none (k := 3) (vs := [(dkS [1#8, 0#8, 0#8, 0#8, 0#8, 0#8, 0#8, 0#8, 0#8, 0#8, 0#8, 0#8, 0#8, 0#8, 0#8, 0#8, 0#8, 0#8, 0#8, 0#8, 0#8, 0#8, 0#8, 0#8, 0#8, 0#8, 0#8, 0#8, 0#8, 0#8, 0#8, 0#8]).map u8V, (dvS [1#8, 0#8, 0#8, 0#8, 0#8, 0#8, 0#8, 0#8, 0#8, 0#8, 0#8, 0#8, 0#8, 0#8, 0#8, 0#8, 0#8, 0#8, 0#8, 0#8, 0#8, 0#8, 0#8, 0#8, 0#8, 0#8, 0#8, 0#8, 0#8, 0#8, 0#8, 0#8]).map u8V].flatten) rfl rfl rfl (by rw [sz33]; exact congrArg some LN) rfl (one_flatc (one_map (fun _ => rfl)) (one_flatc (one_map (fun _ => rfl)) one_flat0)) NG rfl LN ?_)
 refine At.nil ?_
 refine At.next ?_
 refine At.seq ?_
 obtain ⟨u1, u2, u3, u4, u5, u6, u7⟩ := seals_known (dkS [1#8, 0#8, 0#8, 0#8, 0#8, 0#8, 0#8, 0#8, 0#8, 0#8, 0#8, 0#8, 0#8, 0#8, 0#8, 0#8, 0#8, 0#8, 0#8, 0#8, 0#8, 0#8, 0#8, 0#8, 0#8, 0#8, 0#8, 0#8, 0#8, 0#8, 0#8, 0#8]) (dvS [1#8, 0#8, 0#8, 0#8, 0#8, 0#8, 0#8, 0#8, 0#8, 0#8, 0#8, 0#8, 0#8, 0#8, 0#8, 0#8, 0#8, 0#8, 0#8, 0#8, 0#8, 0#8, 0#8, 0#8, 0#8, 0#8, 0#8, 0#8, 0#8, 0#8, 0#8, 0#8])
 refine At.region ?_
 refine At.q (some 17) (Q_loadA (k := 3) rfl rfl Tryd.underlying33 rfl sz33 LN rfl) ?_
 refine At.s (S_buildSliceV (some 18) 18 (([104#8, 105#8]).map u8V) rfl Tryd.underlying29 sz5 ze5 rfl rfl (by decide) (by decide) rfl ⟨rfl, rfl⟩ (fun b18 => ?_))
 refine At.s (S_convB (some 19) (k := 18) rfl Tryd.underlying29 Tryd.underlying5 rfl rfl (by simp) ?_)
 refine At.s (S_callV (some 20) [(18, _)] [20] (vs := [_, _, _, _, _]) rfl en9 rfl (VN (by simp) rfl View.all V0) (by simp) (c_RSeal (key := (dkS [1#8, 0#8, 0#8, 0#8, 0#8, 0#8, 0#8, 0#8, 0#8, 0#8, 0#8, 0#8, 0#8, 0#8, 0#8, 0#8, 0#8, 0#8, 0#8, 0#8, 0#8, 0#8, 0#8, 0#8, 0#8, 0#8, 0#8, 0#8, 0#8, 0#8, 0#8, 0#8])) (iv := (dvS [1#8, 0#8, 0#8, 0#8, 0#8, 0#8, 0#8, 0#8, 0#8, 0#8, 0#8, 0#8, 0#8, 0#8, 0#8, 0#8, 0#8, 0#8, 0#8, 0#8, 0#8, 0#8, 0#8, 0#8, 0#8, 0#8, 0#8, 0#8, 0#8, 0#8, 0#8, 0#8])) (seq := (5#64)) (kd := 23) (txt := [104#8, 105#8]) (ntxt := 2) (Atxt := (some ⟨b18, 0, none⟩)) (ctxt := 2) (btxt := b18) (qtxt := 0) (pad := 3) LN LN LN (fun _ => rfl) OG) (by rintro _ _ ⟨A20, b20, c20, g20a, g20b, rfl, rfl⟩; rfl) ?_)
 rintro _ _ ⟨A20, b20, c20, g20a, g20b, rfl, rfl⟩
 have := rsT_le (dkS [1#8, 0#8, 0#8, 0#8, 0#8, 0#8, 0#8, 0#8, 0#8, 0#8, 0#8, 0#8, 0#8, 0#8, 0#8, 0#8, 0#8, 0#8, 0#8, 0#8, 0#8, 0#8, 0#8, 0#8, 0#8, 0#8, 0#8, 0#8, 0#8, 0#8, 0#8, 0#8]) (dvS [1#8, 0#8, 0#8, 0#8, 0#8, 0#8, 0#8, 0#8, 0#8, 0#8, 0#8, 0#8, 0#8, 0#8, 0#8, 0#8, 0#8, 0#8, 0#8, 0#8, 0#8, 0#8, 0#8, 0#8, 0#8, 0#8, 0#8, 0#8, 0#8, 0#8, 0#8, 0#8]) (5#64) 23 [104#8, 105#8] 3
 refine At.p (some 16) (P_move rfl rfl) ?_
 refine At.p (some 21) (P_extract rfl rfl rfl) ?_
 refine At.p (some 22) (P_extract rfl rfl rfl) ?_
 refine At.p (some 4) (P_assign rfl rfl) ?_
 refine At.p (some 5) (P_assign rfl rfl) ?_
 refine At.nil ?_
 refine At.next ?_
 refine At.seq ?_
 refine At.seq ?_
 refine At.region ?_
 refine At.p (some 23) (P_move rfl rfl) ?_
 refine At.p (some 24) (P_len_sl rfl rfl ⟨_, Tryd.underlying29⟩ rfl) ?_
 refine At.p (some 25) (P_cmp rfl rfl rfl rfl rfl rfl) ?_
 refine At.nil ?_
 refine At.next ?_
 refine At.cond rfl (fun h25 => (by simp [u4] at h25)) (fun h25 => ?_)
 have e25 : ((rsT (dkS [1#8, 0#8, 0#8, 0#8, 0#8, 0#8, 0#8, 0#8, 0#8, 0#8, 0#8, 0#8, 0#8, 0#8, 0#8, 0#8, 0#8, 0#8, 0#8, 0#8, 0#8, 0#8, 0#8, 0#8, 0#8, 0#8, 0#8, 0#8, 0#8, 0#8, 0#8, 0#8]) (dvS [1#8, 0#8, 0#8, 0#8, 0#8, 0#8, 0#8, 0#8, 0#8, 0#8, 0#8, 0#8, 0#8, 0#8, 0#8, 0#8, 0#8, 0#8, 0#8, 0#8, 0#8, 0#8, 0#8, 0#8, 0#8, 0#8, 0#8, 0#8, 0#8, 0#8, 0#8, 0#8]) (5#64) 23 [104#8, 105#8] 3).length : Int) = 27 := bne_eq_false_iff_eq.1 h25
 refine At.skip ?_
 refine At.next ?_
 refine At.seq ?_
 refine At.draws 10 [] [.q false [0, 1, 2], .e false 3, .q false [4, 5, 6, 7, 8, 9]] (by kernel_rfl) (by kernel_rfl) ?_
 refine At.wq (some 27) (Q_loadA (k := 3) rfl rfl Tryd.underlying33 rfl sz33 LN rfl) ?_
 refine At.wp (some 28) (P_move rfl rfl) ?_
 refine At.wp (some 29) (P_slice_sl (l := 5) (h := (rsT (dkS [1#8, 0#8, 0#8, 0#8, 0#8, 0#8, 0#8, 0#8, 0#8, 0#8, 0#8, 0#8, 0#8, 0#8, 0#8, 0#8, 0#8, 0#8, 0#8, 0#8, 0#8, 0#8, 0#8, 0#8, 0#8, 0#8, 0#8, 0#8, 0#8, 0#8, 0#8, 0#8]) (dvS [1#8, 0#8, 0#8, 0#8, 0#8, 0#8, 0#8, 0#8, 0#8, 0#8, 0#8, 0#8, 0#8, 0#8, 0#8, 0#8, 0#8, 0#8, 0#8, 0#8, 0#8, 0#8, 0#8, 0#8, 0#8, 0#8, 0#8, 0#8, 0#8, 0#8, 0#8, 0#8]) (5#64) 23 [104#8, 105#8] 3).length) (m := c20) rfl Tryd.underlying29 sz5 rfl ⟨_, _, rfl, rfl⟩ rfl rfl DO DO DO) ?_
 refine At.wqn ?_
 refine At.we ?_
 refine SStep.up (S_callV (some 30) [(20, _)] [30] (vs := [_, _, _]) rfl en15 rfl (VN (by simp) rfl (View.sub (j := 5) (m := (((rsT (dkS [1#8, 0#8, 0#8, 0#8, 0#8, 0#8, 0#8, 0#8, 0#8, 0#8, 0#8, 0#8, 0#8, 0#8, 0#8, 0#8, 0#8, 0#8, 0#8, 0#8, 0#8, 0#8, 0#8, 0#8, 0#8, 0#8, 0#8, 0#8, 0#8, 0#8, 0#8, 0#8]) (dvS [1#8, 0#8, 0#8, 0#8, 0#8, 0#8, 0#8, 0#8, 0#8, 0#8, 0#8, 0#8, 0#8, 0#8, 0#8, 0#8, 0#8, 0#8, 0#8, 0#8, 0#8, 0#8, 0#8, 0#8, 0#8, 0#8, 0#8, 0#8, 0#8, 0#8, 0#8, 0#8]) (5#64) 23 [104#8, 105#8] 3).length) - 5)) rfl rfl) V0) (by simp) (c_ROpen (key := (dkS [1#8, 0#8, 0#8, 0#8, 0#8, 0#8, 0#8, 0#8, 0#8, 0#8, 0#8, 0#8, 0#8, 0#8, 0#8, 0#8, 0#8, 0#8, 0#8, 0#8, 0#8, 0#8, 0#8, 0#8, 0#8, 0#8, 0#8, 0#8, 0#8, 0#8, 0#8, 0#8])) (iv := (dvS [1#8, 0#8, 0#8, 0#8, 0#8, 0#8, 0#8, 0#8, 0#8, 0#8, 0#8, 0#8, 0#8, 0#8, 0#8, 0#8, 0#8, 0#8, 0#8, 0#8, 0#8, 0#8, 0#8, 0#8, 0#8, 0#8, 0#8, 0#8, 0#8, 0#8, 0#8, 0#8])) (seq := (5#64)) (b := (((rsT (dkS [1#8, 0#8, 0#8, 0#8, 0#8, 0#8, 0#8, 0#8, 0#8, 0#8, 0#8, 0#8, 0#8, 0#8, 0#8, 0#8, 0#8, 0#8, 0#8, 0#8, 0#8, 0#8, 0#8, 0#8, 0#8, 0#8, 0#8, 0#8, 0#8, 0#8, 0#8, 0#8]) (dvS [1#8, 0#8, 0#8, 0#8, 0#8, 0#8, 0#8, 0#8, 0#8, 0#8, 0#8, 0#8, 0#8, 0#8, 0#8, 0#8, 0#8, 0#8, 0#8, 0#8, 0#8, 0#8, 0#8, 0#8, 0#8, 0#8, 0#8, 0#8, 0#8, 0#8, 0#8, 0#8]) (5#64) 23 [104#8, 105#8] 3).drop 5).take (((rsT (dkS [1#8, 0#8, 0#8, 0#8, 0#8, 0#8, 0#8, 0#8, 0#8, 0#8, 0#8, 0#8, 0#8, 0#8, 0#8, 0#8, 0#8, 0#8, 0#8, 0#8, 0#8, 0#8, 0#8, 0#8, 0#8, 0#8, 0#8, 0#8, 0#8, 0#8, 0#8, 0#8]) (dvS [1#8, 0#8, 0#8, 0#8, 0#8, 0#8, 0#8, 0#8, 0#8, 0#8, 0#8, 0#8, 0#8, 0#8, 0#8, 0#8, 0#8, 0#8, 0#8, 0#8, 0#8, 0#8, 0#8, 0#8, 0#8, 0#8, 0#8, 0#8, 0#8, 0#8, 0#8, 0#8]) (5#64) 23 [104#8, 105#8] 3).length) - 5))) (nb := (((rsT (dkS [1#8, 0#8, 0#8, 0#8, 0#8, 0#8, 0#8, 0#8, 0#8, 0#8, 0#8, 0#8, 0#8, 0#8, 0#8, 0#8, 0#8, 0#8, 0#8, 0#8, 0#8, 0#8, 0#8, 0#8, 0#8, 0#8, 0#8, 0#8, 0#8, 0#8, 0#8, 0#8]) (dvS [1#8, 0#8, 0#8, 0#8, 0#8, 0#8, 0#8, 0#8, 0#8, 0#8, 0#8, 0#8, 0#8, 0#8, 0#8, 0#8, 0#8, 0#8, 0#8, 0#8, 0#8, 0#8, 0#8, 0#8, 0#8, 0#8, 0#8, 0#8, 0#8, 0#8, 0#8, 0#8]) (5#64) 23 [104#8, 105#8] 3).length) - 5)) (Ab := (cut A20 5 c20 1)) (cb := (c20 - 5)) (bb := b20) (qb := (0 + 5)) LN LN LN (fun h => cut_addr1 ((fun h => g20a (by omega)) (by omega)) (by omega)) OG OG) (by rintro _ _ ⟨A30, b30, c30, r30, m30, g30a, g30b, rfl, rfl⟩; rfl) ?_)
 rintro _ _ ⟨A30, b30, c30, r30, m30, g30a, g30b, rfl, rfl⟩
 refine At.forgetM 30 rfl ?_
 refine At.wp (some 26) (P_move rfl rfl) ?_
 refine At.wp (some 31) (P_extract rfl rfl rfl) ?_
 refine At.wp (some 32) (P_extract rfl rfl rfl) ?_
 refine At.wp (some 33) (P_extract rfl rfl rfl) ?_
 refine At.wp (some 6) (P_assign rfl rfl) ?_
 refine At.wp (some 7) (P_assign rfl rfl) ?_
 refine At.wqn ?_
 refine At.wt rfl ?_
 refine At.p (some 8) (P_assign rfl rfl) ?_
 refine At.nil ?_
 refine At.next ?_
 refine At.seq ?_
 refine At.region ?_
 refine At.p (some 34) (P_move rfl rfl) ?_
 refine At.p (some 35) (P_cmp rfl rfl rfl rfl rfl rfl) ?_
 refine At.p (some 36) (P_move rfl rfl) ?_
 refine At.gy (t := 36) rfl (by first | rfl | exact beq_iff_eq.2 u1 | exact beq_iff_eq.2 u3 | exact beq_iff_eq.2 u5 | exact beq_iff_eq.2 u6 | exact decide_eq_true u2 | exact decide_eq_true u7 | (simp; done)) rfl rfl ?_
 refine At.p (some 37) (P_move rfl rfl) ?_
 refine At.gy (t := 36) rfl (by first | rfl | exact beq_iff_eq.2 u1 | exact beq_iff_eq.2 u3 | exact beq_iff_eq.2 u5 | exact beq_iff_eq.2 u6 | exact decide_eq_true u2 | exact decide_eq_true u7 | (simp; done)) rfl rfl ?_
 refine At.q (some 38) (Q_strA (l := (rpT 21 [1#8, 0#8])) (n := ((rpT 21 [1#8, 0#8]).length)) (k := 11) LN rfl Tryd.underlying29 Tryd.underlying5 Tryd.underlying9 rfl (fun h => g11a (by omega)) (fun _ => ⟨rfl, rfl, rfl⟩)) ?_
 refine At.gy (t := 36) rfl (by first | rfl | exact beq_iff_eq.2 u1 | exact beq_iff_eq.2 u3 | exact beq_iff_eq.2 u5 | exact beq_iff_eq.2 u6 | exact decide_eq_true u2 | exact decide_eq_true u7 | (simp; done)) rfl rfl ?_
 refine At.p (some 39) (P_eql_str (a := (rpT 21 [1#8, 0#8])) (b := [21#8, 3#8, 3#8, 0#8, 2#8, 1#8, 0#8]) rfl rfl rfl) ?_
 refine At.p (some 40) (P_pick_t rfl rfl (by first | rfl | exact beq_iff_eq.2 u1 | exact beq_iff_eq.2 u3 | exact beq_iff_eq.2 u5 | exact beq_iff_eq.2 u6 | exact decide_eq_true u2 | exact decide_eq_true u7 | (simp; done)) rfl) ?_
 refine At.p (some 41) (P_move rfl rfl) ?_
 refine At.gy (t := 41) rfl (by first | rfl | exact beq_iff_eq.2 u1 | exact beq_iff_eq.2 u3 | exact beq_iff_eq.2 u5 | exact beq_iff_eq.2 u6 | exact decide_eq_true u2 | exact decide_eq_true u7 | (simp; done)) rfl rfl ?_
 refine At.p (some 42) (P_move rfl rfl) ?_
 refine At.gy (t := 41) rfl (by first | rfl | exact beq_iff_eq.2 u1 | exact beq_iff_eq.2 u3 | exact beq_iff_eq.2 u5 | exact beq_iff_eq.2 u6 | exact decide_eq_true u2 | exact decide_eq_true u7 | (simp; done)) rfl rfl ?_
 refine At.p (some 43) (P_cmp rfl rfl rfl rfl rfl rfl) ?_
 refine At.p (some 44) (P_pick_t rfl rfl (by first | rfl | exact beq_iff_eq.2 u1 | exact beq_iff_eq.2 u3 | exact beq_iff_eq.2 u5 | exact beq_iff_eq.2 u6 | exact decide_eq_true u2 | exact decide_eq_true u7 | (simp; done)) rfl) ?_
 refine At.p (some 45) (P_move rfl rfl) ?_
 refine At.gy (t := 45) rfl (by first | rfl | exact beq_iff_eq.2 u1 | exact beq_iff_eq.2 u3 | exact beq_iff_eq.2 u5 | exact beq_iff_eq.2 u6 | exact decide_eq_true u2 | exact decide_eq_true u7 | (simp; done)) rfl rfl ?_
 refine At.p (some 46) (P_move rfl rfl) ?_
 refine At.gy (t := 45) rfl (by first | rfl | exact beq_iff_eq.2 u1 | exact beq_iff_eq.2 u3 | exact beq_iff_eq.2 u5 | exact beq_iff_eq.2 u6 | exact decide_eq_true u2 | exact decide_eq_true u7 | (simp; done)) rfl rfl ?_
 refine At.p (some 47) (P_cmp rfl rfl rfl rfl rfl rfl) ?_
 refine At.p (some 48) (P_pick_t rfl rfl (by first | rfl | exact beq_iff_eq.2 u1 | exact beq_iff_eq.2 u3 | exact beq_iff_eq.2 u5 | exact beq_iff_eq.2 u6 | exact decide_eq_true u2 | exact decide_eq_true u7 | (simp; done)) rfl) ?_
 refine At.p (some 49) (P_move rfl rfl) ?_
 refine At.gy (t := 49) rfl (by first | rfl | exact beq_iff_eq.2 u1 | exact beq_iff_eq.2 u3 | exact beq_iff_eq.2 u5 | exact beq_iff_eq.2 u6 | exact decide_eq_true u2 | exact decide_eq_true u7 | (simp; done)) rfl rfl ?_
 refine At.p (some 50) (P_move rfl rfl) ?_
 refine At.gy (t := 49) rfl (by first | rfl | exact beq_iff_eq.2 u1 | exact beq_iff_eq.2 u3 | exact beq_iff_eq.2 u5 | exact beq_iff_eq.2 u6 | exact decide_eq_true u2 | exact decide_eq_true u7 | (simp; done)) rfl rfl ?_
 refine At.p (some 51) (P_cmp rfl rfl rfl rfl rfl rfl) ?_
 refine At.p (some 52) (P_pick_t rfl rfl (by first | rfl | exact beq_iff_eq.2 u1 | exact beq_iff_eq.2 u3 | exact beq_iff_eq.2 u5 | exact beq_iff_eq.2 u6 | exact decide_eq_true u2 | exact decide_eq_true u7 | (simp; done)) rfl) ?_
 refine At.p (some 53) (P_move rfl rfl) ?_
 refine At.gy (t := 53) rfl (by first | rfl | exact beq_iff_eq.2 u1 | exact beq_iff_eq.2 u3 | exact beq_iff_eq.2 u5 | exact beq_iff_eq.2 u6 | exact decide_eq_true u2 | exact decide_eq_true u7 | (simp; done)) rfl rfl ?_
 refine At.p (some 54) (P_move rfl rfl) ?_
 refine At.gy (t := 53) rfl (by first | rfl | exact beq_iff_eq.2 u1 | exact beq_iff_eq.2 u3 | exact beq_iff_eq.2 u5 | exact beq_iff_eq.2 u6 | exact decide_eq_true u2 | exact decide_eq_true u7 | (simp; done)) rfl rfl ?_
 refine At.q (some 55) (Q_strA (l := (roT (dkS [1#8, 0#8, 0#8, 0#8, 0#8, 0#8, 0#8, 0#8, 0#8, 0#8, 0#8, 0#8, 0#8, 0#8, 0#8, 0#8, 0#8, 0#8, 0#8, 0#8, 0#8, 0#8, 0#8, 0#8, 0#8, 0#8, 0#8, 0#8, 0#8, 0#8, 0#8, 0#8]) (dvS [1#8, 0#8, 0#8, 0#8, 0#8, 0#8, 0#8, 0#8, 0#8, 0#8, 0#8, 0#8, 0#8, 0#8, 0#8, 0#8, 0#8, 0#8, 0#8, 0#8, 0#8, 0#8, 0#8, 0#8, 0#8, 0#8, 0#8, 0#8, 0#8, 0#8, 0#8, 0#8]) (5#64) (((rsT (dkS [1#8, 0#8, 0#8, 0#8, 0#8, 0#8, 0#8, 0#8, 0#8, 0#8, 0#8, 0#8, 0#8, 0#8, 0#8, 0#8, 0#8, 0#8, 0#8, 0#8, 0#8, 0#8, 0#8, 0#8, 0#8, 0#8, 0#8, 0#8, 0#8, 0#8, 0#8, 0#8]) (dvS [1#8, 0#8, 0#8, 0#8, 0#8, 0#8, 0#8, 0#8, 0#8, 0#8, 0#8, 0#8, 0#8, 0#8, 0#8, 0#8, 0#8, 0#8, 0#8, 0#8, 0#8, 0#8, 0#8, 0#8, 0#8, 0#8, 0#8, 0#8, 0#8, 0#8, 0#8, 0#8]) (5#64) 23 [104#8, 105#8] 3).drop 5).take (((rsT (dkS [1#8, 0#8, 0#8, 0#8, 0#8, 0#8, 0#8, 0#8, 0#8, 0#8, 0#8, 0#8, 0#8, 0#8, 0#8, 0#8, 0#8, 0#8, 0#8, 0#8, 0#8, 0#8, 0#8, 0#8, 0#8, 0#8, 0#8, 0#8, 0#8, 0#8, 0#8, 0#8]) (dvS [1#8, 0#8, 0#8, 0#8, 0#8, 0#8, 0#8, 0#8, 0#8, 0#8, 0#8, 0#8, 0#8, 0#8, 0#8, 0#8, 0#8, 0#8, 0#8, 0#8, 0#8, 0#8, 0#8, 0#8, 0#8, 0#8, 0#8, 0#8, 0#8, 0#8, 0#8, 0#8]) (5#64) 23 [104#8, 105#8] 3).length) - 5)))) (n := ((roT (dkS [1#8, 0#8, 0#8, 0#8, 0#8, 0#8, 0#8, 0#8, 0#8, 0#8, 0#8, 0#8, 0#8, 0#8, 0#8, 0#8, 0#8, 0#8, 0#8, 0#8, 0#8, 0#8, 0#8, 0#8, 0#8, 0#8, 0#8, 0#8, 0#8, 0#8, 0#8, 0#8]) (dvS [1#8, 0#8, 0#8, 0#8, 0#8, 0#8, 0#8, 0#8, 0#8, 0#8, 0#8, 0#8, 0#8, 0#8, 0#8, 0#8, 0#8, 0#8, 0#8, 0#8, 0#8, 0#8, 0#8, 0#8, 0#8, 0#8, 0#8, 0#8, 0#8, 0#8, 0#8, 0#8]) (5#64) (((rsT (dkS [1#8, 0#8, 0#8, 0#8, 0#8, 0#8, 0#8, 0#8, 0#8, 0#8, 0#8, 0#8, 0#8, 0#8, 0#8, 0#8, 0#8, 0#8, 0#8, 0#8, 0#8, 0#8, 0#8, 0#8, 0#8, 0#8, 0#8, 0#8, 0#8, 0#8, 0#8, 0#8]) (dvS [1#8, 0#8, 0#8, 0#8, 0#8, 0#8, 0#8, 0#8, 0#8, 0#8, 0#8, 0#8, 0#8, 0#8, 0#8, 0#8, 0#8, 0#8, 0#8, 0#8, 0#8, 0#8, 0#8, 0#8, 0#8, 0#8, 0#8, 0#8, 0#8, 0#8, 0#8, 0#8]) (5#64) 23 [104#8, 105#8] 3).drop 5).take (((rsT (dkS [1#8, 0#8, 0#8, 0#8, 0#8, 0#8, 0#8, 0#8, 0#8, 0#8, 0#8, 0#8, 0#8, 0#8, 0#8, 0#8, 0#8, 0#8, 0#8, 0#8, 0#8, 0#8, 0#8, 0#8, 0#8, 0#8, 0#8, 0#8, 0#8, 0#8, 0#8, 0#8]) (dvS [1#8, 0#8, 0#8, 0#8, 0#8, 0#8, 0#8, 0#8, 0#8, 0#8, 0#8, 0#8, 0#8, 0#8, 0#8, 0#8, 0#8, 0#8, 0#8, 0#8, 0#8, 0#8, 0#8, 0#8, 0#8, 0#8, 0#8, 0#8, 0#8, 0#8, 0#8, 0#8]) (5#64) 23 [104#8, 105#8] 3).length) - 5))).length)) (k := 30) LN rfl Tryd.underlying29 Tryd.underlying5 Tryd.underlying9 rfl g30a (fun _ => ⟨rfl, rfl, rfl⟩)) ?_
 refine At.gy (t := 53) rfl (by first | rfl | exact beq_iff_eq.2 u1 | exact beq_iff_eq.2 u3 | exact beq_iff_eq.2 u5 | exact beq_iff_eq.2 u6 | exact decide_eq_true u2 | exact decide_eq_true u7 | (simp; done)) rfl rfl ?_
 refine At.p (some 56) (P_eql_str (a := (roT (dkS [1#8, 0#8, 0#8, 0#8, 0#8, 0#8, 0#8, 0#8, 0#8, 0#8, 0#8, 0#8, 0#8, 0#8, 0#8, 0#8, 0#8, 0#8, 0#8, 0#8, 0#8, 0#8, 0#8, 0#8, 0#8, 0#8, 0#8, 0#8, 0#8, 0#8, 0#8, 0#8]) (dvS [1#8, 0#8, 0#8, 0#8, 0#8, 0#8, 0#8, 0#8, 0#8, 0#8, 0#8, 0#8, 0#8, 0#8, 0#8, 0#8, 0#8, 0#8, 0#8, 0#8, 0#8, 0#8, 0#8, 0#8, 0#8, 0#8, 0#8, 0#8, 0#8, 0#8, 0#8, 0#8]) (5#64) (((rsT (dkS [1#8, 0#8, 0#8, 0#8, 0#8, 0#8, 0#8, 0#8, 0#8, 0#8, 0#8, 0#8, 0#8, 0#8, 0#8, 0#8, 0#8, 0#8, 0#8, 0#8, 0#8, 0#8, 0#8, 0#8, 0#8, 0#8, 0#8, 0#8, 0#8, 0#8, 0#8, 0#8]) (dvS [1#8, 0#8, 0#8, 0#8, 0#8, 0#8, 0#8, 0#8, 0#8, 0#8, 0#8, 0#8, 0#8, 0#8, 0#8, 0#8, 0#8, 0#8, 0#8, 0#8, 0#8, 0#8, 0#8, 0#8, 0#8, 0#8, 0#8, 0#8, 0#8, 0#8, 0#8, 0#8]) (5#64) 23 [104#8, 105#8] 3).drop 5).take (((rsT (dkS [1#8, 0#8, 0#8, 0#8, 0#8, 0#8, 0#8, 0#8, 0#8, 0#8, 0#8, 0#8, 0#8, 0#8, 0#8, 0#8, 0#8, 0#8, 0#8, 0#8, 0#8, 0#8, 0#8, 0#8, 0#8, 0#8, 0#8, 0#8, 0#8, 0#8, 0#8, 0#8]) (dvS [1#8, 0#8, 0#8, 0#8, 0#8, 0#8, 0#8, 0#8, 0#8, 0#8, 0#8, 0#8, 0#8, 0#8, 0#8, 0#8, 0#8, 0#8, 0#8, 0#8, 0#8, 0#8, 0#8, 0#8, 0#8, 0#8, 0#8, 0#8, 0#8, 0#8, 0#8, 0#8]) (5#64) 23 [104#8, 105#8] 3).length) - 5)))) (b := [104#8, 105#8]) rfl rfl rfl) ?_
 refine At.p (some 57) (P_pick_t rfl rfl (by first | rfl | exact beq_iff_eq.2 u1 | exact beq_iff_eq.2 u3 | exact beq_iff_eq.2 u5 | exact beq_iff_eq.2 u6 | exact decide_eq_true u2 | exact decide_eq_true u7 | (simp; done)) rfl) ?_
 refine At.p (some 0) (P_assign rfl rfl) ?_
 refine At.nil ?_
 refine At.next ?_
 refine At.ret ?_
 have hq0 : (decide ((roT (dkS [1#8, 0#8, 0#8, 0#8, 0#8, 0#8, 0#8, 0#8, 0#8, 0#8, 0#8, 0#8, 0#8, 0#8, 0#8, 0#8, 0#8, 0#8, 0#8, 0#8, 0#8, 0#8, 0#8, 0#8, 0#8, 0#8, 0#8, 0#8, 0#8, 0#8, 0#8, 0#8]) (dvS [1#8, 0#8, 0#8, 0#8, 0#8, 0#8, 0#8, 0#8, 0#8, 0#8, 0#8, 0#8, 0#8, 0#8, 0#8, 0#8, 0#8, 0#8, 0#8, 0#8, 0#8, 0#8, 0#8, 0#8, 0#8, 0#8, 0#8, 0#8, 0#8, 0#8, 0#8, 0#8]) (5#64) (((rsT (dkS [1#8, 0#8, 0#8, 0#8, 0#8, 0#8, 0#8, 0#8, 0#8, 0#8, 0#8, 0#8, 0#8, 0#8, 0#8, 0#8, 0#8, 0#8, 0#8, 0#8, 0#8, 0#8, 0#8, 0#8, 0#8, 0#8, 0#8, 0#8, 0#8, 0#8, 0#8, 0#8]) (dvS [1#8, 0#8, 0#8, 0#8, 0#8, 0#8, 0#8, 0#8, 0#8, 0#8, 0#8, 0#8, 0#8, 0#8, 0#8, 0#8, 0#8, 0#8, 0#8, 0#8, 0#8, 0#8, 0#8, 0#8, 0#8, 0#8, 0#8, 0#8, 0#8, 0#8, 0#8, 0#8]) (5#64) 23 [104#8, 105#8] 3).drop 5).take (((rsT (dkS [1#8, 0#8, 0#8, 0#8, 0#8, 0#8, 0#8, 0#8, 0#8, 0#8, 0#8, 0#8, 0#8, 0#8, 0#8, 0#8, 0#8, 0#8, 0#8, 0#8, 0#8, 0#8, 0#8, 0#8, 0#8, 0#8, 0#8, 0#8, 0#8, 0#8, 0#8, 0#8]) (dvS [1#8, 0#8, 0#8, 0#8, 0#8, 0#8, 0#8, 0#8, 0#8, 0#8, 0#8, 0#8, 0#8, 0#8, 0#8, 0#8, 0#8, 0#8, 0#8, 0#8, 0#8, 0#8, 0#8, 0#8, 0#8, 0#8, 0#8, 0#8, 0#8, 0#8, 0#8, 0#8]) (5#64) 23 [104#8, 105#8] 3).length) - 5))) = [104#8, 105#8])) = true := (by first | rfl | exact beq_iff_eq.2 u1 | exact beq_iff_eq.2 u3 | exact beq_iff_eq.2 u5 | exact beq_iff_eq.2 u6 | exact decide_eq_true u2 | exact decide_eq_true u7 | (simp; done))
 refine At.give (.inl rfl) [] (rows' := []) (vs := [_]) rfl ⟨rfl, trivial⟩ rfl (by simp) (by simp) ⟨(by first | (rw [hq0]; try rfl; done) | (rw [← hq0]; try rfl; done) | (simp only [hq0]; try rfl; done) | (simp only [← hq0]; try rfl; done) | rfl), (by first | (rw [hq0]; try rfl; done) | (rw [← hq0]; try rfl; done) | (simp only [hq0]; try rfl; done) | (simp only [← hq0]; try rfl; done) | rfl)⟩


end Go.Proofs.YtablmdbonibjaaaDoor

