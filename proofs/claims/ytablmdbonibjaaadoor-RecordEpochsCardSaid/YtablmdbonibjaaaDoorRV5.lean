import Derived.Test.YtablmdbonibjaaaDoorRV3
namespace Go.Proofs.YtablmdbonibjaaaDoor
set_option maxRecDepth 20000
set_option linter.unusedVariables false
set_option linter.unusedSimpArgs false
open Go.SE Go.RowKit
attribute [local irreducible] macS sumS labS expS sealS openT openE openOk aTag streamS
attribute [local irreducible] dkS dvS nxS nnS nnI hdR rsT rsB rsE rpT rpE roE roK roT roX roO kdOk trN trL trK inR
attribute [local irreducible] nxI
set_option maxHeartbeats 2000000 in
theorem l_Opens {key : List (BitVec 8)} {iv : List (BitVec 8)} {seq : BitVec 64} {kd : Int} {pad : Int} {txt : List (BitVec 8)} {Atxt : Option Addr} {ntxt ctxt btxt qtxt : Nat} {d0 : Int} {d1 : Int} (hkey : key.length = 32) (hiv : iv.length = 12) (hntxt : txt.length = ntxt) (hAtxt : 0 < ntxt → Atxt = some ⟨btxt, qtxt, none⟩) (hctxt : ntxt ≤ ctxt) :
  Con Tryd.prog 4 [.agg ([(key).map u8V, (iv).map u8V, [u64V seq, iV kd, iV pad]].flatten).toArray, .slice Atxt ntxt ctxt, .agg ([iV d0, iV d1]).toArray] [pRow btxt qtxt txt] (fun v rs => v = .bool true ∧ rs = []) := by
 refine Con.enter Tryd.func4 Tryd.ntmps4 (Nat.le_of_ble_eq_true rfl) rfl fun w => ?_
 refine At.seq ?_
 refine At.region ?_
 refine At.s (S_box (some 3) 3 (zs := [(key).map u8V, (iv).map u8V, [u64V seq, iV kd, iV pad]].flatten) rfl rfl rfl (fun b3 => ?_))
 refine At.s (S_box (some 5) 5 (zs := [iV d0, iV d1]) rfl rfl rfl (fun b5 => ?_))
 refine At.p (some 6) (P_assign rfl rfl) ?_
 refine At.nil ?_
 refine At.next ?_
 refine At.seq ?_
 have htl : (txt.take (min ntxt 280 - 0)).length ≤ 280 := by rw [List.length_take]; omega
 refine At.region ?_
 refine At.p (some 18) (P_move rfl rfl) ?_
 refine At.p (some 19) (P_move rfl rfl) ?_
 refine At.p (some 20) (P_len_sl rfl rfl ⟨_, Tryd.underlying29⟩ rfl) ?_
 refine At.p (some 21) (P_min2 rfl rfl rfl rfl) ?_
 refine At.p (some 22) (P_slice_sl (l := 0) (h := (min ntxt 280)) (m := ctxt) rfl Tryd.underlying29 sz5 rfl rfl ⟨_, _, rfl, by omega⟩ rfl DO DO DO) ?_
 refine At.p (some 1) (P_assign rfl rfl) ?_
 refine At.nil ?_
 refine At.next ?_
 refine At.seq ?_
 refine At.region ?_
 refine At.p (some 23) (P_move rfl rfl) ?_
 refine At.p (some 24) (P_len_sl rfl rfl ⟨_, Tryd.underlying29⟩ rfl) ?_
 refine At.p (some 25) (P_add_i rfl rfl rfl (by omega)) ?_
 refine At.s (S_callV (some 26) [] [26] (vs := [_, _]) rfl en17 rfl V0 (by simp) (r_hd (t := 23) (n := ((((min ntxt 280) - 0) : Int) + 16)) ) (by rintro _ _ ⟨A26, b26, c26, g26a, g26b, rfl, rfl⟩; rfl) ?_)
 rintro _ _ ⟨A26, b26, c26, g26a, g26b, rfl, rfl⟩
 have := hdR_len 23 ((((min ntxt 280) - 0) : Int) + 16)
 refine At.p (some 7) (P_assign rfl rfl) ?_
 refine At.nil ?_
 refine At.next ?_
 refine At.seq ?_
 refine At.draws 10 [] [.q false [0, 1, 2, 3, 4, 5, 6, 7, 8, 9]] (by kernel_rfl) (by kernel_rfl) ?_
 refine At.wp (some 27) (P_fieldAddr0 (off := 0) rfl Tryd.underlying28 rfl sz25 rfl rfl) ?_
 refine At.wp (some 28) (P_fieldAddr0 (off := 0) rfl Tryd.underlying25 rfl sz22 rfl rfl) ?_
 refine At.wq (some 29) (Q_loadN (k := 3) (j := 0) (cs := (key).map u8V) rfl rfl Tryd.underlying22 rfl sz22 rfl rfl rfl (seg_at (i := 0) rfl LN LN) LN) ?_
 refine At.wp (some 30) (P_fieldAddr0 (off := 0) rfl Tryd.underlying28 rfl sz25 rfl rfl) ?_
 refine At.wq (some 31) (Q_loadN (k := 3) (j := 0) (cs := [(key).map u8V, (iv).map u8V].flatten) rfl rfl Tryd.underlying25 rfl sz25 rfl rfl rfl (seg_ats (i := 0) (c := 2) rfl LN LN) LN) ?_
 refine At.wp (some 32) (P_fieldAddr0 (off := 44) rfl Tryd.underlying28 rfl sz26 rfl rfl) ?_
 refine At.wq (some 33) (Q_loadO (k := 3) rfl rfl Tryd.underlying26 rfl rfl (seg_get (i := 2) (p := 0) rfl LN rfl)) ?_
 refine At.wcV (some 34) [] (vs := [_, _]) rfl en19 rfl V0 (r_Non (key := key) (iv := iv) (seq := seq) LN LN) ?_
 have := nnS_len iv seq
 refine At.wp (some 35) (P_move rfl rfl) ?_
 refine At.wp (some 36) (P_move rfl rfl) ?_
 refine At.wqn ?_
 refine At.wt rfl ?_
 refine At.s (S_callV (some 37) [(0, _), (26, _)] [37] (vs := [_, _, _, _]) rfl en18 rfl (VN (by simp) rfl (View.sub (j := 0) (m := ((min ntxt 280) - 0)) RO rfl) (VN (by simp) rfl View.all V0)) (by simp) (r_SealN (key := key) (nonce := (nnS iv seq)) (b := (txt.take ((min ntxt 280) - 0))) (more := (hdR 23 ((((min ntxt 280) - 0) : Int) + 16))) (nb := ((min ntxt 280) - 0)) (nm := ((hdR 23 ((((min ntxt 280) - 0) : Int) + 16)).length)) (A := (cut Atxt 0 ctxt 1)) (A2 := A26) (bq := btxt) (q := qtxt) (br := b26) (r := 0) LN LN LN LN (fun h => cut_zero (hAtxt (by omega))) (fun h => g26a (by omega)) OG OG) (by rintro _ _ ⟨A37, b37, c37, g37a, g37b, rfl, rfl⟩; rfl) ?_)
 rintro _ _ ⟨A37, b37, c37, g37a, g37b, rfl, rfl⟩
 have := sealS_len key (nnS iv seq) (txt.take ((min ntxt 280) - 0)) (hdR 23 ((((min ntxt 280) - 0) : Int) + 16))
 refine At.p (some 8) (P_assign rfl rfl) ?_
 refine At.nil ?_
 refine At.next ?_
 refine At.seq ?_
 refine At.draws 14 [] [.q false [0, 1, 2, 3, 4, 5, 6, 7, 8, 9, 10, 11, 12, 13]] (by kernel_rfl) (by kernel_rfl) ?_
 refine At.wp (some 38) (P_move rfl rfl) ?_
 refine At.wp (some 39) (P_indexAddr_arr1 (j := 0) rfl Tryd.underlying45 sz3 rfl rfl rfl (by decide)) ?_
 refine At.wq (some 40) (Q_loadO (k := 5) rfl rfl Tryd.underlying3 rfl rfl rfl) ?_
 refine At.wp (some 41) (P_conv_iw UK.u64 rfl Tryd.underlying3 Tryd.underlying26 rfl) ?_
 refine At.wp (some 42) (P_move rfl rfl) ?_
 refine At.wp (some 43) (P_len_sl rfl rfl ⟨_, Tryd.underlying29⟩ rfl) ?_
 refine At.wp (some 44) (P_conv_iw UK.u64 rfl Tryd.underlying3 Tryd.underlying26 rfl) ?_
 refine At.wp (some 45) (P_rem_w UK.u64 rfl rfl rfl (umod_nz (n := (sealS key (nnS iv seq) (txt.take ((min ntxt 280) - 0)) (hdR 23 ((((min ntxt 280) - 0) : Int) + 16))).length) OG OG)) ?_
 obtain ⟨k46, hk46, hek46, hdk46⟩ := umod_n ((BitVec.ofInt 64 d0)) ((sealS key (nnS iv seq) (txt.take ((min ntxt 280) - 0)) (hdR 23 ((((min ntxt 280) - 0) : Int) + 16))).length) OG OG
 refine At.wp (some 46) (P_conv_WiE hek46 rfl Tryd.underlying26 Tryd.underlying3 rfl) ?_
 refine At.wp (some 47) (P_indexAddr_slz (b := b37) (j := k46) rfl Tryd.underlying29 sz5 rfl ((fun h => g37a (by omega)) OG) rfl RO OG) ?_
 refine At.wq (some 48) (Q_loadM (k := 37) (f := u8V) (l := (sealS key (nnS iv seq) (txt.take ((min ntxt 280) - 0)) (hdR 23 ((((min ntxt 280) - 0) : Int) + 16)))) (0#8) rfl rfl Tryd.underlying5 rfl rfl OG) ?_
 refine At.wp (some 49) (P_indexAddr_arr1 (j := 1) rfl Tryd.underlying45 sz3 rfl rfl rfl (by decide)) ?_
 refine At.wq (some 50) (Q_loadO (k := 5) rfl rfl Tryd.underlying3 rfl rfl rfl) ?_
 refine At.wp (some 51) (P_conv_iw UK.u8 rfl Tryd.underlying3 Tryd.underlying5 rfl) ?_
 refine At.wqn ?_
 refine At.wt rfl ?_
 refine At.p (some 52) (P_xor_w UK.u8 rfl rfl rfl) ?_
 refine At.p (some 53) (P_indexAddr_slz (b := b37) (j := k46) rfl Tryd.underlying29 sz5 rfl ((fun h => g37a (by omega)) OG) rfl RO OG) ?_
 refine At.s (S_storeM none (f := u8V) (l := (sealS key (nnS iv seq) (txt.take ((min ntxt 280) - 0)) (hdR 23 ((((min ntxt 280) - 0) : Int) + 16)))) (u := (((sealS key (nnS iv seq) (txt.take ((min ntxt 280) - 0)) (hdR 23 ((((min ntxt 280) - 0) : Int) + 16))).getD k46 0#8) ^^^ (BitVec.ofInt 8 d1))) (k := 37) rfl rfl rfl sz5 rfl rfl rfl OG ?_)
 refine At.nil ?_
 refine At.next ?_
 refine At.seq ?_
 refine At.draws 13 [] [.q false [0, 1, 2, 3, 4, 5], .e false 6, .q false [7, 8, 9, 10, 11, 12]] (by kernel_rfl) (by kernel_rfl) ?_
 refine At.wp (some 55) (P_fieldAddr0 (off := 0) rfl Tryd.underlying28 rfl sz25 rfl rfl) ?_
 refine At.wq (some 56) (Q_loadN (k := 3) (j := 0) (cs := [(key).map u8V, (iv).map u8V].flatten) rfl rfl Tryd.underlying25 rfl sz25 rfl rfl rfl (seg_ats (i := 0) (c := 2) rfl LN LN) LN) ?_
 refine At.wcV (some 57) [] (vs := [_]) rfl en10 rfl V0 (c_to (key := key) (iv := iv) LN LN) ?_
 refine At.wp (some 58) (P_fieldAddr0 (off := 44) rfl Tryd.underlying28 rfl sz26 rfl rfl) ?_
 refine At.wq (some 59) (Q_loadO (k := 3) rfl rfl Tryd.underlying26 rfl rfl (seg_get (i := 2) (p := 0) rfl LN rfl)) ?_
 refine At.wp (some 60) (P_move rfl rfl) ?_
 refine At.wqn ?_
 refine At.we ?_
 refine SStep.up (S_callV (some 61) [(37, _)] [61] (vs := [_, _, _]) rfl en15 rfl (VN (by simp) rfl View.all V0) (by simp) (c_ROpen (key := key) (iv := iv) (seq := seq) (b := ((sealS key (nnS iv seq) (txt.take ((min ntxt 280) - 0)) (hdR 23 ((((min ntxt 280) - 0) : Int) + 16))).set k46 (((sealS key (nnS iv seq) (txt.take ((min ntxt 280) - 0)) (hdR 23 ((((min ntxt 280) - 0) : Int) + 16))).getD k46 0#8) ^^^ (BitVec.ofInt 8 d1)))) (nb := ((sealS key (nnS iv seq) (txt.take ((min ntxt 280) - 0)) (hdR 23 ((((min ntxt 280) - 0) : Int) + 16))).length)) (Ab := A37) (cb := c37) (bb := b37) (qb := 0) LN LN LN (fun h => g37a (by omega)) OG OG) (by rintro _ _ ⟨A61, b61, c61, r61, m61, g61a, g61b, rfl, rfl⟩; rfl) ?_)
 rintro _ _ ⟨A61, b61, c61, r61, m61, g61a, g61b, rfl, rfl⟩
 refine At.forgetM 61 rfl ?_
 refine At.wp (some 54) (P_move rfl rfl) ?_
 refine At.wp (some 62) (P_extract rfl rfl rfl) ?_
 refine At.wp (some 63) (P_extract rfl rfl rfl) ?_
 refine At.wp (some 64) (P_extract rfl rfl rfl) ?_
 refine At.wp (some 9) (P_assign rfl rfl) ?_
 refine At.wp (some 10) (P_assign rfl rfl) ?_
 refine At.wqn ?_
 refine At.wt rfl ?_
 refine At.p (some 11) (P_assign rfl rfl) ?_
 refine At.nil ?_
 refine At.next ?_
 refine At.seq ?_
 refine At.region ?_
 refine At.p (some 66) (P_fieldAddr0 (off := 0) rfl Tryd.underlying28 rfl sz25 rfl rfl) ?_
 refine At.q (some 67) (Q_loadN (k := 3) (j := 0) (cs := [(key).map u8V, (iv).map u8V].flatten) rfl rfl Tryd.underlying25 rfl sz25 rfl rfl rfl (seg_ats (i := 0) (c := 2) rfl LN LN) LN) ?_
 refine At.p (some 68) (P_fieldAddr0 (off := 44) rfl Tryd.underlying28 rfl sz26 rfl rfl) ?_
 refine At.q (some 69) (Q_loadO (k := 3) rfl rfl Tryd.underlying26 rfl rfl (seg_get (i := 2) (p := 0) rfl LN rfl)) ?_
 refine At.p (some 70) (P_move rfl rfl) ?_
 refine At.s (S_callV (some 71) [(37, _)] [71] (vs := [_, _, _]) rfl en16 rfl (VN (by simp) rfl View.all V0) (by simp) (r_ROpen (key := key) (iv := iv) (seq := seq) (b := ((sealS key (nnS iv seq) (txt.take ((min ntxt 280) - 0)) (hdR 23 ((((min ntxt 280) - 0) : Int) + 16))).set k46 (((sealS key (nnS iv seq) (txt.take ((min ntxt 280) - 0)) (hdR 23 ((((min ntxt 280) - 0) : Int) + 16))).getD k46 0#8) ^^^ (BitVec.ofInt 8 d1)))) (nb := ((sealS key (nnS iv seq) (txt.take ((min ntxt 280) - 0)) (hdR 23 ((((min ntxt 280) - 0) : Int) + 16))).length)) (Ab := A37) (cb := c37) (bb := b37) (qb := 0) LN LN LN (fun h => g37a (by omega)) OG OG) (by rintro _ _ ⟨A71, b71, c71, r71, m71, g71a, g71b, rfl, rfl⟩; rfl) ?_)
 rintro _ _ ⟨A71, b71, c71, r71, m71, g71a, g71b, rfl, rfl⟩
 refine At.forgetM 71 rfl ?_
 refine At.p (some 65) (P_move rfl rfl) ?_
 refine At.p (some 72) (P_extract rfl rfl rfl) ?_
 refine At.p (some 73) (P_extract rfl rfl rfl) ?_
 refine At.p (some 74) (P_extract rfl rfl rfl) ?_
 refine At.p (some 12) (P_assign rfl rfl) ?_
 refine At.p (some 13) (P_assign rfl rfl) ?_
 refine At.p (some 14) (P_assign rfl rfl) ?_
 refine At.nil ?_
 refine At.next ?_
 refine At.seq ?_
 refine At.draws 17 [] [.q false [0, 1, 2, 3, 4, 5, 6, 7, 8, 9], .e false 10, .q false [11, 12, 13, 14, 15, 16]] (by kernel_rfl) (by kernel_rfl) ?_
 refine At.wp (some 76) (P_fieldAddr0 (off := 0) rfl Tryd.underlying28 rfl sz25 rfl rfl) ?_
 refine At.wq (some 77) (Q_loadN (k := 3) (j := 0) (cs := [(key).map u8V, (iv).map u8V].flatten) rfl rfl Tryd.underlying25 rfl sz25 rfl rfl rfl (seg_ats (i := 0) (c := 2) rfl LN LN) LN) ?_
 refine At.wcV (some 78) [] (vs := [_]) rfl en10 rfl V0 (c_to (key := key) (iv := iv) LN LN) ?_
 refine At.wp (some 79) (P_fieldAddr0 (off := 44) rfl Tryd.underlying28 rfl sz26 rfl rfl) ?_
 refine At.wq (some 80) (Q_loadO (k := 3) rfl rfl Tryd.underlying26 rfl rfl (seg_get (i := 2) (p := 0) rfl LN rfl)) ?_
 refine At.wp (some 81) (P_move rfl rfl) ?_
 refine At.wp (some 82) (P_move rfl rfl) ?_
 refine At.wp (some 83) (P_len_sl rfl rfl ⟨_, Tryd.underlying29⟩ rfl) ?_
 refine At.wp (some 84) (P_min2 rfl rfl rfl rfl) ?_
 refine At.wp (some 85) (P_slice_sl (l := 0) (h := (min ((sealS key (nnS iv seq) (txt.take ((min ntxt 280) - 0)) (hdR 23 ((((min ntxt 280) - 0) : Int) + 16))).length) 15)) (m := c37) rfl Tryd.underlying29 sz5 rfl rfl ⟨_, _, rfl, by omega⟩ rfl DO DO DO) ?_
 refine At.wqn ?_
 refine At.we ?_
 refine SStep.up (S_callV (some 86) [(37, _)] [86] (vs := [_, _, _]) rfl en15 rfl (VN (by simp) rfl (View.sub (j := 0) (m := ((min ((sealS key (nnS iv seq) (txt.take ((min ntxt 280) - 0)) (hdR 23 ((((min ntxt 280) - 0) : Int) + 16))).length) 15) - 0)) RO rfl) V0) (by simp) (c_ROpen (key := key) (iv := iv) (seq := seq) (b := (((sealS key (nnS iv seq) (txt.take ((min ntxt 280) - 0)) (hdR 23 ((((min ntxt 280) - 0) : Int) + 16))).set k46 (((sealS key (nnS iv seq) (txt.take ((min ntxt 280) - 0)) (hdR 23 ((((min ntxt 280) - 0) : Int) + 16))).getD k46 0#8) ^^^ (BitVec.ofInt 8 d1))).take ((min ((sealS key (nnS iv seq) (txt.take ((min ntxt 280) - 0)) (hdR 23 ((((min ntxt 280) - 0) : Int) + 16))).length) 15) - 0))) (nb := ((min ((sealS key (nnS iv seq) (txt.take ((min ntxt 280) - 0)) (hdR 23 ((((min ntxt 280) - 0) : Int) + 16))).length) 15) - 0)) (Ab := (cut A37 0 c37 1)) (cb := (c37 - 0)) (bb := b37) (qb := 0) LN LN LN (fun h => cut_zero ((fun h => g37a (by omega)) (by omega))) OG OG) (by rintro _ _ ⟨A86, b86, c86, r86, m86, g86a, g86b, rfl, rfl⟩; rfl) ?_)
 rintro _ _ ⟨A86, b86, c86, r86, m86, g86a, g86b, rfl, rfl⟩
 refine At.forgetM 86 rfl ?_
 refine At.wp (some 75) (P_move rfl rfl) ?_
 refine At.wp (some 87) (P_extract rfl rfl rfl) ?_
 refine At.wp (some 88) (P_extract rfl rfl rfl) ?_
 refine At.wp (some 89) (P_extract rfl rfl rfl) ?_
 refine At.wp (some 15) (P_assign rfl rfl) ?_
 refine At.wp (some 16) (P_assign rfl rfl) ?_
 refine At.wqn ?_
 refine At.wt rfl ?_
 refine At.p (some 17) (P_assign rfl rfl) ?_
 refine At.nil ?_
 refine At.next ?_
 refine At.seq ?_
 refine At.region ?_
 refine At.s (S_callV (some 90) [] [] (vs := []) rfl en14 rfl V0 (by simp) (c_seals  ) (by rintro _ _ ⟨rfl, rfl⟩; rfl) ?_)
 rintro _ _ ⟨rfl, rfl⟩
 refine At.p (some 91) (P_move rfl rfl) ?_
 refine At.gy (t := 91) rfl (by first | rfl | (simp; done) | exact beq_iff_eq.2 (ro_short (by rw [List.length_take]; omega))) rfl rfl ?_
 refine At.p (some 92) (P_move rfl rfl) ?_
 refine At.gy (t := 91) rfl (by first | rfl | (simp; done) | exact beq_iff_eq.2 (ro_short (by rw [List.length_take]; omega))) rfl rfl ?_
 refine At.p (some 93) (P_move rfl rfl) ?_
 refine At.gy (t := 91) rfl (by first | rfl | (simp; done) | exact beq_iff_eq.2 (ro_short (by rw [List.length_take]; omega))) rfl rfl ?_
 refine At.p (some 94) (P_cmp rfl rfl rfl rfl rfl rfl) ?_
 refine At.p (some 95) (P_pick_t rfl rfl (by first | rfl | (simp; done) | exact beq_iff_eq.2 (ro_short (by rw [List.length_take]; omega))) rfl) ?_
 refine At.p (some 96) (P_move rfl rfl) ?_
 refine At.gy (t := 96) rfl (by first | rfl | (simp; done) | exact beq_iff_eq.2 (ro_short (by rw [List.length_take]; omega))) rfl rfl ?_
 refine At.p (some 97) (P_move rfl rfl) ?_
 refine At.gy (t := 96) rfl (by first | rfl | (simp; done) | exact beq_iff_eq.2 (ro_short (by rw [List.length_take]; omega))) rfl rfl ?_
 refine At.q (some 98) (Q_strA (l := (roT key iv seq ((sealS key (nnS iv seq) (txt.take ((min ntxt 280) - 0)) (hdR 23 ((((min ntxt 280) - 0) : Int) + 16))).set k46 (((sealS key (nnS iv seq) (txt.take ((min ntxt 280) - 0)) (hdR 23 ((((min ntxt 280) - 0) : Int) + 16))).getD k46 0#8) ^^^ (BitVec.ofInt 8 d1))))) (n := ((roT key iv seq ((sealS key (nnS iv seq) (txt.take ((min ntxt 280) - 0)) (hdR 23 ((((min ntxt 280) - 0) : Int) + 16))).set k46 (((sealS key (nnS iv seq) (txt.take ((min ntxt 280) - 0)) (hdR 23 ((((min ntxt 280) - 0) : Int) + 16))).getD k46 0#8) ^^^ (BitVec.ofInt 8 d1)))).length)) (k := 61) LN rfl Tryd.underlying29 Tryd.underlying5 Tryd.underlying9 rfl g61a (fun _ => ⟨rfl, rfl, rfl⟩)) ?_
 refine At.gy (t := 96) rfl (by first | rfl | (simp; done) | exact beq_iff_eq.2 (ro_short (by rw [List.length_take]; omega))) rfl rfl ?_
 refine At.p (some 99) (P_move rfl rfl) ?_
 refine At.gy (t := 96) rfl (by first | rfl | (simp; done) | exact beq_iff_eq.2 (ro_short (by rw [List.length_take]; omega))) rfl rfl ?_
 refine At.q (some 100) (Q_strA (l := (roT key iv seq ((sealS key (nnS iv seq) (txt.take ((min ntxt 280) - 0)) (hdR 23 ((((min ntxt 280) - 0) : Int) + 16))).set k46 (((sealS key (nnS iv seq) (txt.take ((min ntxt 280) - 0)) (hdR 23 ((((min ntxt 280) - 0) : Int) + 16))).getD k46 0#8) ^^^ (BitVec.ofInt 8 d1))))) (n := ((roT key iv seq ((sealS key (nnS iv seq) (txt.take ((min ntxt 280) - 0)) (hdR 23 ((((min ntxt 280) - 0) : Int) + 16))).set k46 (((sealS key (nnS iv seq) (txt.take ((min ntxt 280) - 0)) (hdR 23 ((((min ntxt 280) - 0) : Int) + 16))).getD k46 0#8) ^^^ (BitVec.ofInt 8 d1)))).length)) (k := 71) LN rfl Tryd.underlying29 Tryd.underlying5 Tryd.underlying9 rfl g71a (fun _ => ⟨rfl, rfl, rfl⟩)) ?_
 refine At.gy (t := 96) rfl (by first | rfl | (simp; done) | exact beq_iff_eq.2 (ro_short (by rw [List.length_take]; omega))) rfl rfl ?_
 refine At.p (some 101) (P_eql_str (a := (roT key iv seq ((sealS key (nnS iv seq) (txt.take ((min ntxt 280) - 0)) (hdR 23 ((((min ntxt 280) - 0) : Int) + 16))).set k46 (((sealS key (nnS iv seq) (txt.take ((min ntxt 280) - 0)) (hdR 23 ((((min ntxt 280) - 0) : Int) + 16))).getD k46 0#8) ^^^ (BitVec.ofInt 8 d1))))) (b := (roT key iv seq ((sealS key (nnS iv seq) (txt.take ((min ntxt 280) - 0)) (hdR 23 ((((min ntxt 280) - 0) : Int) + 16))).set k46 (((sealS key (nnS iv seq) (txt.take ((min ntxt 280) - 0)) (hdR 23 ((((min ntxt 280) - 0) : Int) + 16))).getD k46 0#8) ^^^ (BitVec.ofInt 8 d1))))) rfl rfl rfl) ?_
 refine At.p (some 102) (P_pick_t rfl rfl (by first | rfl | (simp; done) | exact beq_iff_eq.2 (ro_short (by rw [List.length_take]; omega))) rfl) ?_
 refine At.p (some 103) (P_move rfl rfl) ?_
 refine At.gy (t := 103) rfl (by first | rfl | (simp; done) | exact beq_iff_eq.2 (ro_short (by rw [List.length_take]; omega))) rfl rfl ?_
 refine At.p (some 104) (P_move rfl rfl) ?_
 refine At.gy (t := 103) rfl (by first | rfl | (simp; done) | exact beq_iff_eq.2 (ro_short (by rw [List.length_take]; omega))) rfl rfl ?_
 refine At.p (some 105) (P_move rfl rfl) ?_
 refine At.gy (t := 103) rfl (by first | rfl | (simp; done) | exact beq_iff_eq.2 (ro_short (by rw [List.length_take]; omega))) rfl rfl ?_
 refine At.p (some 106) (P_cmp rfl rfl rfl rfl rfl rfl) ?_
 refine At.p (some 107) (P_pick_t rfl rfl (by first | rfl | (simp; done) | exact beq_iff_eq.2 (ro_short (by rw [List.length_take]; omega))) rfl) ?_
 refine At.p (some 108) (P_move rfl rfl) ?_
 refine At.gy (t := 108) rfl (by first | rfl | (simp; done) | exact beq_iff_eq.2 (ro_short (by rw [List.length_take]; omega))) rfl rfl ?_
 refine At.p (some 109) (P_move rfl rfl) ?_
 refine At.gy (t := 108) rfl (by first | rfl | (simp; done) | exact beq_iff_eq.2 (ro_short (by rw [List.length_take]; omega))) rfl rfl ?_
 refine At.p (some 110) (P_cmp rfl rfl rfl rfl rfl rfl) ?_
 refine At.p (some 111) (P_pick_t rfl rfl (by first | rfl | (simp; done) | exact beq_iff_eq.2 (ro_short (by rw [List.length_take]; omega))) rfl) ?_
 refine At.p (some 6) (P_assign rfl rfl) ?_
 refine At.nil ?_
 refine At.next ?_
 refine At.ret ?_
 have hq0 : ((roE key iv seq (((sealS key (nnS iv seq) (txt.take ((min ntxt 280) - 0)) (hdR 23 ((((min ntxt 280) - 0) : Int) + 16))).set k46 (((sealS key (nnS iv seq) (txt.take ((min ntxt 280) - 0)) (hdR 23 ((((min ntxt 280) - 0) : Int) + 16))).getD k46 0#8) ^^^ (BitVec.ofInt 8 d1))).take ((min ((sealS key (nnS iv seq) (txt.take ((min ntxt 280) - 0)) (hdR 23 ((((min ntxt 280) - 0) : Int) + 16))).length) 15) - 0))) == 4) = true := (by first | rfl | (simp; done) | exact beq_iff_eq.2 (ro_short (by rw [List.length_take]; omega)))
 refine At.give (.inl rfl) [] (rows' := []) (vs := [_]) rfl ⟨rfl, trivial⟩ rfl (by simp) (by simp) ⟨(by first | (rw [hq0]; try rfl; done) | (rw [← hq0]; try rfl; done) | (simp only [hq0]; try rfl; done) | (simp only [← hq0]; try rfl; done) | rfl), (by first | (rw [hq0]; try rfl; done) | (rw [← hq0]; try rfl; done) | (simp only [hq0]; try rfl; done) | (simp only [← hq0]; try rfl; done) | rfl)⟩

set_option maxHeartbeats 2000000 in
theorem l_Epochs {s : List (BitVec 8)} {n : Int} {txt : List (BitVec 8)} {Atxt : Option Addr} {ntxt ctxt btxt qtxt : Nat} (hs : s.length = 32) (hntxt : txt.length = ntxt) (hAtxt : 0 < ntxt → Atxt = some ⟨btxt, qtxt, none⟩) (hctxt : ntxt ≤ ctxt) :
    Con Tryd.prog 7 [aggK s, iV n, .slice Atxt ntxt ctxt] [pRow btxt qtxt txt] (fun v rs => v = .bool true ∧ rs = []) := by
  refine Con.enter Tryd.func7 Tryd.ntmps7 (Nat.le_of_ble_eq_true rfl) rfl fun w => ?_
  refine At.seq ?_
  refine At.region ?_
  refine At.s (S_box (some 3) 3 (zs := (s).map u8V) rfl rfl rfl (fun b3 => ?_))
  refine At.p (some 6) (P_assign rfl rfl) ?_
  refine At.nil ?_
  refine At.next ?_
  refine At.seq ?_
  have htl : (txt.take (min ntxt 100 - 0)).length ≤ 100 := by rw [List.length_take]; omega
  refine At.region ?_
  refine At.p (some 20) (P_move rfl rfl) ?_
  refine At.p (some 21) (P_conv_iw UK.u64 rfl Tryd.underlying3 Tryd.underlying26 rfl) ?_
  refine At.p (some 22) (P_rem_w UK.u64 (b := 6#64) rfl rfl rfl (by decide)) ?_
  obtain ⟨k23, hk23, hek23, hdk23⟩ := umod_c ((BitVec.ofInt 64 n)) 6#64 (by decide) (by decide)
  have hk23 : k23 < 6 := hk23
  refine At.p (some 23) (P_conv_WiE hek23 rfl Tryd.underlying26 Tryd.underlying3 rfl) ?_
  refine At.p (some 7) (P_assign rfl rfl) ?_
  refine At.nil ?_
  refine At.next ?_
  refine At.seq ?_
  refine At.region ?_
  refine At.p (some 24) (P_move rfl rfl) ?_
  refine At.p (some 25) (P_move rfl rfl) ?_
  refine At.p (some 26) (P_len_sl rfl rfl ⟨_, Tryd.underlying29⟩ rfl) ?_
  refine At.p (some 27) (P_min2 rfl rfl rfl rfl) ?_
  refine At.p (some 28) (P_slice_sl (l := 0) (h := (min ntxt 100)) (m := ctxt) rfl Tryd.underlying29 sz5 rfl rfl ⟨_, _, rfl, by omega⟩ rfl DO DO DO) ?_
  refine At.p (some 2) (P_assign rfl rfl) ?_
  refine At.nil ?_
  refine At.next ?_
  refine At.seq ?_
  refine At.region ?_
  refine At.q (some 29) (Q_loadA (k := 3) rfl rfl Tryd.underlying22 rfl sz22 LN rfl) ?_
  refine At.s (S_alloc (some 8) 8 (zs := (List.replicate 32 0#8).map u8V) rfl ze22 rfl (fun b8 => ?_))
  refine At.s (S_storeA none (k := 8) (vs := (s).map u8V) rfl rfl rfl (by rw [sz22]; exact congrArg some LN) rfl (one_map (fun _ => rfl)) NG rfl LN ?_)
  refine At.nil ?_
  refine At.next ?_
  refine At.seq ?_
  refine At.seq ?_
  refine At.region ?_
  refine At.p (some 9) (P_assign rfl rfl) ?_
  refine At.nil ?_
  refine At.next ?_
  refine At.block ?_
  refine At.loopx (I := fun m fr H => ∃ (i : Nat), m = k23 - i ∧ fr = frOf [(0, aggK s), (1, iV n), (2, .slice (cut Atxt 0 ctxt 1) ((min ntxt 100) - 0) (ctxt - 0)), (3, ptr b3 0), (6, .bool false), (7, iV (k23 : Int)), (8, ptr b8 0), (9, iV (i : Int)), (20, iV n), (21, u64V (BitVec.ofInt 64 n)), (22, u64V ((BitVec.ofInt 64 n) % 6#64)), (23, iV (k23 : Int)), (24, .slice Atxt ntxt ctxt), (25, .slice Atxt ntxt ctxt), (26, iV (ntxt : Int)), (27, iV (min (ntxt : Int) 100)), (28, .slice (cut Atxt 0 ctxt 1) ((min ntxt 100) - 0) (ctxt - 0)), (29, aggK s)] ∧ H = hOf [(0, pRow btxt qtxt txt), (3, ⟨true, b3, 0, 22, (s).map u8V, 0⟩), (8, ⟨true, b8, 0, 22, ((nxI s i)).map u8V, 0⟩)] ∧ (i ≤ k23)) ?_ ?_
  · intro Kc0 hKc0
    refine At.to [(0, _), (1, _), (2, _), (3, _), (6, _), (7, _), (8, _), (9, _), (20, _), (21, _), (22, _), (23, _), (24, _), (25, _), (26, _), (27, _), (28, _), (29, _)] [(0, _), (3, _), (8, ⟨true, b8, 0, 22, ((nxI s 0)).map u8V, 0⟩)] (AllL.cons_ (rfl) (AllL.cons_ (rfl) (AllL.cons_ (rfl) (AllL.cons_ (rfl) (AllL.cons_ (rfl) (AllL.cons_ (rfl) (AllL.cons_ (rfl) (AllL.cons_ (rfl) (AllL.cons_ (rfl) (AllL.cons_ (rfl) (AllL.cons_ (rfl) (AllL.cons_ (rfl) (AllL.cons_ (rfl) (AllL.cons_ (rfl) (AllL.cons_ (rfl) (AllL.cons_ (rfl) (AllL.cons_ (rfl) (AllL.cons_ (rfl) trivial)))))))))))))))))) (AllL.cons_ (rfl) (AllL.cons_ (rfl) (AllL.cons_ ((by rw [nxI_zero]; rfl)) trivial))) ?_
    exact hKc0 _ _ _ ⟨0, rfl, rfl, rfl, (by omega)⟩
  · rintro m fr H ⟨i, rfl, rfl, rfl, hi⟩ Kc0 hKc0
    have hnl := nxI_len hs i
    refine At.seq ?_
    refine At.seq ?_
    refine At.region ?_
    refine At.p (some 30) (P_move rfl rfl) ?_
    refine At.p (some 31) (P_move rfl rfl) ?_
    refine At.p (some 32) (P_cmp rfl rfl rfl rfl rfl rfl) ?_
    refine At.nil ?_
    refine At.next ?_
    refine At.cond rfl (fun h32 => ?_) (fun h32 => ?_)
    · -- cond 32 t
      have e32 : (i : Int) < (k23 : Int) := of_decide_eq_true h32
      refine At.skip ?_
      refine At.next ?_
      refine At.seq ?_
      refine At.block ?_
      refine At.region ?_
      refine At.q (some 35) (Q_loadA (k := 8) rfl rfl Tryd.underlying22 rfl sz22 LN rfl) ?_
      refine At.s (S_callV (some 36) [] [] (vs := [_]) rfl en23 rfl V0 (by simp) (c_Nx (s := (nxI s i)) LN) (by rintro _ _ ⟨rfl, rfl⟩; rfl) ?_)
      rintro _ _ ⟨rfl, rfl⟩
      have := nxS_len (nxI s i)
      refine At.s (S_storeA none (k := 8) (vs := (nxS (nxI s i)).map u8V) rfl rfl rfl (by rw [sz22]; exact congrArg some LN) rfl (one_map (fun _ => rfl)) NG rfl LN ?_)
      refine At.nil ?_
      refine At.inb_n ?_
      refine At.next ?_
      refine At.region ?_
      refine At.p (some 33) (P_move rfl rfl) ?_
      refine At.p (some 34) (P_add_i rfl rfl rfl (by omega)) ?_
      refine At.p (some 9) (P_assign rfl rfl) ?_
      refine At.nil ?_
      refine At.next ?_
      refine At.to [(0, _), (1, _), (2, _), (3, _), (6, _), (7, _), (8, _), (9, _), (20, _), (21, _), (22, _), (23, _), (24, _), (25, _), (26, _), (27, _), (28, _), (29, _)] [(0, _), (3, _), (8, ⟨true, b8, 0, 22, ((nxI s (i + 1))).map u8V, 0⟩)] (AllL.cons_ (rfl) (AllL.cons_ (rfl) (AllL.cons_ (rfl) (AllL.cons_ (rfl) (AllL.cons_ (rfl) (AllL.cons_ (rfl) (AllL.cons_ (rfl) (AllL.cons_ (rfl) (AllL.cons_ (rfl) (AllL.cons_ (rfl) (AllL.cons_ (rfl) (AllL.cons_ (rfl) (AllL.cons_ (rfl) (AllL.cons_ (rfl) (AllL.cons_ (rfl) (AllL.cons_ (rfl) (AllL.cons_ (rfl) (AllL.cons_ (rfl) trivial)))))))))))))))))) (AllL.cons_ (rfl) (AllL.cons_ (rfl) (AllL.cons_ ((by rw [nxI_succ]; rfl)) trivial))) ?_
      exact hKc0 _ _ _ (by omega) ⟨i + 1, rfl, rfl, rfl, (by omega)⟩
    · -- cond 32 f
      have e32 : ¬ (i : Int) < (k23 : Int) := of_decide_eq_false h32
      refine At.exit ?_
      refine At.thn_e ?_
      refine At.thn_e ?_
      refine At.inb_hit ?_
      refine At.next ?_
      refine At.seq ?_
      obtain rfl : k23 = i := by omega
      have hnl := nxI_len hs k23
      refine At.region ?_
      refine At.q (some 38) (Q_loadA (k := 8) rfl rfl Tryd.underlying22 rfl sz22 LN rfl) ?_
      refine At.s (S_callV (some 39) [] [] (vs := [_]) rfl en20 rfl V0 (by simp) (c_Der (s := (nxI s k23)) LN) (by rintro _ _ ⟨rfl, rfl⟩; rfl) ?_)
      rintro _ _ ⟨rfl, rfl⟩
      have := dkS_len (nxI s k23)
      have := dvS_len (nxI s k23)
      refine At.p (some 40) (P_move rfl rfl) ?_
      refine At.s (S_callV (some 41) [(0, _)] [41] (vs := [_, _, _, _, _]) rfl en9 rfl (VN (by simp) rfl (View.sub (j := 0) (m := ((min ntxt 100) - 0)) RO rfl) V0) (by simp) (c_RSeal (key := (dkS (nxI s k23))) (iv := (dvS (nxI s k23))) (seq := (1#64)) (kd := 23) (txt := (txt.take ((min ntxt 100) - 0))) (ntxt := ((min ntxt 100) - 0)) (Atxt := (cut Atxt 0 ctxt 1)) (ctxt := (ctxt - 0)) (btxt := btxt) (qtxt := qtxt) (pad := 0) LN LN LN (fun h => cut_zero (hAtxt (by omega))) OG) (by rintro _ _ ⟨A41, b41, c41, g41a, g41b, rfl, rfl⟩; rfl) ?_)
      rintro _ _ ⟨A41, b41, c41, g41a, g41b, rfl, rfl⟩
      have := rsT_le (dkS (nxI s k23)) (dvS (nxI s k23)) (1#64) 23 (txt.take ((min ntxt 100) - 0)) 0
      refine At.p (some 37) (P_move rfl rfl) ?_
      refine At.p (some 42) (P_extract rfl rfl rfl) ?_
      refine At.p (some 43) (P_extract rfl rfl rfl) ?_
      refine At.p (some 10) (P_assign rfl rfl) ?_
      refine At.p (some 11) (P_assign rfl rfl) ?_
      refine At.nil ?_
      refine At.next ?_
      refine At.seq ?_
      refine At.seq ?_
      have hv : rsOk 23 (txt.take (min ntxt 100 - 0)).length 0 = true := decide_eq_true (by omega)
      have zE := rsE_t hv
      obtain ⟨z0, z1, z2⟩ := rs_open (key := dkS (nxI s k23)) (iv := dvS (nxI s k23)) (seq := 1#64) hv
      have zL := rsT_len (key := dkS (nxI s k23)) (iv := dvS (nxI s k23)) (seq := 1#64) hv
      refine At.region ?_
      refine At.s (S_callV (some 44) [] [] (vs := []) rfl en14 rfl V0 (by simp) (c_seals  ) (by rintro _ _ ⟨rfl, rfl⟩; rfl) ?_)
      rintro _ _ ⟨rfl, rfl⟩
      refine At.p (some 45) (P_not rfl rfl) ?_
      refine At.p (some 46) (P_move rfl rfl) ?_
      refine At.gy (t := 46) rfl (by first | rfl | (simp; done)) rfl rfl ?_
      refine At.p (some 47) (P_move rfl rfl) ?_
      refine At.gy (t := 46) rfl (by first | rfl | (simp; done)) rfl rfl ?_
      refine At.p (some 48) (P_cmp rfl rfl rfl rfl rfl rfl) ?_
      refine At.p (some 49) (P_pick_f rfl rfl (by first | rfl | (simp; done)) rfl) ?_
      refine At.nil ?_
      refine At.next ?_
      refine At.cond rfl (fun h49 => (by exfalso; rw [zE] at h49; exact absurd h49 (by decide))) (fun h49 => ?_)
      have e49 : (rsE 23 (txt.take ((min ntxt 100) - 0)).length 0) = 0 := bne_eq_false_iff_eq.1 h49
      refine At.skip ?_
      refine At.next ?_
      refine At.seq ?_
      refine At.region ?_
      refine At.q (some 50) (Q_loadA (k := 3) rfl rfl Tryd.underlying22 rfl sz22 LN rfl) ?_
      refine At.s (S_alloc (some 12) 12 (zs := (List.replicate 32 0#8).map u8V) rfl ze22 rfl (fun b12 => ?_))
      refine At.s (S_storeA none (k := 12) (vs := (s).map u8V) rfl rfl rfl (by rw [sz22]; exact congrArg some LN) rfl (one_map (fun _ => rfl)) NG rfl LN ?_)
      refine At.nil ?_
      refine At.next ?_
      refine At.seq ?_
      refine At.seq ?_
      refine At.region ?_
      refine At.p (some 13) (P_assign rfl rfl) ?_
      refine At.nil ?_
      refine At.next ?_
      refine At.block ?_
      refine At.loopx (I := fun m fr H => ∃ (i : Nat), m = 7 - i ∧ fr = frOf [(2, .slice (cut Atxt 0 ctxt 1) ((min ntxt 100) - 0) (ctxt - 0)), (7, iV (k23 : Int)), (10, .slice A41 ((rsT (dkS (nxI s k23)) (dvS (nxI s k23)) (1#64) 23 (txt.take ((min ntxt 100) - 0)) 0).length) c41), (12, ptr b12 0), (13, iV (i : Int))] ∧ H = hOf [(0, pRow btxt qtxt txt), (12, ⟨true, b12, 0, 22, ((nxI s i)).map u8V, 0⟩), (41, ⟨true, b41, 0, 5, (rsT (dkS (nxI s k23)) (dvS (nxI s k23)) (1#64) 23 (txt.take ((min ntxt 100) - 0)) 0).map u8V, c41 - (rsT (dkS (nxI s k23)) (dvS (nxI s k23)) (1#64) 23 (txt.take ((min ntxt 100) - 0)) 0).length⟩)] ∧ (i ≤ 7)) ?_ ?_
      · intro Kc1 hKc1
        refine At.to [(2, _), (7, _), (10, _), (12, _), (13, _)] [(0, _), (12, ⟨true, b12, 0, 22, ((nxI s 0)).map u8V, 0⟩), (41, _)] (AllL.cons_ (rfl) (AllL.cons_ (rfl) (AllL.cons_ (rfl) (AllL.cons_ (rfl) (AllL.cons_ (rfl) trivial))))) (AllL.cons_ (rfl) (AllL.cons_ ((by rw [nxI_zero]; rfl)) (AllL.cons_ (rfl) trivial))) ?_
        exact hKc1 _ _ _ ⟨0, rfl, rfl, rfl, (by omega)⟩
      · rintro m fr H ⟨i, rfl, rfl, rfl, hi⟩ Kc1 hKc1
        have hnl := nxI_len hs i
        refine At.seq ?_
        refine At.seq ?_
        refine At.region ?_
        refine At.p (some 51) (P_move rfl rfl) ?_
        refine At.p (some 52) (P_cmp rfl rfl rfl rfl rfl rfl) ?_
        refine At.nil ?_
        refine At.next ?_
        refine At.cond rfl (fun h52 => ?_) (fun h52 => ?_)
        · -- cond 52 t
          have e52 : (i : Int) < 7 := of_decide_eq_true h52
          refine At.skip ?_
          refine At.next ?_
          refine At.seq ?_
          refine At.block ?_
          refine At.seq ?_
          refine At.draws 11 [] [.q false [0, 1, 2, 3], .e false 4, .q false [5, 6, 7, 8, 9, 10]] (by kernel_rfl) (by kernel_rfl) ?_
          refine At.wq (some 56) (Q_loadA (k := 12) rfl rfl Tryd.underlying22 rfl sz22 LN rfl) ?_
          refine At.wcV (some 57) [] (vs := [_]) rfl en20 rfl V0 (c_Der (s := (nxI s i)) LN) ?_
          have := dkS_len (nxI s i)
          have := dvS_len (nxI s i)
          refine At.wp (some 58) (P_move rfl rfl) ?_
          refine At.wp (some 59) (P_slice_sl (l := 5) (h := (rsT (dkS (nxI s k23)) (dvS (nxI s k23)) (1#64) 23 (txt.take ((min ntxt 100) - 0)) 0).length) (m := c41) rfl Tryd.underlying29 sz5 rfl ⟨_, _, rfl, rfl⟩ rfl rfl DO DO DO) ?_
          refine At.wqn ?_
          refine At.we ?_
          refine SStep.up (S_callV (some 60) [(41, _)] [60] (vs := [_, _, _]) rfl en15 rfl (VN (by simp) rfl (View.sub (j := 5) (m := (((rsT (dkS (nxI s k23)) (dvS (nxI s k23)) (1#64) 23 (txt.take ((min ntxt 100) - 0)) 0).length) - 5)) rfl rfl) V0) (by simp) (c_ROpen (key := (dkS (nxI s i))) (iv := (dvS (nxI s i))) (seq := (1#64)) (b := (((rsT (dkS (nxI s k23)) (dvS (nxI s k23)) (1#64) 23 (txt.take ((min ntxt 100) - 0)) 0).drop 5).take (((rsT (dkS (nxI s k23)) (dvS (nxI s k23)) (1#64) 23 (txt.take ((min ntxt 100) - 0)) 0).length) - 5))) (nb := (((rsT (dkS (nxI s k23)) (dvS (nxI s k23)) (1#64) 23 (txt.take ((min ntxt 100) - 0)) 0).length) - 5)) (Ab := (cut A41 5 c41 1)) (cb := (c41 - 5)) (bb := b41) (qb := (0 + 5)) LN LN LN (fun h => cut_addr1 ((fun h => g41a (by omega)) (by omega)) (by omega)) OG OG) (by rintro _ _ ⟨A60, b60, c60, r60, m60, g60a, g60b, rfl, rfl⟩; rfl) ?_)
          rintro _ _ ⟨A60, b60, c60, r60, m60, g60a, g60b, rfl, rfl⟩
          refine At.forgetM 60 rfl ?_
          refine At.wp (some 55) (P_move rfl rfl) ?_
          refine At.wp (some 61) (P_extract rfl rfl rfl) ?_
          refine At.wp (some 62) (P_extract rfl rfl rfl) ?_
          refine At.wp (some 63) (P_extract rfl rfl rfl) ?_
          refine At.wp (some 14) (P_assign rfl rfl) ?_
          refine At.wp (some 15) (P_assign rfl rfl) ?_
          refine At.wqn ?_
          refine At.wt rfl ?_
          refine At.p (some 16) (P_assign rfl rfl) ?_
          refine At.nil ?_
          refine At.next ?_
          refine At.seq ?_
          refine At.draws 11 [] [.q false [0, 1, 2, 3], .e false 4, .q false [5, 6, 7, 8, 9, 10]] (by kernel_rfl) (by kernel_rfl) ?_
          refine At.wq (some 65) (Q_loadA (k := 12) rfl rfl Tryd.underlying22 rfl sz22 LN rfl) ?_
          refine At.wcV (some 66) [] (vs := [_]) rfl en22 rfl V0 (r_Der (s := (nxI s i)) LN) ?_
          have := dkS_len (nxI s i)
          have := dvS_len (nxI s i)
          refine At.wp (some 67) (P_move rfl rfl) ?_
          refine At.wp (some 68) (P_slice_sl (l := 5) (h := (rsT (dkS (nxI s k23)) (dvS (nxI s k23)) (1#64) 23 (txt.take ((min ntxt 100) - 0)) 0).length) (m := c41) rfl Tryd.underlying29 sz5 rfl ⟨_, _, rfl, rfl⟩ rfl rfl DO DO DO) ?_
          refine At.wqn ?_
          refine At.we ?_
          refine SStep.up (S_callV (some 69) [(41, _)] [69] (vs := [_, _, _]) rfl en16 rfl (VN (by simp) rfl (View.sub (j := 5) (m := (((rsT (dkS (nxI s k23)) (dvS (nxI s k23)) (1#64) 23 (txt.take ((min ntxt 100) - 0)) 0).length) - 5)) rfl rfl) V0) (by simp) (r_ROpen (key := (dkS (nxI s i))) (iv := (dvS (nxI s i))) (seq := (1#64)) (b := (((rsT (dkS (nxI s k23)) (dvS (nxI s k23)) (1#64) 23 (txt.take ((min ntxt 100) - 0)) 0).drop 5).take (((rsT (dkS (nxI s k23)) (dvS (nxI s k23)) (1#64) 23 (txt.take ((min ntxt 100) - 0)) 0).length) - 5))) (nb := (((rsT (dkS (nxI s k23)) (dvS (nxI s k23)) (1#64) 23 (txt.take ((min ntxt 100) - 0)) 0).length) - 5)) (Ab := (cut A41 5 c41 1)) (cb := (c41 - 5)) (bb := b41) (qb := (0 + 5)) LN LN LN (fun h => cut_addr1 ((fun h => g41a (by omega)) (by omega)) (by omega)) OG OG) (by rintro _ _ ⟨A69, b69, c69, r69, m69, g69a, g69b, rfl, rfl⟩; rfl) ?_)
          rintro _ _ ⟨A69, b69, c69, r69, m69, g69a, g69b, rfl, rfl⟩
          refine At.forgetM 69 rfl ?_
          refine At.wp (some 64) (P_move rfl rfl) ?_
          refine At.wp (some 70) (P_extract rfl rfl rfl) ?_
          refine At.wp (some 71) (P_extract rfl rfl rfl) ?_
          refine At.wp (some 72) (P_extract rfl rfl rfl) ?_
          refine At.wp (some 17) (P_assign rfl rfl) ?_
          refine At.wp (some 18) (P_assign rfl rfl) ?_
          refine At.wqn ?_
          refine At.wt rfl ?_
          refine At.p (some 19) (P_assign rfl rfl) ?_
          refine At.nil ?_
          refine At.next ?_
          refine At.seq ?_
          refine At.seq ?_
          refine At.region ?_
          refine At.p (some 73) (P_move rfl rfl) ?_
          refine At.p (some 74) (P_move rfl rfl) ?_
          refine At.p (some 75) (P_cmp rfl rfl rfl rfl rfl rfl) ?_
          refine At.p (some 76) (P_move rfl rfl) ?_
          refine At.gy (t := 76) rfl (by first | rfl | (simp; done)) rfl rfl ?_
          refine At.p (some 77) (P_move rfl rfl) ?_
          refine At.gy (t := 76) rfl (by first | rfl | (simp; done)) rfl rfl ?_
          refine At.q (some 78) (Q_strA (l := (roT (dkS (nxI s i)) (dvS (nxI s i)) (1#64) (((rsT (dkS (nxI s k23)) (dvS (nxI s k23)) (1#64) 23 (txt.take ((min ntxt 100) - 0)) 0).drop 5).take (((rsT (dkS (nxI s k23)) (dvS (nxI s k23)) (1#64) 23 (txt.take ((min ntxt 100) - 0)) 0).length) - 5)))) (n := ((roT (dkS (nxI s i)) (dvS (nxI s i)) (1#64) (((rsT (dkS (nxI s k23)) (dvS (nxI s k23)) (1#64) 23 (txt.take ((min ntxt 100) - 0)) 0).drop 5).take (((rsT (dkS (nxI s k23)) (dvS (nxI s k23)) (1#64) 23 (txt.take ((min ntxt 100) - 0)) 0).length) - 5))).length)) (k := 60) LN rfl Tryd.underlying29 Tryd.underlying5 Tryd.underlying9 rfl g60a (fun _ => ⟨rfl, rfl, rfl⟩)) ?_
          refine At.gy (t := 76) rfl (by first | rfl | (simp; done)) rfl rfl ?_
          refine At.p (some 79) (P_move rfl rfl) ?_
          refine At.gy (t := 76) rfl (by first | rfl | (simp; done)) rfl rfl ?_
          refine At.q (some 80) (Q_strA (l := (roT (dkS (nxI s i)) (dvS (nxI s i)) (1#64) (((rsT (dkS (nxI s k23)) (dvS (nxI s k23)) (1#64) 23 (txt.take ((min ntxt 100) - 0)) 0).drop 5).take (((rsT (dkS (nxI s k23)) (dvS (nxI s k23)) (1#64) 23 (txt.take ((min ntxt 100) - 0)) 0).length) - 5)))) (n := ((roT (dkS (nxI s i)) (dvS (nxI s i)) (1#64) (((rsT (dkS (nxI s k23)) (dvS (nxI s k23)) (1#64) 23 (txt.take ((min ntxt 100) - 0)) 0).drop 5).take (((rsT (dkS (nxI s k23)) (dvS (nxI s k23)) (1#64) 23 (txt.take ((min ntxt 100) - 0)) 0).length) - 5))).length)) (k := 69) LN rfl Tryd.underlying29 Tryd.underlying5 Tryd.underlying9 rfl g69a (fun _ => ⟨rfl, rfl, rfl⟩)) ?_
          refine At.gy (t := 76) rfl (by first | rfl | (simp; done)) rfl rfl ?_
          refine At.p (some 81) (P_neq_str (a := (roT (dkS (nxI s i)) (dvS (nxI s i)) (1#64) (((rsT (dkS (nxI s k23)) (dvS (nxI s k23)) (1#64) 23 (txt.take ((min ntxt 100) - 0)) 0).drop 5).take (((rsT (dkS (nxI s k23)) (dvS (nxI s k23)) (1#64) 23 (txt.take ((min ntxt 100) - 0)) 0).length) - 5)))) (b := (roT (dkS (nxI s i)) (dvS (nxI s i)) (1#64) (((rsT (dkS (nxI s k23)) (dvS (nxI s k23)) (1#64) 23 (txt.take ((min ntxt 100) - 0)) 0).drop 5).take (((rsT (dkS (nxI s k23)) (dvS (nxI s k23)) (1#64) 23 (txt.take ((min ntxt 100) - 0)) 0).length) - 5)))) rfl rfl rfl) ?_
          refine At.p (some 82) (P_pick_f rfl rfl (by first | rfl | (simp; done)) rfl) ?_
          refine At.p (some 83) (P_move rfl rfl) ?_
          refine At.gy (t := 83) rfl (by first | rfl | (simp; done)) rfl rfl ?_
          refine At.p (some 84) (P_move rfl rfl) ?_
          refine At.gy (t := 83) rfl (by first | rfl | (simp; done)) rfl rfl ?_
          refine At.p (some 85) (P_move rfl rfl) ?_
          refine At.gy (t := 83) rfl (by first | rfl | (simp; done)) rfl rfl ?_
          refine At.p (some 86) (P_cmp rfl rfl rfl rfl rfl rfl) ?_
          refine At.gy (t := 83) rfl (by first | rfl | (simp; done)) rfl rfl ?_
          refine At.p (some 87) (P_move rfl rfl) ?_
          refine At.gsplit (t := 87) (want := true) rfl (fun g1 => ?_) (fun g1 => ?_)
          ·
            have eg1 : (i : Int) = (k23 : Int) := eq_of_beq g1
            have hik : i = k23 := by omega
            refine At.gy (t := 87) rfl g1 rfl rfl ?_
            refine At.p (some 88) (P_move rfl rfl) ?_
            refine At.gy (t := 87) rfl g1 rfl rfl ?_
            refine At.p (some 89) (P_cmp rfl rfl rfl rfl rfl rfl) ?_
            refine At.gy (t := 87) rfl g1 rfl rfl ?_
            refine At.p (some 90) (P_move rfl rfl) ?_
            refine At.gy (t := 90) rfl (bne_eq_false_iff_eq.2 (by rw [hik]; exact z0)) rfl rfl ?_
            refine At.p (some 91) (P_move rfl rfl) ?_
            refine At.gy (t := 90) rfl (bne_eq_false_iff_eq.2 (by rw [hik]; exact z0)) rfl rfl ?_
            refine At.q (some 92) (Q_strA (l := (roT (dkS (nxI s i)) (dvS (nxI s i)) (1#64) (((rsT (dkS (nxI s k23)) (dvS (nxI s k23)) (1#64) 23 (txt.take ((min ntxt 100) - 0)) 0).drop 5).take (((rsT (dkS (nxI s k23)) (dvS (nxI s k23)) (1#64) 23 (txt.take ((min ntxt 100) - 0)) 0).length) - 5)))) (n := ((roT (dkS (nxI s i)) (dvS (nxI s i)) (1#64) (((rsT (dkS (nxI s k23)) (dvS (nxI s k23)) (1#64) 23 (txt.take ((min ntxt 100) - 0)) 0).drop 5).take (((rsT (dkS (nxI s k23)) (dvS (nxI s k23)) (1#64) 23 (txt.take ((min ntxt 100) - 0)) 0).length) - 5))).length)) (k := 60) LN rfl Tryd.underlying29 Tryd.underlying5 Tryd.underlying9 rfl g60a (fun _ => ⟨rfl, rfl, rfl⟩)) ?_
            refine At.gy (t := 90) rfl (bne_eq_false_iff_eq.2 (by rw [hik]; exact z0)) rfl rfl ?_
            refine At.p (some 93) (P_move rfl rfl) ?_
            refine At.gy (t := 90) rfl (bne_eq_false_iff_eq.2 (by rw [hik]; exact z0)) rfl rfl ?_
            refine At.q (some 94) (Q_strP (l := txt) (n := ((min ntxt 100) - 0)) (k := 0) (j := 0) OG rfl Tryd.underlying29 Tryd.underlying5 Tryd.underlying9 rfl (fun h => cut_zero (hAtxt (by omega))) (fun _ => ⟨rfl, rfl, (Nat.add_zero _)⟩)) ?_
            refine At.gy (t := 90) rfl (bne_eq_false_iff_eq.2 (by rw [hik]; exact z0)) rfl rfl ?_
            refine At.p (some 95) (P_neq_str (a := (roT (dkS (nxI s i)) (dvS (nxI s i)) (1#64) (((rsT (dkS (nxI s k23)) (dvS (nxI s k23)) (1#64) 23 (txt.take ((min ntxt 100) - 0)) 0).drop 5).take (((rsT (dkS (nxI s k23)) (dvS (nxI s k23)) (1#64) 23 (txt.take ((min ntxt 100) - 0)) 0).length) - 5)))) (b := (txt.take ((min ntxt 100) - 0))) rfl rfl rfl) ?_
            refine At.gy (t := 87) rfl g1 rfl rfl ?_
            refine At.p (some 96) (P_pick_f rfl rfl (bne_eq_false_iff_eq.2 (by rw [hik]; exact z0)) rfl) ?_
            refine At.gy (t := 83) rfl (by first | rfl | (simp; done)) rfl rfl ?_
            refine At.p (some 97) (P_pick_t rfl rfl g1 rfl) ?_
            refine At.p (some 98) (P_pick_f rfl rfl (by first | rfl | (simp; done)) rfl) ?_
            refine At.nil ?_
            refine At.next ?_
            refine At.cond rfl (fun h98 => (by exfalso; rw [hik, decide_eq_true z2] at h98; cases h98)) (fun h98 => ?_)
            have e98 : (roT (dkS (nxI s i)) (dvS (nxI s i)) (1#64) (((rsT (dkS (nxI s k23)) (dvS (nxI s k23)) (1#64) 23 (txt.take ((min ntxt 100) - 0)) 0).drop 5).take (((rsT (dkS (nxI s k23)) (dvS (nxI s k23)) (1#64) 23 (txt.take ((min ntxt 100) - 0)) 0).length) - 5))) = (txt.take ((min ntxt 100) - 0)) := (by first | (simp; done) | simpa using h98)
            refine At.skip ?_
            refine At.next ?_
            refine At.region ?_
            refine At.q (some 99) (Q_loadA (k := 12) rfl rfl Tryd.underlying22 rfl sz22 LN rfl) ?_
            refine At.s (S_callV (some 100) [] [] (vs := [_]) rfl en23 rfl V0 (by simp) (c_Nx (s := (nxI s i)) LN) (by rintro _ _ ⟨rfl, rfl⟩; rfl) ?_)
            rintro _ _ ⟨rfl, rfl⟩
            have := nxS_len (nxI s i)
            refine At.s (S_storeA none (k := 12) (vs := (nxS (nxI s i)).map u8V) rfl rfl rfl (by rw [sz22]; exact congrArg some LN) rfl (one_map (fun _ => rfl)) NG rfl LN ?_)
            refine At.nil ?_
            refine At.inb_n ?_
            refine At.next ?_
            refine At.region ?_
            refine At.p (some 53) (P_move rfl rfl) ?_
            refine At.p (some 54) (P_add_i rfl rfl rfl (by omega)) ?_
            refine At.p (some 13) (P_assign rfl rfl) ?_
            refine At.nil ?_
            refine At.next ?_
            refine At.to [(2, _), (7, _), (10, _), (12, _), (13, _)] [(0, _), (12, ⟨true, b12, 0, 22, ((nxI s (i + 1))).map u8V, 0⟩), (41, _)] (AllL.cons_ (rfl) (AllL.cons_ (rfl) (AllL.cons_ (rfl) (AllL.cons_ (rfl) (AllL.cons_ (rfl) trivial))))) (AllL.cons_ (rfl) (AllL.cons_ ((by rw [nxI_succ]; rfl)) (AllL.cons_ (rfl) trivial))) ?_
            exact hKc1 _ _ _ (by omega) ⟨i + 1, rfl, rfl, rfl, (by omega)⟩
          ·
            have eg1 : (i : Int) ≠ (k23 : Int) := beq_eq_false_iff_ne.1 g1
            refine At.gn (some 88) (t := 87) rfl g1 rfl rfl ?_
            refine At.gn (some 89) (t := 87) rfl g1 rfl rfl ?_
            refine At.gn (some 90) (t := 87) rfl g1 rfl rfl ?_
            refine At.gu (some 91) (t := 90) rfl rfl rfl ?_
            refine At.gu (some 92) (t := 90) rfl rfl rfl ?_
            refine At.gu (some 93) (t := 90) rfl rfl rfl ?_
            refine At.gu (some 94) (t := 90) rfl rfl rfl ?_
            refine At.gu (some 95) (t := 90) rfl rfl rfl ?_
            refine At.gn (some 96) (t := 87) rfl g1 rfl rfl ?_
            refine At.gy (t := 83) rfl (by first | rfl | (simp; done)) rfl rfl ?_
            refine At.p (some 97) (P_pick_f rfl rfl g1 rfl) ?_
            refine At.p (some 98) (P_pick_f rfl rfl (by first | rfl | (simp; done)) rfl) ?_
            refine At.nil ?_
            refine At.next ?_
            refine At.cond rfl (fun h => absurd (h.symm.trans rfl) (by decide)) (fun _ => ?_)
            refine At.skip ?_
            refine At.next ?_
            refine At.region ?_
            refine At.q (some 99) (Q_loadA (k := 12) rfl rfl Tryd.underlying22 rfl sz22 LN rfl) ?_
            refine At.s (S_callV (some 100) [] [] (vs := [_]) rfl en23 rfl V0 (by simp) (c_Nx (s := (nxI s i)) LN) (by rintro _ _ ⟨rfl, rfl⟩; rfl) ?_)
            rintro _ _ ⟨rfl, rfl⟩
            have := nxS_len (nxI s i)
            refine At.s (S_storeA none (k := 12) (vs := (nxS (nxI s i)).map u8V) rfl rfl rfl (by rw [sz22]; exact congrArg some LN) rfl (one_map (fun _ => rfl)) NG rfl LN ?_)
            refine At.nil ?_
            refine At.inb_n ?_
            refine At.next ?_
            refine At.region ?_
            refine At.p (some 53) (P_move rfl rfl) ?_
            refine At.p (some 54) (P_add_i rfl rfl rfl (by omega)) ?_
            refine At.p (some 13) (P_assign rfl rfl) ?_
            refine At.nil ?_
            refine At.next ?_
            refine At.to [(2, _), (7, _), (10, _), (12, _), (13, _)] [(0, _), (12, ⟨true, b12, 0, 22, ((nxI s (i + 1))).map u8V, 0⟩), (41, _)] (AllL.cons_ (rfl) (AllL.cons_ (rfl) (AllL.cons_ (rfl) (AllL.cons_ (rfl) (AllL.cons_ (rfl) trivial))))) (AllL.cons_ (rfl) (AllL.cons_ ((by rw [nxI_succ]; rfl)) (AllL.cons_ (rfl) trivial))) ?_
            exact hKc1 _ _ _ (by omega) ⟨i + 1, rfl, rfl, rfl, (by omega)⟩
        · -- cond 52 f
          have e52 : ¬ (i : Int) < 7 := of_decide_eq_false h52
          refine At.exit ?_
          refine At.thn_e ?_
          refine At.thn_e ?_
          refine At.inb_hit ?_
          refine At.next ?_
          refine At.seq ?_
          refine At.region ?_
          refine At.p (some 6) (P_assign rfl rfl) ?_
          refine At.nil ?_
          refine At.next ?_
          refine At.ret ?_
          have hq0 : true = true := rfl
          refine At.give (.inl rfl) [] (rows' := []) (vs := [_]) rfl ⟨rfl, trivial⟩ rfl (by simp) (by simp) ⟨(by first | (rw [hq0]; try rfl; done) | (rw [← hq0]; try rfl; done) | (simp only [hq0]; try rfl; done) | (simp only [← hq0]; try rfl; done) | rfl), (by first | (rw [hq0]; try rfl; done) | (rw [← hq0]; try rfl; done) | (simp only [hq0]; try rfl; done) | (simp only [← hq0]; try rfl; done) | rfl)⟩


end Go.Proofs.YtablmdbonibjaaaDoor

