import Derived.Test.YtablmdbonibjaaaDoorRV3
namespace Go.Proofs.YtablmdbonibjaaaDoor
set_option maxRecDepth 20000
set_option linter.unusedVariables false
set_option linter.unusedSimpArgs false
open Go.SE Go.RowKit
attribute [local irreducible] macS sumS labS expS sealS openT openE openOk aTag streamS
attribute [local irreducible] dkS dvS nxS nnS nnI hdR rsT rsB rsE rpT rpE roE roK roT roX roO kdOk trN trL trK inR
set_option maxHeartbeats 2000000 in
theorem l_Seals_t {key : List (BitVec 8)} {iv : List (BitVec 8)} {seq : BitVec 64} {kd : Int} {pad : Int} {txt : List (BitVec 8)} {Atxt : Option Addr} {ntxt ctxt btxt qtxt : Nat} {y : BitVec 64} (hkey : key.length = 32) (hiv : iv.length = 12) (hntxt : txt.length = ntxt) (hAtxt : 0 < ntxt → Atxt = some ⟨btxt, qtxt, none⟩) (hctxt : ntxt ≤ ctxt) (hv : rsOk kd (txt.take (min ntxt 300 - 0)).length pad = true) :
  Con Tryd.prog 3 [.agg ([(key).map u8V, (iv).map u8V, [u64V seq, iV kd, iV pad]].flatten).toArray, .slice Atxt ntxt ctxt, u64V y] [pRow btxt qtxt txt] (fun v rs => v = .bool true ∧ rs = []) := by
 refine Con.enter Tryd.func3 Tryd.ntmps3 (Nat.le_of_ble_eq_true rfl) rfl fun w => ?_
 refine At.seq ?_
 refine At.region ?_
 refine At.s (S_box (some 3) 3 (zs := [(key).map u8V, (iv).map u8V, [u64V seq, iV kd, iV pad]].flatten) rfl rfl rfl (fun b3 => ?_))
 refine At.p (some 6) (P_assign rfl rfl) ?_
 refine At.nil ?_
 refine At.next ?_
 refine At.seq ?_
 have htl : (txt.take (min ntxt 300 - 0)).length ≤ 300 := by rw [List.length_take]; omega
 refine At.region ?_
 refine At.p (some 25) (P_move rfl rfl) ?_
 refine At.p (some 26) (P_move rfl rfl) ?_
 refine At.p (some 27) (P_len_sl rfl rfl ⟨_, Tryd.underlying29⟩ rfl) ?_
 refine At.p (some 28) (P_min2 rfl rfl rfl rfl) ?_
 refine At.p (some 29) (P_slice_sl (l := 0) (h := (min ntxt 300)) (m := ctxt) rfl Tryd.underlying29 sz5 rfl rfl ⟨_, _, rfl, by omega⟩ rfl DO DO DO) ?_
 refine At.p (some 1) (P_assign rfl rfl) ?_
 refine At.nil ?_
 refine At.next ?_
 refine At.seq ?_
 refine At.region ?_
 refine At.p (some 30) (P_move rfl rfl) ?_
 refine At.q (some 31) (Q_strP (l := txt) (n := ((min ntxt 300) - 0)) (k := 0) (j := 0) OG rfl Tryd.underlying29 Tryd.underlying5 Tryd.underlying9 rfl (fun h => cut_zero (hAtxt (by omega))) (fun _ => ⟨rfl, rfl, (Nat.add_zero _)⟩)) ?_
 refine At.p (some 7) (P_assign rfl rfl) ?_
 refine At.nil ?_
 refine At.next ?_
 refine At.seq ?_
 refine At.draws 15 [] [.q false [0, 1, 2, 3, 4, 5, 6, 7, 8, 9], .e false 10, .q false [11, 12, 13, 14]] (by kernel_rfl) (by kernel_rfl) ?_
 refine At.wp (some 33) (P_fieldAddr0 (off := 0) rfl Tryd.underlying28 rfl sz25 rfl rfl) ?_
 refine At.wq (some 34) (Q_loadN (k := 3) (j := 0) (cs := [(key).map u8V, (iv).map u8V].flatten) rfl rfl Tryd.underlying25 rfl sz25 rfl rfl rfl (seg_ats (i := 0) (c := 2) rfl LN LN) LN) ?_
 refine At.wcV (some 35) [] (vs := [_]) rfl en10 rfl V0 (c_to (key := key) (iv := iv) LN LN) ?_
 refine At.wp (some 36) (P_fieldAddr0 (off := 44) rfl Tryd.underlying28 rfl sz26 rfl rfl) ?_
 refine At.wq (some 37) (Q_loadO (k := 3) rfl rfl Tryd.underlying26 rfl rfl (seg_get (i := 2) (p := 0) rfl LN rfl)) ?_
 refine At.wp (some 38) (P_fieldAddr0 (off := 45) rfl Tryd.underlying28 rfl sz3 rfl rfl) ?_
 refine At.wq (some 39) (Q_loadO (k := 3) rfl rfl Tryd.underlying3 rfl rfl (seg_get (i := 2) (p := 1) rfl LN rfl)) ?_
 refine At.wp (some 40) (P_move rfl rfl) ?_
 refine At.wp (some 41) (P_fieldAddr0 (off := 46) rfl Tryd.underlying28 rfl sz3 rfl rfl) ?_
 refine At.wq (some 42) (Q_loadO (k := 3) rfl rfl Tryd.underlying3 rfl rfl (seg_get (i := 2) (p := 2) rfl LN rfl)) ?_
 refine At.wqn ?_
 refine At.we ?_
 refine SStep.up (S_callV (some 43) [(0, _)] [43] (vs := [_, _, _, _, _]) rfl en9 rfl (VN (by simp) rfl (View.sub (j := 0) (m := ((min ntxt 300) - 0)) RO rfl) V0) (by simp) (c_RSeal (key := key) (iv := iv) (seq := seq) (kd := kd) (txt := (txt.take ((min ntxt 300) - 0))) (ntxt := ((min ntxt 300) - 0)) (Atxt := (cut Atxt 0 ctxt 1)) (ctxt := (ctxt - 0)) (btxt := btxt) (qtxt := qtxt) (pad := pad) LN LN LN (fun h => cut_zero (hAtxt (by omega))) OG) (by rintro _ _ ⟨A43, b43, c43, g43a, g43b, rfl, rfl⟩; rfl) ?_)
 rintro _ _ ⟨A43, b43, c43, g43a, g43b, rfl, rfl⟩
 have := rsT_le key iv seq kd (txt.take ((min ntxt 300) - 0)) pad
 refine At.wp (some 32) (P_move rfl rfl) ?_
 refine At.wp (some 44) (P_extract rfl rfl rfl) ?_
 refine At.wp (some 45) (P_extract rfl rfl rfl) ?_
 refine At.wp (some 8) (P_assign rfl rfl) ?_
 refine At.wqn ?_
 refine At.wt rfl ?_
 refine At.p (some 9) (P_assign rfl rfl) ?_
 refine At.nil ?_
 refine At.next ?_
 refine At.seq ?_
 refine At.region ?_
 refine At.p (some 47) (P_fieldAddr0 (off := 0) rfl Tryd.underlying28 rfl sz25 rfl rfl) ?_
 refine At.q (some 48) (Q_loadN (k := 3) (j := 0) (cs := [(key).map u8V, (iv).map u8V].flatten) rfl rfl Tryd.underlying25 rfl sz25 rfl rfl rfl (seg_ats (i := 0) (c := 2) rfl LN LN) LN) ?_
 refine At.p (some 49) (P_fieldAddr0 (off := 44) rfl Tryd.underlying28 rfl sz26 rfl rfl) ?_
 refine At.q (some 50) (Q_loadO (k := 3) rfl rfl Tryd.underlying26 rfl rfl (seg_get (i := 2) (p := 0) rfl LN rfl)) ?_
 refine At.p (some 51) (P_fieldAddr0 (off := 45) rfl Tryd.underlying28 rfl sz3 rfl rfl) ?_
 refine At.q (some 52) (Q_loadO (k := 3) rfl rfl Tryd.underlying3 rfl rfl (seg_get (i := 2) (p := 1) rfl LN rfl)) ?_
 refine At.p (some 53) (P_move rfl rfl) ?_
 refine At.p (some 54) (P_fieldAddr0 (off := 46) rfl Tryd.underlying28 rfl sz3 rfl rfl) ?_
 refine At.q (some 55) (Q_loadO (k := 3) rfl rfl Tryd.underlying3 rfl rfl (seg_get (i := 2) (p := 2) rfl LN rfl)) ?_
 refine At.s (S_callV (some 56) [(0, _)] [56] (vs := [_, _, _, _, _]) rfl en11 rfl (VN (by simp) rfl (View.sub (j := 0) (m := ((min ntxt 300) - 0)) RO rfl) V0) (by simp) (r_RSeal (key := key) (iv := iv) (seq := seq) (kd := kd) (txt := (txt.take ((min ntxt 300) - 0))) (ntxt := ((min ntxt 300) - 0)) (Atxt := (cut Atxt 0 ctxt 1)) (ctxt := (ctxt - 0)) (btxt := btxt) (qtxt := qtxt) (pad := pad) LN LN LN (fun h => cut_zero (hAtxt (by omega))) OG) (by rintro _ _ ⟨A56, b56, c56, g56a, g56b, rfl, rfl⟩; rfl) ?_)
 rintro _ _ ⟨A56, b56, c56, g56a, g56b, rfl, rfl⟩
 have := rsT_le key iv seq kd (txt.take ((min ntxt 300) - 0)) pad
 refine At.p (some 46) (P_move rfl rfl) ?_
 refine At.p (some 57) (P_extract rfl rfl rfl) ?_
 refine At.p (some 58) (P_extract rfl rfl rfl) ?_
 refine At.p (some 10) (P_assign rfl rfl) ?_
 refine At.p (some 11) (P_assign rfl rfl) ?_
 refine At.nil ?_
 refine At.next ?_
 refine At.seq ?_
 refine At.region ?_
 refine At.p (some 60) (P_fieldAddr0 (off := 45) rfl Tryd.underlying28 rfl sz3 rfl rfl) ?_
 refine At.q (some 61) (Q_loadO (k := 3) rfl rfl Tryd.underlying3 rfl rfl (seg_get (i := 2) (p := 1) rfl LN rfl)) ?_
 refine At.p (some 62) (P_move rfl rfl) ?_
 refine At.s (S_callV (some 63) [(0, _)] [63] (vs := [_, _]) rfl en12 rfl (VN (by simp) rfl (View.sub (j := 0) (m := ((min ntxt 300) - 0)) RO rfl) V0) (by simp) (c_Plain (kd := kd) (txt := (txt.take ((min ntxt 300) - 0))) (ntxt := ((min ntxt 300) - 0)) (Atxt := (cut Atxt 0 ctxt 1)) (ctxt := (ctxt - 0)) (btxt := btxt) (qtxt := qtxt) LN (fun h => cut_zero (hAtxt (by omega))) OG) (by rintro _ _ ⟨A63, b63, c63, g63a, g63b, rfl, rfl⟩; rfl) ?_)
 rintro _ _ ⟨A63, b63, c63, g63a, g63b, rfl, rfl⟩
 refine At.p (some 59) (P_move rfl rfl) ?_
 refine At.p (some 64) (P_extract rfl rfl rfl) ?_
 refine At.p (some 65) (P_extract rfl rfl rfl) ?_
 refine At.p (some 12) (P_assign rfl rfl) ?_
 refine At.p (some 13) (P_assign rfl rfl) ?_
 refine At.nil ?_
 refine At.next ?_
 refine At.seq ?_
 refine At.region ?_
 refine At.p (some 67) (P_fieldAddr0 (off := 45) rfl Tryd.underlying28 rfl sz3 rfl rfl) ?_
 refine At.q (some 68) (Q_loadO (k := 3) rfl rfl Tryd.underlying3 rfl rfl (seg_get (i := 2) (p := 1) rfl LN rfl)) ?_
 refine At.p (some 69) (P_move rfl rfl) ?_
 refine At.s (S_callV (some 70) [(0, _)] [70] (vs := [_, _]) rfl en13 rfl (VN (by simp) rfl (View.sub (j := 0) (m := ((min ntxt 300) - 0)) RO rfl) V0) (by simp) (r_Plain (kd := kd) (txt := (txt.take ((min ntxt 300) - 0))) (ntxt := ((min ntxt 300) - 0)) (Atxt := (cut Atxt 0 ctxt 1)) (ctxt := (ctxt - 0)) (btxt := btxt) (qtxt := qtxt) LN (fun h => cut_zero (hAtxt (by omega))) OG) (by rintro _ _ ⟨A70, b70, c70, g70a, g70b, rfl, rfl⟩; rfl) ?_)
 rintro _ _ ⟨A70, b70, c70, g70a, g70b, rfl, rfl⟩
 refine At.p (some 66) (P_move rfl rfl) ?_
 refine At.p (some 71) (P_extract rfl rfl rfl) ?_
 refine At.p (some 72) (P_extract rfl rfl rfl) ?_
 refine At.p (some 14) (P_assign rfl rfl) ?_
 refine At.p (some 15) (P_assign rfl rfl) ?_
 refine At.nil ?_
 refine At.next ?_
 refine At.seq ?_
 refine At.seq ?_
 have zE := rsE_t hv
 have zO := hv
 obtain ⟨z0, z1, z2⟩ := rs_open (key := key) (iv := iv) (seq := seq) hv
 have zL := rsT_len (key := key) (iv := iv) (seq := seq) hv
 refine At.region ?_
 refine At.s (S_callV (some 73) [] [] (vs := []) rfl en14 rfl V0 (by simp) (c_seals  ) (by rintro _ _ ⟨rfl, rfl⟩; rfl) ?_)
 rintro _ _ ⟨rfl, rfl⟩
 refine At.p (some 74) (P_not rfl rfl) ?_
 refine At.p (some 75) (P_move rfl rfl) ?_
 refine At.gy (t := 75) rfl (by first | rfl | (simp only [zE, zO, z0, z1, z2]; done) | (simp only [zE, zO, z0, z1, z2]; simp; done) | (simp [rpE_ok]; done) | (rcases rpE_01 kd (txt.take (min ntxt 300 - 0)).length with h | h <;> simp_all) | (simp; done)) rfl rfl ?_
 refine At.p (some 76) (P_move rfl rfl) ?_
 refine At.gy (t := 75) rfl (by first | rfl | (simp only [zE, zO, z0, z1, z2]; done) | (simp only [zE, zO, z0, z1, z2]; simp; done) | (simp [rpE_ok]; done) | (rcases rpE_01 kd (txt.take (min ntxt 300 - 0)).length with h | h <;> simp_all) | (simp; done)) rfl rfl ?_
 refine At.p (some 77) (P_cmp rfl rfl rfl rfl rfl rfl) ?_
 refine At.gy (t := 75) rfl (by first | rfl | (simp only [zE, zO, z0, z1, z2]; done) | (simp only [zE, zO, z0, z1, z2]; simp; done) | (simp [rpE_ok]; done) | (rcases rpE_01 kd (txt.take (min ntxt 300 - 0)).length with h | h <;> simp_all) | (simp; done)) rfl rfl ?_
 refine At.p (some 78) (P_move rfl rfl) ?_
 refine At.gy (t := 75) rfl (by first | rfl | (simp only [zE, zO, z0, z1, z2]; done) | (simp only [zE, zO, z0, z1, z2]; simp; done) | (simp [rpE_ok]; done) | (rcases rpE_01 kd (txt.take (min ntxt 300 - 0)).length with h | h <;> simp_all) | (simp; done)) rfl rfl ?_
 refine At.p (some 79) (P_neq_bool rfl Tryd.underlying4 rfl rfl) ?_
 refine At.p (some 80) (P_pick_f rfl rfl (by first | rfl | (simp only [zE, zO, z0, z1, z2]; done) | (simp only [zE, zO, z0, z1, z2]; simp; done) | (simp [rpE_ok]; done) | (rcases rpE_01 kd (txt.take (min ntxt 300 - 0)).length with h | h <;> simp_all) | (simp; done)) rfl) ?_
 refine At.p (some 81) (P_move rfl rfl) ?_
 refine At.gy (t := 81) rfl (by first | rfl | (simp only [zE, zO, z0, z1, z2]; done) | (simp only [zE, zO, z0, z1, z2]; simp; done) | (simp [rpE_ok]; done) | (rcases rpE_01 kd (txt.take (min ntxt 300 - 0)).length with h | h <;> simp_all) | (simp; done)) rfl rfl ?_
 refine At.p (some 82) (P_move rfl rfl) ?_
 refine At.gy (t := 81) rfl (by first | rfl | (simp only [zE, zO, z0, z1, z2]; done) | (simp only [zE, zO, z0, z1, z2]; simp; done) | (simp [rpE_ok]; done) | (rcases rpE_01 kd (txt.take (min ntxt 300 - 0)).length with h | h <;> simp_all) | (simp; done)) rfl rfl ?_
 refine At.p (some 83) (P_cmp rfl rfl rfl rfl rfl rfl) ?_
 refine At.gy (t := 81) rfl (by first | rfl | (simp only [zE, zO, z0, z1, z2]; done) | (simp only [zE, zO, z0, z1, z2]; simp; done) | (simp [rpE_ok]; done) | (rcases rpE_01 kd (txt.take (min ntxt 300 - 0)).length with h | h <;> simp_all) | (simp; done)) rfl rfl ?_
 refine At.p (some 84) (P_move rfl rfl) ?_
 refine At.gy (t := 81) rfl (by first | rfl | (simp only [zE, zO, z0, z1, z2]; done) | (simp only [zE, zO, z0, z1, z2]; simp; done) | (simp [rpE_ok]; done) | (rcases rpE_01 kd (txt.take (min ntxt 300 - 0)).length with h | h <;> simp_all) | (simp; done)) rfl rfl ?_
 refine At.p (some 85) (P_neq_bool rfl Tryd.underlying4 rfl rfl) ?_
 refine At.p (some 86) (P_pick_f rfl rfl (by first | rfl | (simp only [zE, zO, z0, z1, z2]; done) | (simp only [zE, zO, z0, z1, z2]; simp; done) | (simp [rpE_ok]; done) | (rcases rpE_01 kd (txt.take (min ntxt 300 - 0)).length with h | h <;> simp_all) | (simp; done)) rfl) ?_
 refine At.p (some 87) (P_move rfl rfl) ?_
 refine At.gy (t := 87) rfl (by first | rfl | (simp only [zE, zO, z0, z1, z2]; done) | (simp only [zE, zO, z0, z1, z2]; simp; done) | (simp [rpE_ok]; done) | (rcases rpE_01 kd (txt.take (min ntxt 300 - 0)).length with h | h <;> simp_all) | (simp; done)) rfl rfl ?_
 refine At.p (some 88) (P_move rfl rfl) ?_
 refine At.gy (t := 87) rfl (by first | rfl | (simp only [zE, zO, z0, z1, z2]; done) | (simp only [zE, zO, z0, z1, z2]; simp; done) | (simp [rpE_ok]; done) | (rcases rpE_01 kd (txt.take (min ntxt 300 - 0)).length with h | h <;> simp_all) | (simp; done)) rfl rfl ?_
 refine At.q (some 89) (Q_strA (l := (rsT key iv seq kd (txt.take ((min ntxt 300) - 0)) pad)) (n := ((rsT key iv seq kd (txt.take ((min ntxt 300) - 0)) pad).length)) (k := 43) LN rfl Tryd.underlying29 Tryd.underlying5 Tryd.underlying9 rfl (fun h => g43a (by omega)) (fun _ => ⟨rfl, rfl, rfl⟩)) ?_
 refine At.gy (t := 87) rfl (by first | rfl | (simp only [zE, zO, z0, z1, z2]; done) | (simp only [zE, zO, z0, z1, z2]; simp; done) | (simp [rpE_ok]; done) | (rcases rpE_01 kd (txt.take (min ntxt 300 - 0)).length with h | h <;> simp_all) | (simp; done)) rfl rfl ?_
 refine At.p (some 90) (P_move rfl rfl) ?_
 refine At.gy (t := 87) rfl (by first | rfl | (simp only [zE, zO, z0, z1, z2]; done) | (simp only [zE, zO, z0, z1, z2]; simp; done) | (simp [rpE_ok]; done) | (rcases rpE_01 kd (txt.take (min ntxt 300 - 0)).length with h | h <;> simp_all) | (simp; done)) rfl rfl ?_
 refine At.q (some 91) (Q_strA (l := (rsT key iv seq kd (txt.take ((min ntxt 300) - 0)) pad)) (n := ((rsT key iv seq kd (txt.take ((min ntxt 300) - 0)) pad).length)) (k := 56) LN rfl Tryd.underlying29 Tryd.underlying5 Tryd.underlying9 rfl (fun h => g56a (by omega)) (fun _ => ⟨rfl, rfl, rfl⟩)) ?_
 refine At.gy (t := 87) rfl (by first | rfl | (simp only [zE, zO, z0, z1, z2]; done) | (simp only [zE, zO, z0, z1, z2]; simp; done) | (simp [rpE_ok]; done) | (rcases rpE_01 kd (txt.take (min ntxt 300 - 0)).length with h | h <;> simp_all) | (simp; done)) rfl rfl ?_
 refine At.p (some 92) (P_neq_str (a := (rsT key iv seq kd (txt.take ((min ntxt 300) - 0)) pad)) (b := (rsT key iv seq kd (txt.take ((min ntxt 300) - 0)) pad)) rfl rfl rfl) ?_
 refine At.p (some 93) (P_pick_f rfl rfl (by first | rfl | (simp only [zE, zO, z0, z1, z2]; done) | (simp only [zE, zO, z0, z1, z2]; simp; done) | (simp [rpE_ok]; done) | (rcases rpE_01 kd (txt.take (min ntxt 300 - 0)).length with h | h <;> simp_all) | (simp; done)) rfl) ?_
 refine At.p (some 94) (P_move rfl rfl) ?_
 refine At.gy (t := 94) rfl (by first | rfl | (simp only [zE, zO, z0, z1, z2]; done) | (simp only [zE, zO, z0, z1, z2]; simp; done) | (simp [rpE_ok]; done) | (rcases rpE_01 kd (txt.take (min ntxt 300 - 0)).length with h | h <;> simp_all) | (simp; done)) rfl rfl ?_
 refine At.p (some 95) (P_move rfl rfl) ?_
 refine At.gy (t := 94) rfl (by first | rfl | (simp only [zE, zO, z0, z1, z2]; done) | (simp only [zE, zO, z0, z1, z2]; simp; done) | (simp [rpE_ok]; done) | (rcases rpE_01 kd (txt.take (min ntxt 300 - 0)).length with h | h <;> simp_all) | (simp; done)) rfl rfl ?_
 refine At.q (some 96) (Q_strA (l := (rpT kd (txt.take ((min ntxt 300) - 0)))) (n := ((rpT kd (txt.take ((min ntxt 300) - 0))).length)) (k := 63) LN rfl Tryd.underlying29 Tryd.underlying5 Tryd.underlying9 rfl (fun h => g63a (by omega)) (fun _ => ⟨rfl, rfl, rfl⟩)) ?_
 refine At.gy (t := 94) rfl (by first | rfl | (simp only [zE, zO, z0, z1, z2]; done) | (simp only [zE, zO, z0, z1, z2]; simp; done) | (simp [rpE_ok]; done) | (rcases rpE_01 kd (txt.take (min ntxt 300 - 0)).length with h | h <;> simp_all) | (simp; done)) rfl rfl ?_
 refine At.p (some 97) (P_move rfl rfl) ?_
 refine At.gy (t := 94) rfl (by first | rfl | (simp only [zE, zO, z0, z1, z2]; done) | (simp only [zE, zO, z0, z1, z2]; simp; done) | (simp [rpE_ok]; done) | (rcases rpE_01 kd (txt.take (min ntxt 300 - 0)).length with h | h <;> simp_all) | (simp; done)) rfl rfl ?_
 refine At.q (some 98) (Q_strA (l := (rpT kd (txt.take ((min ntxt 300) - 0)))) (n := ((rpT kd (txt.take ((min ntxt 300) - 0))).length)) (k := 70) LN rfl Tryd.underlying29 Tryd.underlying5 Tryd.underlying9 rfl (fun h => g70a (by omega)) (fun _ => ⟨rfl, rfl, rfl⟩)) ?_
 refine At.gy (t := 94) rfl (by first | rfl | (simp only [zE, zO, z0, z1, z2]; done) | (simp only [zE, zO, z0, z1, z2]; simp; done) | (simp [rpE_ok]; done) | (rcases rpE_01 kd (txt.take (min ntxt 300 - 0)).length with h | h <;> simp_all) | (simp; done)) rfl rfl ?_
 refine At.p (some 99) (P_neq_str (a := (rpT kd (txt.take ((min ntxt 300) - 0)))) (b := (rpT kd (txt.take ((min ntxt 300) - 0)))) rfl rfl rfl) ?_
 refine At.p (some 100) (P_pick_f rfl rfl (by first | rfl | (simp only [zE, zO, z0, z1, z2]; done) | (simp only [zE, zO, z0, z1, z2]; simp; done) | (simp [rpE_ok]; done) | (rcases rpE_01 kd (txt.take (min ntxt 300 - 0)).length with h | h <;> simp_all) | (simp; done)) rfl) ?_
 refine At.p (some 101) (P_move rfl rfl) ?_
 refine At.gy (t := 101) rfl (by first | rfl | (simp only [zE, zO, z0, z1, z2]; done) | (simp only [zE, zO, z0, z1, z2]; simp; done) | (simp [rpE_ok]; done) | (rcases rpE_01 kd (txt.take (min ntxt 300 - 0)).length with h | h <;> simp_all) | (simp; done)) rfl rfl ?_
 refine At.p (some 102) (P_move rfl rfl) ?_
 refine At.gy (t := 101) rfl (by first | rfl | (simp only [zE, zO, z0, z1, z2]; done) | (simp only [zE, zO, z0, z1, z2]; simp; done) | (simp [rpE_ok]; done) | (rcases rpE_01 kd (txt.take (min ntxt 300 - 0)).length with h | h <;> simp_all) | (simp; done)) rfl rfl ?_
 refine At.p (some 103) (P_cmp rfl rfl rfl rfl rfl rfl) ?_
 refine At.gy (t := 101) rfl (by first | rfl | (simp only [zE, zO, z0, z1, z2]; done) | (simp only [zE, zO, z0, z1, z2]; simp; done) | (simp [rpE_ok]; done) | (rcases rpE_01 kd (txt.take (min ntxt 300 - 0)).length with h | h <;> simp_all) | (simp; done)) rfl rfl ?_
 refine At.p (some 104) (P_move rfl rfl) ?_
 refine At.gn (some 105) (t := 104) rfl (by first | rfl | (simp only [zE, zO, z0, z1, z2]; done) | (simp only [zE, zO, z0, z1, z2]; simp; done) | (simp [rpE_ok]; done) | (rcases rpE_01 kd (txt.take (min ntxt 300 - 0)).length with h | h <;> simp_all) | (simp; done)) rfl rfl ?_
 refine At.gn (some 106) (t := 104) rfl (by first | rfl | (simp only [zE, zO, z0, z1, z2]; done) | (simp only [zE, zO, z0, z1, z2]; simp; done) | (simp [rpE_ok]; done) | (rcases rpE_01 kd (txt.take (min ntxt 300 - 0)).length with h | h <;> simp_all) | (simp; done)) rfl rfl ?_
 refine At.gy (t := 101) rfl (by first | rfl | (simp only [zE, zO, z0, z1, z2]; done) | (simp only [zE, zO, z0, z1, z2]; simp; done) | (simp [rpE_ok]; done) | (rcases rpE_01 kd (txt.take (min ntxt 300 - 0)).length with h | h <;> simp_all) | (simp; done)) rfl rfl ?_
 refine At.p (some 107) (P_pick_f rfl rfl (by first | rfl | (simp only [zE, zO, z0, z1, z2]; done) | (simp only [zE, zO, z0, z1, z2]; simp; done) | (simp [rpE_ok]; done) | (rcases rpE_01 kd (txt.take (min ntxt 300 - 0)).length with h | h <;> simp_all) | (simp; done)) rfl) ?_
 refine At.p (some 108) (P_pick_f rfl rfl (by first | rfl | (simp only [zE, zO, z0, z1, z2]; done) | (simp only [zE, zO, z0, z1, z2]; simp; done) | (simp [rpE_ok]; done) | (rcases rpE_01 kd (txt.take (min ntxt 300 - 0)).length with h | h <;> simp_all) | (simp; done)) rfl) ?_
 refine At.p (some 109) (P_move rfl rfl) ?_
 refine At.gy (t := 109) rfl rfl rfl rfl ?_
 refine At.p (some 110) (P_move rfl rfl) ?_
 refine At.gy (t := 109) rfl rfl rfl rfl ?_
 refine At.p (some 111) (P_cmp rfl rfl rfl rfl rfl rfl) ?_
 refine At.gy (t := 109) rfl rfl rfl rfl ?_
 refine At.p (some 112) (P_move rfl rfl) ?_
 refine At.gsplit (t := 112) (want := true) rfl (fun g1 => ?_) (fun g1 => ?_)
 ·
  have eg1 : (rpE kd (txt.take ((min ntxt 300) - 0)).length) ≠ 0 := bne_iff_ne.1 g1
  refine At.gy (t := 112) rfl g1 rfl rfl ?_
  refine At.p (some 113) (P_move rfl rfl) ?_
  refine At.gy (t := 112) rfl g1 rfl rfl ?_
  refine At.p (some 114) (P_cmp rfl rfl rfl rfl rfl rfl) ?_
  refine At.gy (t := 109) rfl rfl rfl rfl ?_
  refine At.p (some 115) (P_pick_t rfl rfl g1 rfl) ?_
  refine At.p (some 116) (P_pick_f rfl rfl rfl rfl) ?_
  refine At.p (some 117) (P_move rfl rfl) ?_
  refine At.gy (t := 117) rfl (by first | rfl | (simp only [zE, zO, z0, z1, z2]; done) | (simp only [zE, zO, z0, z1, z2]; simp; done) | (simp [rpE_ok]; done) | (rcases rpE_01 kd (txt.take (min ntxt 300 - 0)).length with h | h <;> simp_all) | (simp; done)) rfl rfl ?_
  refine At.p (some 118) (P_move rfl rfl) ?_
  refine At.gy (t := 117) rfl (by first | rfl | (simp only [zE, zO, z0, z1, z2]; done) | (simp only [zE, zO, z0, z1, z2]; simp; done) | (simp [rpE_ok]; done) | (rcases rpE_01 kd (txt.take (min ntxt 300 - 0)).length with h | h <;> simp_all) | (simp; done)) rfl rfl ?_
  refine At.q (some 119) (Q_strP (l := txt) (n := ((min ntxt 300) - 0)) (k := 0) (j := 0) OG rfl Tryd.underlying29 Tryd.underlying5 Tryd.underlying9 rfl (fun h => cut_zero (hAtxt (by omega))) (fun _ => ⟨rfl, rfl, (Nat.add_zero _)⟩)) ?_
  refine At.gy (t := 117) rfl (by first | rfl | (simp only [zE, zO, z0, z1, z2]; done) | (simp only [zE, zO, z0, z1, z2]; simp; done) | (simp [rpE_ok]; done) | (rcases rpE_01 kd (txt.take (min ntxt 300 - 0)).length with h | h <;> simp_all) | (simp; done)) rfl rfl ?_
  refine At.p (some 120) (P_move rfl rfl) ?_
  refine At.gy (t := 117) rfl (by first | rfl | (simp only [zE, zO, z0, z1, z2]; done) | (simp only [zE, zO, z0, z1, z2]; simp; done) | (simp [rpE_ok]; done) | (rcases rpE_01 kd (txt.take (min ntxt 300 - 0)).length with h | h <;> simp_all) | (simp; done)) rfl rfl ?_
  refine At.p (some 121) (P_neq_str (a := (txt.take ((min ntxt 300) - 0))) (b := (txt.take ((min ntxt 300) - 0))) rfl rfl rfl) ?_
  refine At.p (some 122) (P_pick_f rfl rfl (by first | rfl | (simp only [zE, zO, z0, z1, z2]; done) | (simp only [zE, zO, z0, z1, z2]; simp; done) | (simp [rpE_ok]; done) | (rcases rpE_01 kd (txt.take (min ntxt 300 - 0)).length with h | h <;> simp_all) | (simp; done)) rfl) ?_
  refine At.nil ?_
  refine At.next ?_
  refine At.cond rfl (fun h122 => (by exfalso; revert h122; first | (simp only [zE, zO, z0, z1, z2]; simp; done) | (simp; done))) (fun h122 => ?_)
  have e122 : (txt.take ((min ntxt 300) - 0)) = (txt.take ((min ntxt 300) - 0)) := (by first | (simp; done) | simpa using h122)
  refine At.skip ?_
  refine At.next ?_
  refine At.seq ?_
  refine At.seq ?_
  refine At.region ?_
  refine At.p (some 123) (P_move rfl rfl) ?_
  refine At.p (some 124) (P_cmp rfl rfl rfl rfl rfl rfl) ?_
  refine At.nil ?_
  refine At.next ?_
  refine At.cond rfl (fun h124 => (by exfalso; rw [zE] at h124; exact absurd h124 (by decide))) (fun h124 => ?_)
  have e124 : (rsE kd (txt.take ((min ntxt 300) - 0)).length pad) = 0 := bne_eq_false_iff_eq.1 h124
  refine At.skip ?_
  refine At.next ?_
  refine At.seq ?_
  refine At.draws 14 [] [.q false [0, 1, 2, 3, 4, 5, 6], .e false 7, .q false [8, 9, 10, 11, 12, 13]] (by kernel_rfl) (by kernel_rfl) ?_
  refine At.wp (some 126) (P_fieldAddr0 (off := 0) rfl Tryd.underlying28 rfl sz25 rfl rfl) ?_
  refine At.wq (some 127) (Q_loadN (k := 3) (j := 0) (cs := [(key).map u8V, (iv).map u8V].flatten) rfl rfl Tryd.underlying25 rfl sz25 rfl rfl rfl (seg_ats (i := 0) (c := 2) rfl LN LN) LN) ?_
  refine At.wcV (some 128) [] (vs := [_]) rfl en10 rfl V0 (c_to (key := key) (iv := iv) LN LN) ?_
  refine At.wp (some 129) (P_fieldAddr0 (off := 44) rfl Tryd.underlying28 rfl sz26 rfl rfl) ?_
  refine At.wq (some 130) (Q_loadO (k := 3) rfl rfl Tryd.underlying26 rfl rfl (seg_get (i := 2) (p := 0) rfl LN rfl)) ?_
  refine At.wp (some 131) (P_move rfl rfl) ?_
  refine At.wp (some 132) (P_slice_sl (l := 5) (h := (rsT key iv seq kd (txt.take ((min ntxt 300) - 0)) pad).length) (m := c43) rfl Tryd.underlying29 sz5 rfl ⟨_, _, rfl, rfl⟩ rfl rfl DO DO DO) ?_
  refine At.wqn ?_
  refine At.we ?_
  refine SStep.up (S_callV (some 133) [(43, _)] [133] (vs := [_, _, _]) rfl en15 rfl (VN (by simp) rfl (View.sub (j := 5) (m := (((rsT key iv seq kd (txt.take ((min ntxt 300) - 0)) pad).length) - 5)) rfl rfl) V0) (by simp) (c_ROpen (key := key) (iv := iv) (seq := seq) (b := (((rsT key iv seq kd (txt.take ((min ntxt 300) - 0)) pad).drop 5).take (((rsT key iv seq kd (txt.take ((min ntxt 300) - 0)) pad).length) - 5))) (nb := (((rsT key iv seq kd (txt.take ((min ntxt 300) - 0)) pad).length) - 5)) (Ab := (cut A43 5 c43 1)) (cb := (c43 - 5)) (bb := b43) (qb := (0 + 5)) LN LN LN (fun h => cut_addr1 ((fun h => g43a (by omega)) (by omega)) (by omega)) OG OG) (by rintro _ _ ⟨A133, b133, c133, r133, m133, g133a, g133b, rfl, rfl⟩; rfl) ?_)
  rintro _ _ ⟨A133, b133, c133, r133, m133, g133a, g133b, rfl, rfl⟩
  refine At.forgetM 133 rfl ?_
  refine At.wp (some 125) (P_move rfl rfl) ?_
  refine At.wp (some 134) (P_extract rfl rfl rfl) ?_
  refine At.wp (some 135) (P_extract rfl rfl rfl) ?_
  refine At.wp (some 136) (P_extract rfl rfl rfl) ?_
  refine At.wp (some 16) (P_assign rfl rfl) ?_
  refine At.wp (some 17) (P_assign rfl rfl) ?_
  refine At.wqn ?_
  refine At.wt rfl ?_
  refine At.p (some 18) (P_assign rfl rfl) ?_
  refine At.nil ?_
  refine At.next ?_
  refine At.seq ?_
  refine At.draws 16 [] [.q false [0, 1, 2, 3, 4, 5, 6, 7, 8], .e false 9, .q false [10, 11, 12, 13, 14, 15]] (by kernel_rfl) (by kernel_rfl) ?_
  refine At.wp (some 138) (P_fieldAddr0 (off := 0) rfl Tryd.underlying28 rfl sz25 rfl rfl) ?_
  refine At.wq (some 139) (Q_loadN (k := 3) (j := 0) (cs := [(key).map u8V, (iv).map u8V].flatten) rfl rfl Tryd.underlying25 rfl sz25 rfl rfl rfl (seg_ats (i := 0) (c := 2) rfl LN LN) LN) ?_
  refine At.wcV (some 140) [] (vs := [_]) rfl en10 rfl V0 (c_to (key := key) (iv := iv) LN LN) ?_
  refine At.wp (some 141) (P_fieldAddr0 (off := 44) rfl Tryd.underlying28 rfl sz26 rfl rfl) ?_
  refine At.wq (some 142) (Q_loadO (k := 3) rfl rfl Tryd.underlying26 rfl rfl (seg_get (i := 2) (p := 0) rfl LN rfl)) ?_
  refine At.wp (some 143) (P_move rfl rfl) ?_
  refine At.wp (some 144) (P_xor_w UK.u64 rfl rfl rfl) ?_
  refine At.wp (some 145) (P_move rfl rfl) ?_
  refine At.wp (some 146) (P_slice_sl (l := 5) (h := (rsT key iv seq kd (txt.take ((min ntxt 300) - 0)) pad).length) (m := c43) rfl Tryd.underlying29 sz5 rfl ⟨_, _, rfl, rfl⟩ rfl rfl DO DO DO) ?_
  refine At.wqn ?_
  refine At.we ?_
  refine SStep.up (S_callV (some 147) [(43, _)] [147] (vs := [_, _, _]) rfl en15 rfl (VN (by simp) rfl (View.sub (j := 5) (m := (((rsT key iv seq kd (txt.take ((min ntxt 300) - 0)) pad).length) - 5)) rfl rfl) V0) (by simp) (c_ROpen (key := key) (iv := iv) (seq := (seq ^^^ y)) (b := (((rsT key iv seq kd (txt.take ((min ntxt 300) - 0)) pad).drop 5).take (((rsT key iv seq kd (txt.take ((min ntxt 300) - 0)) pad).length) - 5))) (nb := (((rsT key iv seq kd (txt.take ((min ntxt 300) - 0)) pad).length) - 5)) (Ab := (cut A43 5 c43 1)) (cb := (c43 - 5)) (bb := b43) (qb := (0 + 5)) LN LN LN (fun h => cut_addr1 ((fun h => g43a (by omega)) (by omega)) (by omega)) OG OG) (by rintro _ _ ⟨A147, b147, c147, r147, m147, g147a, g147b, rfl, rfl⟩; rfl) ?_)
  rintro _ _ ⟨A147, b147, c147, r147, m147, g147a, g147b, rfl, rfl⟩
  refine At.forgetM 147 rfl ?_
  refine At.wp (some 137) (P_move rfl rfl) ?_
  refine At.wp (some 148) (P_extract rfl rfl rfl) ?_
  refine At.wp (some 149) (P_extract rfl rfl rfl) ?_
  refine At.wp (some 150) (P_extract rfl rfl rfl) ?_
  refine At.wp (some 19) (P_assign rfl rfl) ?_
  refine At.wp (some 20) (P_assign rfl rfl) ?_
  refine At.wqn ?_
  refine At.wt rfl ?_
  refine At.p (some 21) (P_assign rfl rfl) ?_
  refine At.nil ?_
  refine At.next ?_
  refine At.seq ?_
  refine At.draws 15 [] [.q false [0, 1, 2, 3, 4, 5, 6, 7], .e false 8, .q false [9, 10, 11, 12, 13, 14]] (by kernel_rfl) (by kernel_rfl) ?_
  refine At.wp (some 152) (P_fieldAddr0 (off := 0) rfl Tryd.underlying28 rfl sz25 rfl rfl) ?_
  refine At.wq (some 153) (Q_loadN (k := 3) (j := 0) (cs := [(key).map u8V, (iv).map u8V].flatten) rfl rfl Tryd.underlying25 rfl sz25 rfl rfl rfl (seg_ats (i := 0) (c := 2) rfl LN LN) LN) ?_
  refine At.wp (some 154) (P_fieldAddr0 (off := 44) rfl Tryd.underlying28 rfl sz26 rfl rfl) ?_
  refine At.wq (some 155) (Q_loadO (k := 3) rfl rfl Tryd.underlying26 rfl rfl (seg_get (i := 2) (p := 0) rfl LN rfl)) ?_
  refine At.wp (some 156) (P_move rfl rfl) ?_
  refine At.wp (some 157) (P_xor_w UK.u64 rfl rfl rfl) ?_
  refine At.wp (some 158) (P_move rfl rfl) ?_
  refine At.wp (some 159) (P_slice_sl (l := 5) (h := (rsT key iv seq kd (txt.take ((min ntxt 300) - 0)) pad).length) (m := c43) rfl Tryd.underlying29 sz5 rfl ⟨_, _, rfl, rfl⟩ rfl rfl DO DO DO) ?_
  refine At.wqn ?_
  refine At.we ?_
  refine SStep.up (S_callV (some 160) [(43, _)] [160] (vs := [_, _, _]) rfl en16 rfl (VN (by simp) rfl (View.sub (j := 5) (m := (((rsT key iv seq kd (txt.take ((min ntxt 300) - 0)) pad).length) - 5)) rfl rfl) V0) (by simp) (r_ROpen (key := key) (iv := iv) (seq := (seq ^^^ y)) (b := (((rsT key iv seq kd (txt.take ((min ntxt 300) - 0)) pad).drop 5).take (((rsT key iv seq kd (txt.take ((min ntxt 300) - 0)) pad).length) - 5))) (nb := (((rsT key iv seq kd (txt.take ((min ntxt 300) - 0)) pad).length) - 5)) (Ab := (cut A43 5 c43 1)) (cb := (c43 - 5)) (bb := b43) (qb := (0 + 5)) LN LN LN (fun h => cut_addr1 ((fun h => g43a (by omega)) (by omega)) (by omega)) OG OG) (by rintro _ _ ⟨A160, b160, c160, r160, m160, g160a, g160b, rfl, rfl⟩; rfl) ?_)
  rintro _ _ ⟨A160, b160, c160, r160, m160, g160a, g160b, rfl, rfl⟩
  refine At.forgetM 160 rfl ?_
  refine At.wp (some 151) (P_move rfl rfl) ?_
  refine At.wp (some 161) (P_extract rfl rfl rfl) ?_
  refine At.wp (some 162) (P_extract rfl rfl rfl) ?_
  refine At.wp (some 163) (P_extract rfl rfl rfl) ?_
  refine At.wp (some 22) (P_assign rfl rfl) ?_
  refine At.wp (some 23) (P_assign rfl rfl) ?_
  refine At.wqn ?_
  refine At.wt rfl ?_
  refine At.p (some 24) (P_assign rfl rfl) ?_
  refine At.nil ?_
  refine At.next ?_
  refine At.seq ?_
  refine At.region ?_
  refine At.p (some 164) (P_move rfl rfl) ?_
  refine At.p (some 165) (P_cmp rfl rfl rfl rfl rfl rfl) ?_
  refine At.p (some 166) (P_move rfl rfl) ?_
  refine At.gy (t := 166) rfl (by first | rfl | (simp only [zE, zO, z0, z1, z2]; done) | (simp only [zE, zO, z0, z1, z2]; simp; done) | (simp [rpE_ok]; done) | (rcases rpE_01 kd (txt.take (min ntxt 300 - 0)).length with h | h <;> simp_all) | (simp; done)) rfl rfl ?_
  refine At.p (some 167) (P_move rfl rfl) ?_
  refine At.gy (t := 166) rfl (by first | rfl | (simp only [zE, zO, z0, z1, z2]; done) | (simp only [zE, zO, z0, z1, z2]; simp; done) | (simp [rpE_ok]; done) | (rcases rpE_01 kd (txt.take (min ntxt 300 - 0)).length with h | h <;> simp_all) | (simp; done)) rfl rfl ?_
  refine At.p (some 168) (P_fieldAddr0 (off := 45) rfl Tryd.underlying28 rfl sz3 rfl rfl) ?_
  refine At.gy (t := 166) rfl (by first | rfl | (simp only [zE, zO, z0, z1, z2]; done) | (simp only [zE, zO, z0, z1, z2]; simp; done) | (simp [rpE_ok]; done) | (rcases rpE_01 kd (txt.take (min ntxt 300 - 0)).length with h | h <;> simp_all) | (simp; done)) rfl rfl ?_
  refine At.q (some 169) (Q_loadO (k := 3) rfl rfl Tryd.underlying3 rfl rfl (seg_get (i := 2) (p := 1) rfl LN rfl)) ?_
  refine At.gy (t := 166) rfl (by first | rfl | (simp only [zE, zO, z0, z1, z2]; done) | (simp only [zE, zO, z0, z1, z2]; simp; done) | (simp [rpE_ok]; done) | (rcases rpE_01 kd (txt.take (min ntxt 300 - 0)).length with h | h <;> simp_all) | (simp; done)) rfl rfl ?_
  refine At.p (some 170) (P_cmp rfl rfl rfl rfl rfl rfl) ?_
  refine At.p (some 171) (P_pick_t rfl rfl (by first | rfl | (simp only [zE, zO, z0, z1, z2]; done) | (simp only [zE, zO, z0, z1, z2]; simp; done) | (simp [rpE_ok]; done) | (rcases rpE_01 kd (txt.take (min ntxt 300 - 0)).length with h | h <;> simp_all) | (simp; done)) rfl) ?_
  refine At.p (some 172) (P_move rfl rfl) ?_
  refine At.gy (t := 172) rfl (by first | rfl | (simp only [zE, zO, z0, z1, z2]; done) | (simp only [zE, zO, z0, z1, z2]; simp; done) | (simp [rpE_ok]; done) | (rcases rpE_01 kd (txt.take (min ntxt 300 - 0)).length with h | h <;> simp_all) | (simp; done)) rfl rfl ?_
  refine At.p (some 173) (P_move rfl rfl) ?_
  refine At.gy (t := 172) rfl (by first | rfl | (simp only [zE, zO, z0, z1, z2]; done) | (simp only [zE, zO, z0, z1, z2]; simp; done) | (simp [rpE_ok]; done) | (rcases rpE_01 kd (txt.take (min ntxt 300 - 0)).length with h | h <;> simp_all) | (simp; done)) rfl rfl ?_
  refine At.q (some 174) (Q_strA (l := (roT key iv seq (((rsT key iv seq kd (txt.take ((min ntxt 300) - 0)) pad).drop 5).take (((rsT key iv seq kd (txt.take ((min ntxt 300) - 0)) pad).length) - 5)))) (n := ((roT key iv seq (((rsT key iv seq kd (txt.take ((min ntxt 300) - 0)) pad).drop 5).take (((rsT key iv seq kd (txt.take ((min ntxt 300) - 0)) pad).length) - 5))).length)) (k := 133) LN rfl Tryd.underlying29 Tryd.underlying5 Tryd.underlying9 rfl g133a (fun _ => ⟨rfl, rfl, rfl⟩)) ?_
  refine At.gy (t := 172) rfl (by first | rfl | (simp only [zE, zO, z0, z1, z2]; done) | (simp only [zE, zO, z0, z1, z2]; simp; done) | (simp [rpE_ok]; done) | (rcases rpE_01 kd (txt.take (min ntxt 300 - 0)).length with h | h <;> simp_all) | (simp; done)) rfl rfl ?_
  refine At.p (some 175) (P_move rfl rfl) ?_
  refine At.gy (t := 172) rfl (by first | rfl | (simp only [zE, zO, z0, z1, z2]; done) | (simp only [zE, zO, z0, z1, z2]; simp; done) | (simp [rpE_ok]; done) | (rcases rpE_01 kd (txt.take (min ntxt 300 - 0)).length with h | h <;> simp_all) | (simp; done)) rfl rfl ?_
  refine At.q (some 176) (Q_strP (l := txt) (n := ((min ntxt 300) - 0)) (k := 0) (j := 0) OG rfl Tryd.underlying29 Tryd.underlying5 Tryd.underlying9 rfl (fun h => cut_zero (hAtxt (by omega))) (fun _ => ⟨rfl, rfl, (Nat.add_zero _)⟩)) ?_
  refine At.gy (t := 172) rfl (by first | rfl | (simp only [zE, zO, z0, z1, z2]; done) | (simp only [zE, zO, z0, z1, z2]; simp; done) | (simp [rpE_ok]; done) | (rcases rpE_01 kd (txt.take (min ntxt 300 - 0)).length with h | h <;> simp_all) | (simp; done)) rfl rfl ?_
  refine At.p (some 177) (P_eql_str (a := (roT key iv seq (((rsT key iv seq kd (txt.take ((min ntxt 300) - 0)) pad).drop 5).take (((rsT key iv seq kd (txt.take ((min ntxt 300) - 0)) pad).length) - 5)))) (b := (txt.take ((min ntxt 300) - 0))) rfl rfl rfl) ?_
  refine At.p (some 178) (P_pick_t rfl rfl (by first | rfl | (simp only [zE, zO, z0, z1, z2]; done) | (simp only [zE, zO, z0, z1, z2]; simp; done) | (simp [rpE_ok]; done) | (rcases rpE_01 kd (txt.take (min ntxt 300 - 0)).length with h | h <;> simp_all) | (simp; done)) rfl) ?_
  refine At.p (some 179) (P_move rfl rfl) ?_
  refine At.gy (t := 179) rfl (by first | rfl | (simp only [zE, zO, z0, z1, z2]; done) | (simp only [zE, zO, z0, z1, z2]; simp; done) | (simp [rpE_ok]; done) | (rcases rpE_01 kd (txt.take (min ntxt 300 - 0)).length with h | h <;> simp_all) | (simp; done)) rfl rfl ?_
  refine At.p (some 180) (P_move rfl rfl) ?_
  refine At.gy (t := 179) rfl (by first | rfl | (simp only [zE, zO, z0, z1, z2]; done) | (simp only [zE, zO, z0, z1, z2]; simp; done) | (simp [rpE_ok]; done) | (rcases rpE_01 kd (txt.take (min ntxt 300 - 0)).length with h | h <;> simp_all) | (simp; done)) rfl rfl ?_
  refine At.p (some 181) (P_move rfl rfl) ?_
  refine At.gy (t := 179) rfl (by first | rfl | (simp only [zE, zO, z0, z1, z2]; done) | (simp only [zE, zO, z0, z1, z2]; simp; done) | (simp [rpE_ok]; done) | (rcases rpE_01 kd (txt.take (min ntxt 300 - 0)).length with h | h <;> simp_all) | (simp; done)) rfl rfl ?_
  refine At.p (some 182) (P_cmp rfl rfl rfl rfl rfl rfl) ?_
  refine At.p (some 183) (P_pick_t rfl rfl (by first | rfl | (simp only [zE, zO, z0, z1, z2]; done) | (simp only [zE, zO, z0, z1, z2]; simp; done) | (simp [rpE_ok]; done) | (rcases rpE_01 kd (txt.take (min ntxt 300 - 0)).length with h | h <;> simp_all) | (simp; done)) rfl) ?_
  refine At.p (some 6) (P_assign rfl rfl) ?_
  refine At.nil ?_
  refine At.next ?_
  refine At.ret ?_
  have hq0 : ((roE key iv (seq ^^^ y) (((rsT key iv seq kd (txt.take ((min ntxt 300) - 0)) pad).drop 5).take (((rsT key iv seq kd (txt.take ((min ntxt 300) - 0)) pad).length) - 5))) == (roE key iv (seq ^^^ y) (((rsT key iv seq kd (txt.take ((min ntxt 300) - 0)) pad).drop 5).take (((rsT key iv seq kd (txt.take ((min ntxt 300) - 0)) pad).length) - 5)))) = true := (by first | rfl | (simp only [zE, zO, z0, z1, z2]; done) | (simp only [zE, zO, z0, z1, z2]; simp; done) | (simp [rpE_ok]; done) | (rcases rpE_01 kd (txt.take (min ntxt 300 - 0)).length with h | h <;> simp_all) | (simp; done))
  refine At.give (.inl rfl) [] (rows' := []) (vs := [_]) rfl ⟨rfl, trivial⟩ rfl (by simp) (by simp) ⟨(by first | (rw [hq0]; try rfl; done) | (rw [← hq0]; try rfl; done) | (simp only [hq0]; try rfl; done) | (simp only [← hq0]; try rfl; done) | rfl), (by first | (rw [hq0]; try rfl; done) | (rw [← hq0]; try rfl; done) | (simp only [hq0]; try rfl; done) | (simp only [← hq0]; try rfl; done) | rfl)⟩
 ·
  have eg1 : (rpE kd (txt.take ((min ntxt 300) - 0)).length) = 0 := bne_eq_false_iff_eq.1 g1
  refine At.gn (some 113) (t := 112) rfl g1 rfl rfl ?_
  refine At.gn (some 114) (t := 112) rfl g1 rfl rfl ?_
  refine At.gy (t := 109) rfl rfl rfl rfl ?_
  refine At.p (some 115) (P_pick_f rfl rfl g1 rfl) ?_
  refine At.p (some 116) (P_pick_f rfl rfl rfl rfl) ?_
  refine At.p (some 117) (P_move rfl rfl) ?_
  refine At.gy (t := 117) rfl rfl rfl rfl ?_
  refine At.p (some 118) (P_move rfl rfl) ?_
  refine At.gy (t := 117) rfl rfl rfl rfl ?_
  refine At.q (some 119) (Q_strP (l := txt) (n := ((min ntxt 300) - 0)) (k := 0) (j := 0) OG rfl Tryd.underlying29 Tryd.underlying5 Tryd.underlying9 rfl (fun h => cut_zero (hAtxt (by omega))) (fun _ => ⟨rfl, rfl, (Nat.add_zero _)⟩)) ?_
  refine At.gy (t := 117) rfl rfl rfl rfl ?_
  refine At.p (some 120) (P_move rfl rfl) ?_
  refine At.gy (t := 117) rfl rfl rfl rfl ?_
  refine At.p (some 121) (P_neq_str (a := (txt.take ((min ntxt 300) - 0))) (b := (txt.take ((min ntxt 300) - 0))) rfl rfl rfl) ?_
  refine At.p (some 122) (P_pick_f rfl rfl rfl rfl) ?_
  refine At.nil ?_
  refine At.next ?_
  refine At.cond rfl (fun h122 => (by exfalso; revert h122; first | (simp only [zE, zO, z0, z1, z2]; simp; done) | (simp; done))) (fun h122 => ?_)
  have e122 : (txt.take ((min ntxt 300) - 0)) = (txt.take ((min ntxt 300) - 0)) := (by first | (simp; done) | simpa using h122)
  refine At.skip ?_
  refine At.next ?_
  refine At.seq ?_
  refine At.seq ?_
  refine At.region ?_
  refine At.p (some 123) (P_move rfl rfl) ?_
  refine At.p (some 124) (P_cmp rfl rfl rfl rfl rfl rfl) ?_
  refine At.nil ?_
  refine At.next ?_
  refine At.cond rfl (fun h124 => (by exfalso; rw [zE] at h124; exact absurd h124 (by decide))) (fun h124 => ?_)
  have e124 : (rsE kd (txt.take ((min ntxt 300) - 0)).length pad) = 0 := bne_eq_false_iff_eq.1 h124
  refine At.skip ?_
  refine At.next ?_
  refine At.seq ?_
  refine At.draws 14 [] [.q false [0, 1, 2, 3, 4, 5, 6], .e false 7, .q false [8, 9, 10, 11, 12, 13]] (by kernel_rfl) (by kernel_rfl) ?_
  refine At.wp (some 126) (P_fieldAddr0 (off := 0) rfl Tryd.underlying28 rfl sz25 rfl rfl) ?_
  refine At.wq (some 127) (Q_loadN (k := 3) (j := 0) (cs := [(key).map u8V, (iv).map u8V].flatten) rfl rfl Tryd.underlying25 rfl sz25 rfl rfl rfl (seg_ats (i := 0) (c := 2) rfl LN LN) LN) ?_
  refine At.wcV (some 128) [] (vs := [_]) rfl en10 rfl V0 (c_to (key := key) (iv := iv) LN LN) ?_
  refine At.wp (some 129) (P_fieldAddr0 (off := 44) rfl Tryd.underlying28 rfl sz26 rfl rfl) ?_
  refine At.wq (some 130) (Q_loadO (k := 3) rfl rfl Tryd.underlying26 rfl rfl (seg_get (i := 2) (p := 0) rfl LN rfl)) ?_
  refine At.wp (some 131) (P_move rfl rfl) ?_
  refine At.wp (some 132) (P_slice_sl (l := 5) (h := (rsT key iv seq kd (txt.take ((min ntxt 300) - 0)) pad).length) (m := c43) rfl Tryd.underlying29 sz5 rfl ⟨_, _, rfl, rfl⟩ rfl rfl DO DO DO) ?_
  refine At.wqn ?_
  refine At.we ?_
  refine SStep.up (S_callV (some 133) [(43, _)] [133] (vs := [_, _, _]) rfl en15 rfl (VN (by simp) rfl (View.sub (j := 5) (m := (((rsT key iv seq kd (txt.take ((min ntxt 300) - 0)) pad).length) - 5)) rfl rfl) V0) (by simp) (c_ROpen (key := key) (iv := iv) (seq := seq) (b := (((rsT key iv seq kd (txt.take ((min ntxt 300) - 0)) pad).drop 5).take (((rsT key iv seq kd (txt.take ((min ntxt 300) - 0)) pad).length) - 5))) (nb := (((rsT key iv seq kd (txt.take ((min ntxt 300) - 0)) pad).length) - 5)) (Ab := (cut A43 5 c43 1)) (cb := (c43 - 5)) (bb := b43) (qb := (0 + 5)) LN LN LN (fun h => cut_addr1 ((fun h => g43a (by omega)) (by omega)) (by omega)) OG OG) (by rintro _ _ ⟨A133, b133, c133, r133, m133, g133a, g133b, rfl, rfl⟩; rfl) ?_)
  rintro _ _ ⟨A133, b133, c133, r133, m133, g133a, g133b, rfl, rfl⟩
  refine At.forgetM 133 rfl ?_
  refine At.wp (some 125) (P_move rfl rfl) ?_
  refine At.wp (some 134) (P_extract rfl rfl rfl) ?_
  refine At.wp (some 135) (P_extract rfl rfl rfl) ?_
  refine At.wp (some 136) (P_extract rfl rfl rfl) ?_
  refine At.wp (some 16) (P_assign rfl rfl) ?_
  refine At.wp (some 17) (P_assign rfl rfl) ?_
  refine At.wqn ?_
  refine At.wt rfl ?_
  refine At.p (some 18) (P_assign rfl rfl) ?_
  refine At.nil ?_
  refine At.next ?_
  refine At.seq ?_
  refine At.draws 16 [] [.q false [0, 1, 2, 3, 4, 5, 6, 7, 8], .e false 9, .q false [10, 11, 12, 13, 14, 15]] (by kernel_rfl) (by kernel_rfl) ?_
  refine At.wp (some 138) (P_fieldAddr0 (off := 0) rfl Tryd.underlying28 rfl sz25 rfl rfl) ?_
  refine At.wq (some 139) (Q_loadN (k := 3) (j := 0) (cs := [(key).map u8V, (iv).map u8V].flatten) rfl rfl Tryd.underlying25 rfl sz25 rfl rfl rfl (seg_ats (i := 0) (c := 2) rfl LN LN) LN) ?_
  refine At.wcV (some 140) [] (vs := [_]) rfl en10 rfl V0 (c_to (key := key) (iv := iv) LN LN) ?_
  refine At.wp (some 141) (P_fieldAddr0 (off := 44) rfl Tryd.underlying28 rfl sz26 rfl rfl) ?_
  refine At.wq (some 142) (Q_loadO (k := 3) rfl rfl Tryd.underlying26 rfl rfl (seg_get (i := 2) (p := 0) rfl LN rfl)) ?_
  refine At.wp (some 143) (P_move rfl rfl) ?_
  refine At.wp (some 144) (P_xor_w UK.u64 rfl rfl rfl) ?_
  refine At.wp (some 145) (P_move rfl rfl) ?_
  refine At.wp (some 146) (P_slice_sl (l := 5) (h := (rsT key iv seq kd (txt.take ((min ntxt 300) - 0)) pad).length) (m := c43) rfl Tryd.underlying29 sz5 rfl ⟨_, _, rfl, rfl⟩ rfl rfl DO DO DO) ?_
  refine At.wqn ?_
  refine At.we ?_
  refine SStep.up (S_callV (some 147) [(43, _)] [147] (vs := [_, _, _]) rfl en15 rfl (VN (by simp) rfl (View.sub (j := 5) (m := (((rsT key iv seq kd (txt.take ((min ntxt 300) - 0)) pad).length) - 5)) rfl rfl) V0) (by simp) (c_ROpen (key := key) (iv := iv) (seq := (seq ^^^ y)) (b := (((rsT key iv seq kd (txt.take ((min ntxt 300) - 0)) pad).drop 5).take (((rsT key iv seq kd (txt.take ((min ntxt 300) - 0)) pad).length) - 5))) (nb := (((rsT key iv seq kd (txt.take ((min ntxt 300) - 0)) pad).length) - 5)) (Ab := (cut A43 5 c43 1)) (cb := (c43 - 5)) (bb := b43) (qb := (0 + 5)) LN LN LN (fun h => cut_addr1 ((fun h => g43a (by omega)) (by omega)) (by omega)) OG OG) (by rintro _ _ ⟨A147, b147, c147, r147, m147, g147a, g147b, rfl, rfl⟩; rfl) ?_)
  rintro _ _ ⟨A147, b147, c147, r147, m147, g147a, g147b, rfl, rfl⟩
  refine At.forgetM 147 rfl ?_
  refine At.wp (some 137) (P_move rfl rfl) ?_
  refine At.wp (some 148) (P_extract rfl rfl rfl) ?_
  refine At.wp (some 149) (P_extract rfl rfl rfl) ?_
  refine At.wp (some 150) (P_extract rfl rfl rfl) ?_
  refine At.wp (some 19) (P_assign rfl rfl) ?_
  refine At.wp (some 20) (P_assign rfl rfl) ?_
  refine At.wqn ?_
  refine At.wt rfl ?_
  refine At.p (some 21) (P_assign rfl rfl) ?_
  refine At.nil ?_
  refine At.next ?_
  refine At.seq ?_
  refine At.draws 15 [] [.q false [0, 1, 2, 3, 4, 5, 6, 7], .e false 8, .q false [9, 10, 11, 12, 13, 14]] (by kernel_rfl) (by kernel_rfl) ?_
  refine At.wp (some 152) (P_fieldAddr0 (off := 0) rfl Tryd.underlying28 rfl sz25 rfl rfl) ?_
  refine At.wq (some 153) (Q_loadN (k := 3) (j := 0) (cs := [(key).map u8V, (iv).map u8V].flatten) rfl rfl Tryd.underlying25 rfl sz25 rfl rfl rfl (seg_ats (i := 0) (c := 2) rfl LN LN) LN) ?_
  refine At.wp (some 154) (P_fieldAddr0 (off := 44) rfl Tryd.underlying28 rfl sz26 rfl rfl) ?_
  refine At.wq (some 155) (Q_loadO (k := 3) rfl rfl Tryd.underlying26 rfl rfl (seg_get (i := 2) (p := 0) rfl LN rfl)) ?_
  refine At.wp (some 156) (P_move rfl rfl) ?_
  refine At.wp (some 157) (P_xor_w UK.u64 rfl rfl rfl) ?_
  refine At.wp (some 158) (P_move rfl rfl) ?_
  refine At.wp (some 159) (P_slice_sl (l := 5) (h := (rsT key iv seq kd (txt.take ((min ntxt 300) - 0)) pad).length) (m := c43) rfl Tryd.underlying29 sz5 rfl ⟨_, _, rfl, rfl⟩ rfl rfl DO DO DO) ?_
  refine At.wqn ?_
  refine At.we ?_
  refine SStep.up (S_callV (some 160) [(43, _)] [160] (vs := [_, _, _]) rfl en16 rfl (VN (by simp) rfl (View.sub (j := 5) (m := (((rsT key iv seq kd (txt.take ((min ntxt 300) - 0)) pad).length) - 5)) rfl rfl) V0) (by simp) (r_ROpen (key := key) (iv := iv) (seq := (seq ^^^ y)) (b := (((rsT key iv seq kd (txt.take ((min ntxt 300) - 0)) pad).drop 5).take (((rsT key iv seq kd (txt.take ((min ntxt 300) - 0)) pad).length) - 5))) (nb := (((rsT key iv seq kd (txt.take ((min ntxt 300) - 0)) pad).length) - 5)) (Ab := (cut A43 5 c43 1)) (cb := (c43 - 5)) (bb := b43) (qb := (0 + 5)) LN LN LN (fun h => cut_addr1 ((fun h => g43a (by omega)) (by omega)) (by omega)) OG OG) (by rintro _ _ ⟨A160, b160, c160, r160, m160, g160a, g160b, rfl, rfl⟩; rfl) ?_)
  rintro _ _ ⟨A160, b160, c160, r160, m160, g160a, g160b, rfl, rfl⟩
  refine At.forgetM 160 rfl ?_
  refine At.wp (some 151) (P_move rfl rfl) ?_
  refine At.wp (some 161) (P_extract rfl rfl rfl) ?_
  refine At.wp (some 162) (P_extract rfl rfl rfl) ?_
  refine At.wp (some 163) (P_extract rfl rfl rfl) ?_
  refine At.wp (some 22) (P_assign rfl rfl) ?_
  refine At.wp (some 23) (P_assign rfl rfl) ?_
  refine At.wqn ?_
  refine At.wt rfl ?_
  refine At.p (some 24) (P_assign rfl rfl) ?_
  refine At.nil ?_
  refine At.next ?_
  refine At.seq ?_
  refine At.region ?_
  refine At.p (some 164) (P_move rfl rfl) ?_
  refine At.p (some 165) (P_cmp rfl rfl rfl rfl rfl rfl) ?_
  refine At.p (some 166) (P_move rfl rfl) ?_
  refine At.gy (t := 166) rfl (by first | rfl | (simp only [zE, zO, z0, z1, z2]; done) | (simp only [zE, zO, z0, z1, z2]; simp; done) | (simp [rpE_ok]; done) | (rcases rpE_01 kd (txt.take (min ntxt 300 - 0)).length with h | h <;> simp_all) | (simp; done)) rfl rfl ?_
  refine At.p (some 167) (P_move rfl rfl) ?_
  refine At.gy (t := 166) rfl (by first | rfl | (simp only [zE, zO, z0, z1, z2]; done) | (simp only [zE, zO, z0, z1, z2]; simp; done) | (simp [rpE_ok]; done) | (rcases rpE_01 kd (txt.take (min ntxt 300 - 0)).length with h | h <;> simp_all) | (simp; done)) rfl rfl ?_
  refine At.p (some 168) (P_fieldAddr0 (off := 45) rfl Tryd.underlying28 rfl sz3 rfl rfl) ?_
  refine At.gy (t := 166) rfl (by first | rfl | (simp only [zE, zO, z0, z1, z2]; done) | (simp only [zE, zO, z0, z1, z2]; simp; done) | (simp [rpE_ok]; done) | (rcases rpE_01 kd (txt.take (min ntxt 300 - 0)).length with h | h <;> simp_all) | (simp; done)) rfl rfl ?_
  refine At.q (some 169) (Q_loadO (k := 3) rfl rfl Tryd.underlying3 rfl rfl (seg_get (i := 2) (p := 1) rfl LN rfl)) ?_
  refine At.gy (t := 166) rfl (by first | rfl | (simp only [zE, zO, z0, z1, z2]; done) | (simp only [zE, zO, z0, z1, z2]; simp; done) | (simp [rpE_ok]; done) | (rcases rpE_01 kd (txt.take (min ntxt 300 - 0)).length with h | h <;> simp_all) | (simp; done)) rfl rfl ?_
  refine At.p (some 170) (P_cmp rfl rfl rfl rfl rfl rfl) ?_
  refine At.p (some 171) (P_pick_t rfl rfl (by first | rfl | (simp only [zE, zO, z0, z1, z2]; done) | (simp only [zE, zO, z0, z1, z2]; simp; done) | (simp [rpE_ok]; done) | (rcases rpE_01 kd (txt.take (min ntxt 300 - 0)).length with h | h <;> simp_all) | (simp; done)) rfl) ?_
  refine At.p (some 172) (P_move rfl rfl) ?_
  refine At.gy (t := 172) rfl (by first | rfl | (simp only [zE, zO, z0, z1, z2]; done) | (simp only [zE, zO, z0, z1, z2]; simp; done) | (simp [rpE_ok]; done) | (rcases rpE_01 kd (txt.take (min ntxt 300 - 0)).length with h | h <;> simp_all) | (simp; done)) rfl rfl ?_
  refine At.p (some 173) (P_move rfl rfl) ?_
  refine At.gy (t := 172) rfl (by first | rfl | (simp only [zE, zO, z0, z1, z2]; done) | (simp only [zE, zO, z0, z1, z2]; simp; done) | (simp [rpE_ok]; done) | (rcases rpE_01 kd (txt.take (min ntxt 300 - 0)).length with h | h <;> simp_all) | (simp; done)) rfl rfl ?_
  refine At.q (some 174) (Q_strA (l := (roT key iv seq (((rsT key iv seq kd (txt.take ((min ntxt 300) - 0)) pad).drop 5).take (((rsT key iv seq kd (txt.take ((min ntxt 300) - 0)) pad).length) - 5)))) (n := ((roT key iv seq (((rsT key iv seq kd (txt.take ((min ntxt 300) - 0)) pad).drop 5).take (((rsT key iv seq kd (txt.take ((min ntxt 300) - 0)) pad).length) - 5))).length)) (k := 133) LN rfl Tryd.underlying29 Tryd.underlying5 Tryd.underlying9 rfl g133a (fun _ => ⟨rfl, rfl, rfl⟩)) ?_
  refine At.gy (t := 172) rfl (by first | rfl | (simp only [zE, zO, z0, z1, z2]; done) | (simp only [zE, zO, z0, z1, z2]; simp; done) | (simp [rpE_ok]; done) | (rcases rpE_01 kd (txt.take (min ntxt 300 - 0)).length with h | h <;> simp_all) | (simp; done)) rfl rfl ?_
  refine At.p (some 175) (P_move rfl rfl) ?_
  refine At.gy (t := 172) rfl (by first | rfl | (simp only [zE, zO, z0, z1, z2]; done) | (simp only [zE, zO, z0, z1, z2]; simp; done) | (simp [rpE_ok]; done) | (rcases rpE_01 kd (txt.take (min ntxt 300 - 0)).length with h | h <;> simp_all) | (simp; done)) rfl rfl ?_
  refine At.q (some 176) (Q_strP (l := txt) (n := ((min ntxt 300) - 0)) (k := 0) (j := 0) OG rfl Tryd.underlying29 Tryd.underlying5 Tryd.underlying9 rfl (fun h => cut_zero (hAtxt (by omega))) (fun _ => ⟨rfl, rfl, (Nat.add_zero _)⟩)) ?_
  refine At.gy (t := 172) rfl (by first | rfl | (simp only [zE, zO, z0, z1, z2]; done) | (simp only [zE, zO, z0, z1, z2]; simp; done) | (simp [rpE_ok]; done) | (rcases rpE_01 kd (txt.take (min ntxt 300 - 0)).length with h | h <;> simp_all) | (simp; done)) rfl rfl ?_
  refine At.p (some 177) (P_eql_str (a := (roT key iv seq (((rsT key iv seq kd (txt.take ((min ntxt 300) - 0)) pad).drop 5).take (((rsT key iv seq kd (txt.take ((min ntxt 300) - 0)) pad).length) - 5)))) (b := (txt.take ((min ntxt 300) - 0))) rfl rfl rfl) ?_
  refine At.p (some 178) (P_pick_t rfl rfl (by first | rfl | (simp only [zE, zO, z0, z1, z2]; done) | (simp only [zE, zO, z0, z1, z2]; simp; done) | (simp [rpE_ok]; done) | (rcases rpE_01 kd (txt.take (min ntxt 300 - 0)).length with h | h <;> simp_all) | (simp; done)) rfl) ?_
  refine At.p (some 179) (P_move rfl rfl) ?_
  refine At.gy (t := 179) rfl (by first | rfl | (simp only [zE, zO, z0, z1, z2]; done) | (simp only [zE, zO, z0, z1, z2]; simp; done) | (simp [rpE_ok]; done) | (rcases rpE_01 kd (txt.take (min ntxt 300 - 0)).length with h | h <;> simp_all) | (simp; done)) rfl rfl ?_
  refine At.p (some 180) (P_move rfl rfl) ?_
  refine At.gy (t := 179) rfl (by first | rfl | (simp only [zE, zO, z0, z1, z2]; done) | (simp only [zE, zO, z0, z1, z2]; simp; done) | (simp [rpE_ok]; done) | (rcases rpE_01 kd (txt.take (min ntxt 300 - 0)).length with h | h <;> simp_all) | (simp; done)) rfl rfl ?_
  refine At.p (some 181) (P_move rfl rfl) ?_
  refine At.gy (t := 179) rfl (by first | rfl | (simp only [zE, zO, z0, z1, z2]; done) | (simp only [zE, zO, z0, z1, z2]; simp; done) | (simp [rpE_ok]; done) | (rcases rpE_01 kd (txt.take (min ntxt 300 - 0)).length with h | h <;> simp_all) | (simp; done)) rfl rfl ?_
  refine At.p (some 182) (P_cmp rfl rfl rfl rfl rfl rfl) ?_
  refine At.p (some 183) (P_pick_t rfl rfl (by first | rfl | (simp only [zE, zO, z0, z1, z2]; done) | (simp only [zE, zO, z0, z1, z2]; simp; done) | (simp [rpE_ok]; done) | (rcases rpE_01 kd (txt.take (min ntxt 300 - 0)).length with h | h <;> simp_all) | (simp; done)) rfl) ?_
  refine At.p (some 6) (P_assign rfl rfl) ?_
  refine At.nil ?_
  refine At.next ?_
  refine At.ret ?_
  have hq0 : ((roE key iv (seq ^^^ y) (((rsT key iv seq kd (txt.take ((min ntxt 300) - 0)) pad).drop 5).take (((rsT key iv seq kd (txt.take ((min ntxt 300) - 0)) pad).length) - 5))) == (roE key iv (seq ^^^ y) (((rsT key iv seq kd (txt.take ((min ntxt 300) - 0)) pad).drop 5).take (((rsT key iv seq kd (txt.take ((min ntxt 300) - 0)) pad).length) - 5)))) = true := (by first | rfl | (simp only [zE, zO, z0, z1, z2]; done) | (simp only [zE, zO, z0, z1, z2]; simp; done) | (simp [rpE_ok]; done) | (rcases rpE_01 kd (txt.take (min ntxt 300 - 0)).length with h | h <;> simp_all) | (simp; done))
  refine At.give (.inl rfl) [] (rows' := []) (vs := [_]) rfl ⟨rfl, trivial⟩ rfl (by simp) (by simp) ⟨(by first | (rw [hq0]; try rfl; done) | (rw [← hq0]; try rfl; done) | (simp only [hq0]; try rfl; done) | (simp only [← hq0]; try rfl; done) | rfl), (by first | (rw [hq0]; try rfl; done) | (rw [← hq0]; try rfl; done) | (simp only [hq0]; try rfl; done) | (simp only [← hq0]; try rfl; done) | rfl)⟩

set_option maxHeartbeats 2000000 in
theorem l_Seals_f {key : List (BitVec 8)} {iv : List (BitVec 8)} {seq : BitVec 64} {kd : Int} {pad : Int} {txt : List (BitVec 8)} {Atxt : Option Addr} {ntxt ctxt btxt qtxt : Nat} {y : BitVec 64} (hkey : key.length = 32) (hiv : iv.length = 12) (hntxt : txt.length = ntxt) (hAtxt : 0 < ntxt → Atxt = some ⟨btxt, qtxt, none⟩) (hctxt : ntxt ≤ ctxt) (hv : rsOk kd (txt.take (min ntxt 300 - 0)).length pad = false) :
  Con Tryd.prog 3 [.agg ([(key).map u8V, (iv).map u8V, [u64V seq, iV kd, iV pad]].flatten).toArray, .slice Atxt ntxt ctxt, u64V y] [pRow btxt qtxt txt] (fun v rs => v = .bool true ∧ rs = []) := by
 refine Con.enter Tryd.func3 Tryd.ntmps3 (Nat.le_of_ble_eq_true rfl) rfl fun w => ?_
 refine At.seq ?_
 refine At.region ?_
 refine At.s (S_box (some 3) 3 (zs := [(key).map u8V, (iv).map u8V, [u64V seq, iV kd, iV pad]].flatten) rfl rfl rfl (fun b3 => ?_))
 refine At.p (some 6) (P_assign rfl rfl) ?_
 refine At.nil ?_
 refine At.next ?_
 refine At.seq ?_
 have htl : (txt.take (min ntxt 300 - 0)).length ≤ 300 := by rw [List.length_take]; omega
 refine At.region ?_
 refine At.p (some 25) (P_move rfl rfl) ?_
 refine At.p (some 26) (P_move rfl rfl) ?_
 refine At.p (some 27) (P_len_sl rfl rfl ⟨_, Tryd.underlying29⟩ rfl) ?_
 refine At.p (some 28) (P_min2 rfl rfl rfl rfl) ?_
 refine At.p (some 29) (P_slice_sl (l := 0) (h := (min ntxt 300)) (m := ctxt) rfl Tryd.underlying29 sz5 rfl rfl ⟨_, _, rfl, by omega⟩ rfl DO DO DO) ?_
 refine At.p (some 1) (P_assign rfl rfl) ?_
 refine At.nil ?_
 refine At.next ?_
 refine At.seq ?_
 refine At.region ?_
 refine At.p (some 30) (P_move rfl rfl) ?_
 refine At.q (some 31) (Q_strP (l := txt) (n := ((min ntxt 300) - 0)) (k := 0) (j := 0) OG rfl Tryd.underlying29 Tryd.underlying5 Tryd.underlying9 rfl (fun h => cut_zero (hAtxt (by omega))) (fun _ => ⟨rfl, rfl, (Nat.add_zero _)⟩)) ?_
 refine At.p (some 7) (P_assign rfl rfl) ?_
 refine At.nil ?_
 refine At.next ?_
 refine At.seq ?_
 refine At.draws 15 [] [.q false [0, 1, 2, 3, 4, 5, 6, 7, 8, 9], .e false 10, .q false [11, 12, 13, 14]] (by kernel_rfl) (by kernel_rfl) ?_
 refine At.wp (some 33) (P_fieldAddr0 (off := 0) rfl Tryd.underlying28 rfl sz25 rfl rfl) ?_
 refine At.wq (some 34) (Q_loadN (k := 3) (j := 0) (cs := [(key).map u8V, (iv).map u8V].flatten) rfl rfl Tryd.underlying25 rfl sz25 rfl rfl rfl (seg_ats (i := 0) (c := 2) rfl LN LN) LN) ?_
 refine At.wcV (some 35) [] (vs := [_]) rfl en10 rfl V0 (c_to (key := key) (iv := iv) LN LN) ?_
 refine At.wp (some 36) (P_fieldAddr0 (off := 44) rfl Tryd.underlying28 rfl sz26 rfl rfl) ?_
 refine At.wq (some 37) (Q_loadO (k := 3) rfl rfl Tryd.underlying26 rfl rfl (seg_get (i := 2) (p := 0) rfl LN rfl)) ?_
 refine At.wp (some 38) (P_fieldAddr0 (off := 45) rfl Tryd.underlying28 rfl sz3 rfl rfl) ?_
 refine At.wq (some 39) (Q_loadO (k := 3) rfl rfl Tryd.underlying3 rfl rfl (seg_get (i := 2) (p := 1) rfl LN rfl)) ?_
 refine At.wp (some 40) (P_move rfl rfl) ?_
 refine At.wp (some 41) (P_fieldAddr0 (off := 46) rfl Tryd.underlying28 rfl sz3 rfl rfl) ?_
 refine At.wq (some 42) (Q_loadO (k := 3) rfl rfl Tryd.underlying3 rfl rfl (seg_get (i := 2) (p := 2) rfl LN rfl)) ?_
 refine At.wqn ?_
 refine At.we ?_
 refine SStep.up (S_callV (some 43) [(0, _)] [43] (vs := [_, _, _, _, _]) rfl en9 rfl (VN (by simp) rfl (View.sub (j := 0) (m := ((min ntxt 300) - 0)) RO rfl) V0) (by simp) (c_RSeal (key := key) (iv := iv) (seq := seq) (kd := kd) (txt := (txt.take ((min ntxt 300) - 0))) (ntxt := ((min ntxt 300) - 0)) (Atxt := (cut Atxt 0 ctxt 1)) (ctxt := (ctxt - 0)) (btxt := btxt) (qtxt := qtxt) (pad := pad) LN LN LN (fun h => cut_zero (hAtxt (by omega))) OG) (by rintro _ _ ⟨A43, b43, c43, g43a, g43b, rfl, rfl⟩; rfl) ?_)
 rintro _ _ ⟨A43, b43, c43, g43a, g43b, rfl, rfl⟩
 have := rsT_le key iv seq kd (txt.take ((min ntxt 300) - 0)) pad
 refine At.wp (some 32) (P_move rfl rfl) ?_
 refine At.wp (some 44) (P_extract rfl rfl rfl) ?_
 refine At.wp (some 45) (P_extract rfl rfl rfl) ?_
 refine At.wp (some 8) (P_assign rfl rfl) ?_
 refine At.wqn ?_
 refine At.wt rfl ?_
 refine At.p (some 9) (P_assign rfl rfl) ?_
 refine At.nil ?_
 refine At.next ?_
 refine At.seq ?_
 refine At.region ?_
 refine At.p (some 47) (P_fieldAddr0 (off := 0) rfl Tryd.underlying28 rfl sz25 rfl rfl) ?_
 refine At.q (some 48) (Q_loadN (k := 3) (j := 0) (cs := [(key).map u8V, (iv).map u8V].flatten) rfl rfl Tryd.underlying25 rfl sz25 rfl rfl rfl (seg_ats (i := 0) (c := 2) rfl LN LN) LN) ?_
 refine At.p (some 49) (P_fieldAddr0 (off := 44) rfl Tryd.underlying28 rfl sz26 rfl rfl) ?_
 refine At.q (some 50) (Q_loadO (k := 3) rfl rfl Tryd.underlying26 rfl rfl (seg_get (i := 2) (p := 0) rfl LN rfl)) ?_
 refine At.p (some 51) (P_fieldAddr0 (off := 45) rfl Tryd.underlying28 rfl sz3 rfl rfl) ?_
 refine At.q (some 52) (Q_loadO (k := 3) rfl rfl Tryd.underlying3 rfl rfl (seg_get (i := 2) (p := 1) rfl LN rfl)) ?_
 refine At.p (some 53) (P_move rfl rfl) ?_
 refine At.p (some 54) (P_fieldAddr0 (off := 46) rfl Tryd.underlying28 rfl sz3 rfl rfl) ?_
 refine At.q (some 55) (Q_loadO (k := 3) rfl rfl Tryd.underlying3 rfl rfl (seg_get (i := 2) (p := 2) rfl LN rfl)) ?_
 refine At.s (S_callV (some 56) [(0, _)] [56] (vs := [_, _, _, _, _]) rfl en11 rfl (VN (by simp) rfl (View.sub (j := 0) (m := ((min ntxt 300) - 0)) RO rfl) V0) (by simp) (r_RSeal (key := key) (iv := iv) (seq := seq) (kd := kd) (txt := (txt.take ((min ntxt 300) - 0))) (ntxt := ((min ntxt 300) - 0)) (Atxt := (cut Atxt 0 ctxt 1)) (ctxt := (ctxt - 0)) (btxt := btxt) (qtxt := qtxt) (pad := pad) LN LN LN (fun h => cut_zero (hAtxt (by omega))) OG) (by rintro _ _ ⟨A56, b56, c56, g56a, g56b, rfl, rfl⟩; rfl) ?_)
 rintro _ _ ⟨A56, b56, c56, g56a, g56b, rfl, rfl⟩
 have := rsT_le key iv seq kd (txt.take ((min ntxt 300) - 0)) pad
 refine At.p (some 46) (P_move rfl rfl) ?_
 refine At.p (some 57) (P_extract rfl rfl rfl) ?_
 refine At.p (some 58) (P_extract rfl rfl rfl) ?_
 refine At.p (some 10) (P_assign rfl rfl) ?_
 refine At.p (some 11) (P_assign rfl rfl) ?_
 refine At.nil ?_
 refine At.next ?_
 refine At.seq ?_
 refine At.region ?_
 refine At.p (some 60) (P_fieldAddr0 (off := 45) rfl Tryd.underlying28 rfl sz3 rfl rfl) ?_
 refine At.q (some 61) (Q_loadO (k := 3) rfl rfl Tryd.underlying3 rfl rfl (seg_get (i := 2) (p := 1) rfl LN rfl)) ?_
 refine At.p (some 62) (P_move rfl rfl) ?_
 refine At.s (S_callV (some 63) [(0, _)] [63] (vs := [_, _]) rfl en12 rfl (VN (by simp) rfl (View.sub (j := 0) (m := ((min ntxt 300) - 0)) RO rfl) V0) (by simp) (c_Plain (kd := kd) (txt := (txt.take ((min ntxt 300) - 0))) (ntxt := ((min ntxt 300) - 0)) (Atxt := (cut Atxt 0 ctxt 1)) (ctxt := (ctxt - 0)) (btxt := btxt) (qtxt := qtxt) LN (fun h => cut_zero (hAtxt (by omega))) OG) (by rintro _ _ ⟨A63, b63, c63, g63a, g63b, rfl, rfl⟩; rfl) ?_)
 rintro _ _ ⟨A63, b63, c63, g63a, g63b, rfl, rfl⟩
 refine At.p (some 59) (P_move rfl rfl) ?_
 refine At.p (some 64) (P_extract rfl rfl rfl) ?_
 refine At.p (some 65) (P_extract rfl rfl rfl) ?_
 refine At.p (some 12) (P_assign rfl rfl) ?_
 refine At.p (some 13) (P_assign rfl rfl) ?_
 refine At.nil ?_
 refine At.next ?_
 refine At.seq ?_
 refine At.region ?_
 refine At.p (some 67) (P_fieldAddr0 (off := 45) rfl Tryd.underlying28 rfl sz3 rfl rfl) ?_
 refine At.q (some 68) (Q_loadO (k := 3) rfl rfl Tryd.underlying3 rfl rfl (seg_get (i := 2) (p := 1) rfl LN rfl)) ?_
 refine At.p (some 69) (P_move rfl rfl) ?_
 refine At.s (S_callV (some 70) [(0, _)] [70] (vs := [_, _]) rfl en13 rfl (VN (by simp) rfl (View.sub (j := 0) (m := ((min ntxt 300) - 0)) RO rfl) V0) (by simp) (r_Plain (kd := kd) (txt := (txt.take ((min ntxt 300) - 0))) (ntxt := ((min ntxt 300) - 0)) (Atxt := (cut Atxt 0 ctxt 1)) (ctxt := (ctxt - 0)) (btxt := btxt) (qtxt := qtxt) LN (fun h => cut_zero (hAtxt (by omega))) OG) (by rintro _ _ ⟨A70, b70, c70, g70a, g70b, rfl, rfl⟩; rfl) ?_)
 rintro _ _ ⟨A70, b70, c70, g70a, g70b, rfl, rfl⟩
 refine At.p (some 66) (P_move rfl rfl) ?_
 refine At.p (some 71) (P_extract rfl rfl rfl) ?_
 refine At.p (some 72) (P_extract rfl rfl rfl) ?_
 refine At.p (some 14) (P_assign rfl rfl) ?_
 refine At.p (some 15) (P_assign rfl rfl) ?_
 refine At.nil ?_
 refine At.next ?_
 refine At.seq ?_
 refine At.seq ?_
 have zE := rsE_f hv
 have zO := hv
 refine At.region ?_
 refine At.s (S_callV (some 73) [] [] (vs := []) rfl en14 rfl V0 (by simp) (c_seals  ) (by rintro _ _ ⟨rfl, rfl⟩; rfl) ?_)
 rintro _ _ ⟨rfl, rfl⟩
 refine At.p (some 74) (P_not rfl rfl) ?_
 refine At.p (some 75) (P_move rfl rfl) ?_
 refine At.gy (t := 75) rfl (by first | rfl | (simp only [zE, zO]; done) | (simp only [zE, zO]; simp; done) | (simp [rpE_ok]; done) | (rcases rpE_01 kd (txt.take (min ntxt 300 - 0)).length with h | h <;> simp_all) | (simp; done)) rfl rfl ?_
 refine At.p (some 76) (P_move rfl rfl) ?_
 refine At.gy (t := 75) rfl (by first | rfl | (simp only [zE, zO]; done) | (simp only [zE, zO]; simp; done) | (simp [rpE_ok]; done) | (rcases rpE_01 kd (txt.take (min ntxt 300 - 0)).length with h | h <;> simp_all) | (simp; done)) rfl rfl ?_
 refine At.p (some 77) (P_cmp rfl rfl rfl rfl rfl rfl) ?_
 refine At.gy (t := 75) rfl (by first | rfl | (simp only [zE, zO]; done) | (simp only [zE, zO]; simp; done) | (simp [rpE_ok]; done) | (rcases rpE_01 kd (txt.take (min ntxt 300 - 0)).length with h | h <;> simp_all) | (simp; done)) rfl rfl ?_
 refine At.p (some 78) (P_move rfl rfl) ?_
 refine At.gy (t := 75) rfl (by first | rfl | (simp only [zE, zO]; done) | (simp only [zE, zO]; simp; done) | (simp [rpE_ok]; done) | (rcases rpE_01 kd (txt.take (min ntxt 300 - 0)).length with h | h <;> simp_all) | (simp; done)) rfl rfl ?_
 refine At.p (some 79) (P_neq_bool rfl Tryd.underlying4 rfl rfl) ?_
 refine At.p (some 80) (P_pick_f rfl rfl (by first | rfl | (simp only [zE, zO]; done) | (simp only [zE, zO]; simp; done) | (simp [rpE_ok]; done) | (rcases rpE_01 kd (txt.take (min ntxt 300 - 0)).length with h | h <;> simp_all) | (simp; done)) rfl) ?_
 refine At.p (some 81) (P_move rfl rfl) ?_
 refine At.gy (t := 81) rfl (by first | rfl | (simp only [zE, zO]; done) | (simp only [zE, zO]; simp; done) | (simp [rpE_ok]; done) | (rcases rpE_01 kd (txt.take (min ntxt 300 - 0)).length with h | h <;> simp_all) | (simp; done)) rfl rfl ?_
 refine At.p (some 82) (P_move rfl rfl) ?_
 refine At.gy (t := 81) rfl (by first | rfl | (simp only [zE, zO]; done) | (simp only [zE, zO]; simp; done) | (simp [rpE_ok]; done) | (rcases rpE_01 kd (txt.take (min ntxt 300 - 0)).length with h | h <;> simp_all) | (simp; done)) rfl rfl ?_
 refine At.p (some 83) (P_cmp rfl rfl rfl rfl rfl rfl) ?_
 refine At.gy (t := 81) rfl (by first | rfl | (simp only [zE, zO]; done) | (simp only [zE, zO]; simp; done) | (simp [rpE_ok]; done) | (rcases rpE_01 kd (txt.take (min ntxt 300 - 0)).length with h | h <;> simp_all) | (simp; done)) rfl rfl ?_
 refine At.p (some 84) (P_move rfl rfl) ?_
 refine At.gy (t := 81) rfl (by first | rfl | (simp only [zE, zO]; done) | (simp only [zE, zO]; simp; done) | (simp [rpE_ok]; done) | (rcases rpE_01 kd (txt.take (min ntxt 300 - 0)).length with h | h <;> simp_all) | (simp; done)) rfl rfl ?_
 refine At.p (some 85) (P_neq_bool rfl Tryd.underlying4 rfl rfl) ?_
 refine At.p (some 86) (P_pick_f rfl rfl (by first | rfl | (simp only [zE, zO]; done) | (simp only [zE, zO]; simp; done) | (simp [rpE_ok]; done) | (rcases rpE_01 kd (txt.take (min ntxt 300 - 0)).length with h | h <;> simp_all) | (simp; done)) rfl) ?_
 refine At.p (some 87) (P_move rfl rfl) ?_
 refine At.gy (t := 87) rfl (by first | rfl | (simp only [zE, zO]; done) | (simp only [zE, zO]; simp; done) | (simp [rpE_ok]; done) | (rcases rpE_01 kd (txt.take (min ntxt 300 - 0)).length with h | h <;> simp_all) | (simp; done)) rfl rfl ?_
 refine At.p (some 88) (P_move rfl rfl) ?_
 refine At.gy (t := 87) rfl (by first | rfl | (simp only [zE, zO]; done) | (simp only [zE, zO]; simp; done) | (simp [rpE_ok]; done) | (rcases rpE_01 kd (txt.take (min ntxt 300 - 0)).length with h | h <;> simp_all) | (simp; done)) rfl rfl ?_
 refine At.q (some 89) (Q_strA (l := (rsT key iv seq kd (txt.take ((min ntxt 300) - 0)) pad)) (n := ((rsT key iv seq kd (txt.take ((min ntxt 300) - 0)) pad).length)) (k := 43) LN rfl Tryd.underlying29 Tryd.underlying5 Tryd.underlying9 rfl (fun h => g43a (by omega)) (fun _ => ⟨rfl, rfl, rfl⟩)) ?_
 refine At.gy (t := 87) rfl (by first | rfl | (simp only [zE, zO]; done) | (simp only [zE, zO]; simp; done) | (simp [rpE_ok]; done) | (rcases rpE_01 kd (txt.take (min ntxt 300 - 0)).length with h | h <;> simp_all) | (simp; done)) rfl rfl ?_
 refine At.p (some 90) (P_move rfl rfl) ?_
 refine At.gy (t := 87) rfl (by first | rfl | (simp only [zE, zO]; done) | (simp only [zE, zO]; simp; done) | (simp [rpE_ok]; done) | (rcases rpE_01 kd (txt.take (min ntxt 300 - 0)).length with h | h <;> simp_all) | (simp; done)) rfl rfl ?_
 refine At.q (some 91) (Q_strA (l := (rsT key iv seq kd (txt.take ((min ntxt 300) - 0)) pad)) (n := ((rsT key iv seq kd (txt.take ((min ntxt 300) - 0)) pad).length)) (k := 56) LN rfl Tryd.underlying29 Tryd.underlying5 Tryd.underlying9 rfl (fun h => g56a (by omega)) (fun _ => ⟨rfl, rfl, rfl⟩)) ?_
 refine At.gy (t := 87) rfl (by first | rfl | (simp only [zE, zO]; done) | (simp only [zE, zO]; simp; done) | (simp [rpE_ok]; done) | (rcases rpE_01 kd (txt.take (min ntxt 300 - 0)).length with h | h <;> simp_all) | (simp; done)) rfl rfl ?_
 refine At.p (some 92) (P_neq_str (a := (rsT key iv seq kd (txt.take ((min ntxt 300) - 0)) pad)) (b := (rsT key iv seq kd (txt.take ((min ntxt 300) - 0)) pad)) rfl rfl rfl) ?_
 refine At.p (some 93) (P_pick_f rfl rfl (by first | rfl | (simp only [zE, zO]; done) | (simp only [zE, zO]; simp; done) | (simp [rpE_ok]; done) | (rcases rpE_01 kd (txt.take (min ntxt 300 - 0)).length with h | h <;> simp_all) | (simp; done)) rfl) ?_
 refine At.p (some 94) (P_move rfl rfl) ?_
 refine At.gy (t := 94) rfl (by first | rfl | (simp only [zE, zO]; done) | (simp only [zE, zO]; simp; done) | (simp [rpE_ok]; done) | (rcases rpE_01 kd (txt.take (min ntxt 300 - 0)).length with h | h <;> simp_all) | (simp; done)) rfl rfl ?_
 refine At.p (some 95) (P_move rfl rfl) ?_
 refine At.gy (t := 94) rfl (by first | rfl | (simp only [zE, zO]; done) | (simp only [zE, zO]; simp; done) | (simp [rpE_ok]; done) | (rcases rpE_01 kd (txt.take (min ntxt 300 - 0)).length with h | h <;> simp_all) | (simp; done)) rfl rfl ?_
 refine At.q (some 96) (Q_strA (l := (rpT kd (txt.take ((min ntxt 300) - 0)))) (n := ((rpT kd (txt.take ((min ntxt 300) - 0))).length)) (k := 63) LN rfl Tryd.underlying29 Tryd.underlying5 Tryd.underlying9 rfl (fun h => g63a (by omega)) (fun _ => ⟨rfl, rfl, rfl⟩)) ?_
 refine At.gy (t := 94) rfl (by first | rfl | (simp only [zE, zO]; done) | (simp only [zE, zO]; simp; done) | (simp [rpE_ok]; done) | (rcases rpE_01 kd (txt.take (min ntxt 300 - 0)).length with h | h <;> simp_all) | (simp; done)) rfl rfl ?_
 refine At.p (some 97) (P_move rfl rfl) ?_
 refine At.gy (t := 94) rfl (by first | rfl | (simp only [zE, zO]; done) | (simp only [zE, zO]; simp; done) | (simp [rpE_ok]; done) | (rcases rpE_01 kd (txt.take (min ntxt 300 - 0)).length with h | h <;> simp_all) | (simp; done)) rfl rfl ?_
 refine At.q (some 98) (Q_strA (l := (rpT kd (txt.take ((min ntxt 300) - 0)))) (n := ((rpT kd (txt.take ((min ntxt 300) - 0))).length)) (k := 70) LN rfl Tryd.underlying29 Tryd.underlying5 Tryd.underlying9 rfl (fun h => g70a (by omega)) (fun _ => ⟨rfl, rfl, rfl⟩)) ?_
 refine At.gy (t := 94) rfl (by first | rfl | (simp only [zE, zO]; done) | (simp only [zE, zO]; simp; done) | (simp [rpE_ok]; done) | (rcases rpE_01 kd (txt.take (min ntxt 300 - 0)).length with h | h <;> simp_all) | (simp; done)) rfl rfl ?_
 refine At.p (some 99) (P_neq_str (a := (rpT kd (txt.take ((min ntxt 300) - 0)))) (b := (rpT kd (txt.take ((min ntxt 300) - 0)))) rfl rfl rfl) ?_
 refine At.p (some 100) (P_pick_f rfl rfl (by first | rfl | (simp only [zE, zO]; done) | (simp only [zE, zO]; simp; done) | (simp [rpE_ok]; done) | (rcases rpE_01 kd (txt.take (min ntxt 300 - 0)).length with h | h <;> simp_all) | (simp; done)) rfl) ?_
 refine At.p (some 101) (P_move rfl rfl) ?_
 refine At.gy (t := 101) rfl (by first | rfl | (simp only [zE, zO]; done) | (simp only [zE, zO]; simp; done) | (simp [rpE_ok]; done) | (rcases rpE_01 kd (txt.take (min ntxt 300 - 0)).length with h | h <;> simp_all) | (simp; done)) rfl rfl ?_
 refine At.p (some 102) (P_move rfl rfl) ?_
 refine At.gy (t := 101) rfl (by first | rfl | (simp only [zE, zO]; done) | (simp only [zE, zO]; simp; done) | (simp [rpE_ok]; done) | (rcases rpE_01 kd (txt.take (min ntxt 300 - 0)).length with h | h <;> simp_all) | (simp; done)) rfl rfl ?_
 refine At.p (some 103) (P_cmp rfl rfl rfl rfl rfl rfl) ?_
 refine At.gy (t := 101) rfl (by first | rfl | (simp only [zE, zO]; done) | (simp only [zE, zO]; simp; done) | (simp [rpE_ok]; done) | (rcases rpE_01 kd (txt.take (min ntxt 300 - 0)).length with h | h <;> simp_all) | (simp; done)) rfl rfl ?_
 refine At.p (some 104) (P_move rfl rfl) ?_
 refine At.gy (t := 104) rfl (by first | rfl | (simp only [zE, zO]; done) | (simp only [zE, zO]; simp; done) | (simp [rpE_ok]; done) | (rcases rpE_01 kd (txt.take (min ntxt 300 - 0)).length with h | h <;> simp_all) | (simp; done)) rfl rfl ?_
 refine At.p (some 105) (P_move rfl rfl) ?_
 refine At.gy (t := 104) rfl (by first | rfl | (simp only [zE, zO]; done) | (simp only [zE, zO]; simp; done) | (simp [rpE_ok]; done) | (rcases rpE_01 kd (txt.take (min ntxt 300 - 0)).length with h | h <;> simp_all) | (simp; done)) rfl rfl ?_
 refine At.p (some 106) (P_cmp rfl rfl rfl rfl rfl rfl) ?_
 refine At.gy (t := 101) rfl (by first | rfl | (simp only [zE, zO]; done) | (simp only [zE, zO]; simp; done) | (simp [rpE_ok]; done) | (rcases rpE_01 kd (txt.take (min ntxt 300 - 0)).length with h | h <;> simp_all) | (simp; done)) rfl rfl ?_
 refine At.p (some 107) (P_pick_t rfl rfl (by first | rfl | (simp only [zE, zO]; done) | (simp only [zE, zO]; simp; done) | (simp [rpE_ok]; done) | (rcases rpE_01 kd (txt.take (min ntxt 300 - 0)).length with h | h <;> simp_all) | (simp; done)) rfl) ?_
 refine At.p (some 108) (P_pick_f rfl rfl (by first | rfl | (simp only [zE, zO]; done) | (simp only [zE, zO]; simp; done) | (simp [rpE_ok]; done) | (rcases rpE_01 kd (txt.take (min ntxt 300 - 0)).length with h | h <;> simp_all) | (simp; done)) rfl) ?_
 refine At.p (some 109) (P_move rfl rfl) ?_
 refine At.gy (t := 109) rfl (by first | rfl | (simp only [zE, zO]; done) | (simp only [zE, zO]; simp; done) | (simp [rpE_ok]; done) | (rcases rpE_01 kd (txt.take (min ntxt 300 - 0)).length with h | h <;> simp_all) | (simp; done)) rfl rfl ?_
 refine At.p (some 110) (P_move rfl rfl) ?_
 refine At.gy (t := 109) rfl (by first | rfl | (simp only [zE, zO]; done) | (simp only [zE, zO]; simp; done) | (simp [rpE_ok]; done) | (rcases rpE_01 kd (txt.take (min ntxt 300 - 0)).length with h | h <;> simp_all) | (simp; done)) rfl rfl ?_
 refine At.p (some 111) (P_cmp rfl rfl rfl rfl rfl rfl) ?_
 refine At.gy (t := 109) rfl (by first | rfl | (simp only [zE, zO]; done) | (simp only [zE, zO]; simp; done) | (simp [rpE_ok]; done) | (rcases rpE_01 kd (txt.take (min ntxt 300 - 0)).length with h | h <;> simp_all) | (simp; done)) rfl rfl ?_
 refine At.p (some 112) (P_move rfl rfl) ?_
 refine At.gsplit (t := 112) (want := true) rfl (fun g1 => ?_) (fun g1 => ?_)
 ·
  have eg1 : (rpE kd (txt.take ((min ntxt 300) - 0)).length) ≠ 0 := bne_iff_ne.1 g1
  refine At.gy (t := 112) rfl g1 rfl rfl ?_
  refine At.p (some 113) (P_move rfl rfl) ?_
  refine At.gy (t := 112) rfl g1 rfl rfl ?_
  refine At.p (some 114) (P_cmp rfl rfl rfl rfl rfl rfl) ?_
  refine At.gy (t := 109) rfl (by first | rfl | (simp only [zE, zO]; done) | (simp only [zE, zO]; simp; done) | (simp [rpE_ok]; done) | (rcases rpE_01 kd (txt.take (min ntxt 300 - 0)).length with h | h <;> simp_all) | (simp; done)) rfl rfl ?_
  refine At.p (some 115) (P_pick_t rfl rfl g1 rfl) ?_
  refine At.p (some 116) (P_pick_f rfl rfl (by first | rfl | (simp only [zE, zO]; done) | (simp only [zE, zO]; simp; done) | (simp [rpE_ok]; done) | (rcases rpE_01 kd (txt.take (min ntxt 300 - 0)).length with h | h <;> simp_all) | (simp; done)) rfl) ?_
  refine At.p (some 117) (P_move rfl rfl) ?_
  refine At.gy (t := 117) rfl (by first | rfl | (simp only [zE, zO]; done) | (simp only [zE, zO]; simp; done) | (simp [rpE_ok]; done) | (rcases rpE_01 kd (txt.take (min ntxt 300 - 0)).length with h | h <;> simp_all) | (simp; done)) rfl rfl ?_
  refine At.p (some 118) (P_move rfl rfl) ?_
  refine At.gy (t := 117) rfl (by first | rfl | (simp only [zE, zO]; done) | (simp only [zE, zO]; simp; done) | (simp [rpE_ok]; done) | (rcases rpE_01 kd (txt.take (min ntxt 300 - 0)).length with h | h <;> simp_all) | (simp; done)) rfl rfl ?_
  refine At.q (some 119) (Q_strP (l := txt) (n := ((min ntxt 300) - 0)) (k := 0) (j := 0) OG rfl Tryd.underlying29 Tryd.underlying5 Tryd.underlying9 rfl (fun h => cut_zero (hAtxt (by omega))) (fun _ => ⟨rfl, rfl, (Nat.add_zero _)⟩)) ?_
  refine At.gy (t := 117) rfl (by first | rfl | (simp only [zE, zO]; done) | (simp only [zE, zO]; simp; done) | (simp [rpE_ok]; done) | (rcases rpE_01 kd (txt.take (min ntxt 300 - 0)).length with h | h <;> simp_all) | (simp; done)) rfl rfl ?_
  refine At.p (some 120) (P_move rfl rfl) ?_
  refine At.gy (t := 117) rfl (by first | rfl | (simp only [zE, zO]; done) | (simp only [zE, zO]; simp; done) | (simp [rpE_ok]; done) | (rcases rpE_01 kd (txt.take (min ntxt 300 - 0)).length with h | h <;> simp_all) | (simp; done)) rfl rfl ?_
  refine At.p (some 121) (P_neq_str (a := (txt.take ((min ntxt 300) - 0))) (b := (txt.take ((min ntxt 300) - 0))) rfl rfl rfl) ?_
  refine At.p (some 122) (P_pick_f rfl rfl (by first | rfl | (simp only [zE, zO]; done) | (simp only [zE, zO]; simp; done) | (simp [rpE_ok]; done) | (rcases rpE_01 kd (txt.take (min ntxt 300 - 0)).length with h | h <;> simp_all) | (simp; done)) rfl) ?_
  refine At.nil ?_
  refine At.next ?_
  refine At.cond rfl (fun h122 => (by exfalso; revert h122; first | (simp only [zE, zO]; simp; done) | (simp; done))) (fun h122 => ?_)
  have e122 : (txt.take ((min ntxt 300) - 0)) = (txt.take ((min ntxt 300) - 0)) := (by first | (simp; done) | simpa using h122)
  refine At.skip ?_
  refine At.next ?_
  refine At.seq ?_
  refine At.seq ?_
  refine At.region ?_
  refine At.p (some 123) (P_move rfl rfl) ?_
  refine At.p (some 124) (P_cmp rfl rfl rfl rfl rfl rfl) ?_
  refine At.nil ?_
  refine At.next ?_
  refine At.cond rfl (fun h124 => ?_) (fun h124 => (by exfalso; rw [zE] at h124; exact absurd h124 (by decide)))
  have e124 : (rsE kd (txt.take ((min ntxt 300) - 0)).length pad) ≠ 0 := bne_iff_ne.1 h124
  refine At.seq ?_
  refine At.region ?_
  refine At.p (some 6) (P_assign rfl rfl) ?_
  refine At.nil ?_
  refine At.next ?_
  refine At.ret ?_
  refine At.thn_r ?_
  have hq0 : true = true := (by first | rfl | (simp only [zE, zO]; done) | (simp only [zE, zO]; simp; done) | (simp [rpE_ok]; done) | (rcases rpE_01 kd (txt.take (min ntxt 300 - 0)).length with h | h <;> simp_all) | (simp; done))
  refine At.give (.inl rfl) [] (rows' := []) (vs := [_]) rfl ⟨rfl, trivial⟩ rfl (by simp) (by simp) ⟨(by first | (rw [hq0]; try rfl; done) | (rw [← hq0]; try rfl; done) | (simp only [hq0]; try rfl; done) | (simp only [← hq0]; try rfl; done) | rfl), (by first | (rw [hq0]; try rfl; done) | (rw [← hq0]; try rfl; done) | (simp only [hq0]; try rfl; done) | (simp only [← hq0]; try rfl; done) | rfl)⟩
 ·
  have eg1 : (rpE kd (txt.take ((min ntxt 300) - 0)).length) = 0 := bne_eq_false_iff_eq.1 g1
  refine At.gn (some 113) (t := 112) rfl g1 rfl rfl ?_
  refine At.gn (some 114) (t := 112) rfl g1 rfl rfl ?_
  refine At.gy (t := 109) rfl (by first | rfl | (simp only [zE, zO]; done) | (simp only [zE, zO]; simp; done) | (simp [rpE_ok]; done) | (rcases rpE_01 kd (txt.take (min ntxt 300 - 0)).length with h | h <;> simp_all) | (simp; done)) rfl rfl ?_
  refine At.p (some 115) (P_pick_f rfl rfl g1 rfl) ?_
  refine At.p (some 116) (P_pick_f rfl rfl (by first | rfl | (simp only [zE, zO]; done) | (simp only [zE, zO]; simp; done) | (simp [rpE_ok]; done) | (rcases rpE_01 kd (txt.take (min ntxt 300 - 0)).length with h | h <;> simp_all) | (simp; done)) rfl) ?_
  refine At.p (some 117) (P_move rfl rfl) ?_
  refine At.gy (t := 117) rfl rfl rfl rfl ?_
  refine At.p (some 118) (P_move rfl rfl) ?_
  refine At.gy (t := 117) rfl rfl rfl rfl ?_
  refine At.q (some 119) (Q_strP (l := txt) (n := ((min ntxt 300) - 0)) (k := 0) (j := 0) OG rfl Tryd.underlying29 Tryd.underlying5 Tryd.underlying9 rfl (fun h => cut_zero (hAtxt (by omega))) (fun _ => ⟨rfl, rfl, (Nat.add_zero _)⟩)) ?_
  refine At.gy (t := 117) rfl rfl rfl rfl ?_
  refine At.p (some 120) (P_move rfl rfl) ?_
  refine At.gy (t := 117) rfl rfl rfl rfl ?_
  refine At.p (some 121) (P_neq_str (a := (txt.take ((min ntxt 300) - 0))) (b := (txt.take ((min ntxt 300) - 0))) rfl rfl rfl) ?_
  refine At.p (some 122) (P_pick_f rfl rfl rfl rfl) ?_
  refine At.nil ?_
  refine At.next ?_
  refine At.cond rfl (fun h122 => (by exfalso; revert h122; first | (simp only [zE, zO]; simp; done) | (simp; done))) (fun h122 => ?_)
  have e122 : (txt.take ((min ntxt 300) - 0)) = (txt.take ((min ntxt 300) - 0)) := (by first | (simp; done) | simpa using h122)
  refine At.skip ?_
  refine At.next ?_
  refine At.seq ?_
  refine At.seq ?_
  refine At.region ?_
  refine At.p (some 123) (P_move rfl rfl) ?_
  refine At.p (some 124) (P_cmp rfl rfl rfl rfl rfl rfl) ?_
  refine At.nil ?_
  refine At.next ?_
  refine At.cond rfl (fun h124 => ?_) (fun h124 => (by exfalso; rw [zE] at h124; exact absurd h124 (by decide)))
  have e124 : (rsE kd (txt.take ((min ntxt 300) - 0)).length pad) ≠ 0 := bne_iff_ne.1 h124
  refine At.seq ?_
  refine At.region ?_
  refine At.p (some 6) (P_assign rfl rfl) ?_
  refine At.nil ?_
  refine At.next ?_
  refine At.ret ?_
  refine At.thn_r ?_
  have hq0 : true = true := (by first | rfl | (simp only [zE, zO]; done) | (simp only [zE, zO]; simp; done) | (simp [rpE_ok]; done) | (rcases rpE_01 kd (txt.take (min ntxt 300 - 0)).length with h | h <;> simp_all) | (simp; done))
  refine At.give (.inl rfl) [] (rows' := []) (vs := [_]) rfl ⟨rfl, trivial⟩ rfl (by simp) (by simp) ⟨(by first | (rw [hq0]; try rfl; done) | (rw [← hq0]; try rfl; done) | (simp only [hq0]; try rfl; done) | (simp only [← hq0]; try rfl; done) | rfl), (by first | (rw [hq0]; try rfl; done) | (rw [← hq0]; try rfl; done) | (simp only [hq0]; try rfl; done) | (simp only [← hq0]; try rfl; done) | rfl)⟩

theorem l_Seals {key : List (BitVec 8)} {iv : List (BitVec 8)} {seq : BitVec 64} {kd : Int} {pad : Int} {txt : List (BitVec 8)} {Atxt : Option Addr} {ntxt ctxt btxt qtxt : Nat} {y : BitVec 64} (hkey : key.length = 32) (hiv : iv.length = 12) (hntxt : txt.length = ntxt) (hAtxt : 0 < ntxt → Atxt = some ⟨btxt, qtxt, none⟩) (hctxt : ntxt ≤ ctxt) :
    Con Tryd.prog 3 [.agg ([(key).map u8V, (iv).map u8V, [u64V seq, iV kd, iV pad]].flatten).toArray, .slice Atxt ntxt ctxt, u64V y] [pRow btxt qtxt txt] (fun v rs => v = .bool true ∧ rs = []) := by
  cases hv : rsOk kd (txt.take (min ntxt 300 - 0)).length pad
  · exact l_Seals_f hkey hiv hntxt hAtxt hctxt hv
  · exact l_Seals_t hkey hiv hntxt hAtxt hctxt hv


end Go.Proofs.YtablmdbonibjaaaDoor

