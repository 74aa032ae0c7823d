import Derived.Test.YtablmdbonibjaaaDoorRV3
namespace Go.Proofs.YtablmdbonibjaaaDoor
set_option maxRecDepth 20000
set_option linter.unusedVariables false
set_option linter.unusedSimpArgs false
open Go.SE Go.RowKit
attribute [local irreducible] macS sumS labS expS sealS openT openE openOk aTag streamS
attribute [local irreducible] dkS dvS nxS nnS nnI hdR rsT rsB rsE rpT rpE roE roK roT roX roO kdOk trN trL trK inR
set_option maxHeartbeats 2000000 in
theorem l_Pads {key : List (BitVec 8)} {iv : List (BitVec 8)} {seq : BitVec 64} {kd : Int} {pad : Int} {txt : List (BitVec 8)} {Atxt : Option Addr} {ntxt ctxt btxt qtxt : Nat} (hkey : key.length = 32) (hiv : iv.length = 12) (hntxt : txt.length = ntxt) (hAtxt : 0 < ntxt → Atxt = some ⟨btxt, qtxt, none⟩) (hctxt : ntxt ≤ ctxt) :
    Con Tryd.prog 5 [.agg ([(key).map u8V, (iv).map u8V, [u64V seq, iV kd, iV pad]].flatten).toArray, .slice Atxt ntxt ctxt] [pRow btxt qtxt txt] (fun v rs => v = .bool true ∧ rs = []) := by
  refine Con.enter Tryd.func5 Tryd.ntmps5 (Nat.le_of_ble_eq_true rfl) rfl fun w => ?_
  refine At.seq ?_
  refine At.region ?_
  refine At.s (S_box (some 2) 2 (zs := [(key).map u8V, (iv).map u8V, [u64V seq, iV kd, iV pad]].flatten) rfl rfl rfl (fun b2 => ?_))
  refine At.p (some 4) (P_assign rfl rfl) ?_
  refine At.nil ?_
  refine At.next ?_
  refine At.seq ?_
  have htl : (txt.take (min ntxt 60 - 0)).length ≤ 60 := by rw [List.length_take]; omega
  have htm : (txt.take (min ntxt 60 - 0)).length = min ntxt 60 - 0 := by rw [List.length_take]; omega
  refine At.region ?_
  refine At.p (some 11) (P_move rfl rfl) ?_
  refine At.p (some 12) (P_move rfl rfl) ?_
  refine At.p (some 13) (P_len_sl rfl rfl ⟨_, Tryd.underlying29⟩ rfl) ?_
  refine At.p (some 14) (P_min2 rfl rfl rfl rfl) ?_
  refine At.p (some 15) (P_slice_sl (l := 0) (h := (min ntxt 60)) (m := ctxt) rfl Tryd.underlying29 sz5 rfl rfl ⟨_, _, rfl, by omega⟩ rfl DO DO DO) ?_
  refine At.p (some 1) (P_assign rfl rfl) ?_
  refine At.nil ?_
  refine At.next ?_
  refine At.seq ?_
  refine At.seq ?_
  refine At.region ?_
  refine At.p (some 5) (P_assign rfl rfl) ?_
  refine At.nil ?_
  refine At.next ?_
  refine At.block ?_
  refine At.loopx (I := fun m fr H => ∃ (j : Nat), m = 2 * (4 - j) ∧ fr = frOf [(1, .slice (cut Atxt 0 ctxt 1) ((min ntxt 60) - 0) (ctxt - 0)), (2, ptr b2 0), (5, iV (13 * (j : Int)))] ∧ H = hOf [(0, pRow btxt qtxt txt), (2, ⟨true, b2, 0, 28, [(key).map u8V, (iv).map u8V, [u64V seq, iV kd, iV pad]].flatten, 0⟩)] ∧ (j ≤ 4)) ?_ ?_
  · intro Kc0 hKc0
    refine At.to [(1, _), (2, _), (5, iV (13 * ((0 : Nat) : Int)))] [(0, _), (2, _)] (AllL.cons_ (rfl) (AllL.cons_ (rfl) (AllL.cons_ ((congrArg (fun z : Int => some (iV z)) (show (0 : Int) = 13 * ((0 : Nat) : Int) by omega))) trivial))) (AllL.cons_ (rfl) (AllL.cons_ (rfl) trivial)) ?_
    exact hKc0 _ _ _ ⟨0, rfl, rfl, rfl, (by omega)⟩
  · rintro m fr H ⟨j, rfl, rfl, rfl, hj⟩ Kc0 hKc0
    refine At.seq ?_
    refine At.seq ?_
    refine At.region ?_
    refine At.p (some 16) (P_move rfl rfl) ?_
    refine At.p (some 17) (P_cmp rfl rfl rfl rfl rfl rfl) ?_
    refine At.nil ?_
    refine At.next ?_
    refine At.cond rfl (fun h17 => ?_) (fun h17 => ?_)
    · -- cond 17 t
      have e17 : (13 * (j : Int)) < 40 := of_decide_eq_true h17
      refine At.skip ?_
      refine At.next ?_
      refine At.seq ?_
      refine At.block ?_
      refine At.seq ?_
      have hv : rsOk 22 (txt.take (min ntxt 60 - 0)).length (13 * (j : Int)) = true := decide_eq_true (by omega)
      have zE := rsE_t hv
      obtain ⟨z0, z1, z2⟩ := rs_open (key := key) (iv := iv) (seq := seq) hv
      have zL := rsT_len (key := key) (iv := iv) (seq := seq) hv
      refine At.draws 12 [] [.q false [0, 1, 2, 3, 4, 5, 6], .e false 7, .q false [8, 9, 10, 11]] (by kernel_rfl) (by kernel_rfl) ?_
      refine At.wp (some 21) (P_fieldAddr0 (off := 0) rfl Tryd.underlying28 rfl sz25 rfl rfl) ?_
      refine At.wq (some 22) (Q_loadN (k := 2) (j := 0) (cs := [(key).map u8V, (iv).map u8V].flatten) rfl rfl Tryd.underlying25 rfl sz25 rfl rfl rfl (seg_ats (i := 0) (c := 2) rfl LN LN) LN) ?_
      refine At.wcV (some 23) [] (vs := [_]) rfl en10 rfl V0 (c_to (key := key) (iv := iv) LN LN) ?_
      refine At.wp (some 24) (P_fieldAddr0 (off := 44) rfl Tryd.underlying28 rfl sz26 rfl rfl) ?_
      refine At.wq (some 25) (Q_loadO (k := 2) rfl rfl Tryd.underlying26 rfl rfl (seg_get (i := 2) (p := 0) rfl LN rfl)) ?_
      refine At.wp (some 26) (P_move rfl rfl) ?_
      refine At.wp (some 27) (P_move rfl rfl) ?_
      refine At.wqn ?_
      refine At.we ?_
      refine SStep.up (S_callV (some 28) [(0, _)] [28] (vs := [_, _, _, _, _]) rfl en9 rfl (VN (by simp) rfl (View.sub (j := 0) (m := ((min ntxt 60) - 0)) RO rfl) V0) (by simp) (c_RSeal (key := key) (iv := iv) (seq := seq) (kd := 22) (txt := (txt.take ((min ntxt 60) - 0))) (ntxt := ((min ntxt 60) - 0)) (Atxt := (cut Atxt 0 ctxt 1)) (ctxt := (ctxt - 0)) (btxt := btxt) (qtxt := qtxt) (pad := (13 * (j : Int))) LN LN LN (fun h => cut_zero (hAtxt (by omega))) OG) (by rintro _ _ ⟨A28, b28, c28, g28a, g28b, rfl, rfl⟩; rfl) ?_)
      rintro _ _ ⟨A28, b28, c28, g28a, g28b, rfl, rfl⟩
      have := rsT_le key iv seq 22 (txt.take ((min ntxt 60) - 0)) (13 * (j : Int))
      refine At.wp (some 20) (P_move rfl rfl) ?_
      refine At.wp (some 29) (P_extract rfl rfl rfl) ?_
      refine At.wp (some 30) (P_extract rfl rfl rfl) ?_
      refine At.wp (some 6) (P_assign rfl rfl) ?_
      refine At.wqn ?_
      refine At.wt rfl ?_
      refine At.p (some 7) (P_assign rfl rfl) ?_
      refine At.nil ?_
      refine At.next ?_
      refine At.seq ?_
      refine At.seq ?_
      refine At.region ?_
      refine At.p (some 31) (P_move rfl rfl) ?_
      refine At.p (some 32) (P_cmp rfl rfl rfl rfl rfl rfl) ?_
      refine At.p (some 33) (P_move rfl rfl) ?_
      refine At.gy (t := 33) rfl (bne_eq_false_iff_eq.2 zE) rfl rfl ?_
      refine At.p (some 34) (P_move rfl rfl) ?_
      refine At.gy (t := 33) rfl (bne_eq_false_iff_eq.2 zE) rfl rfl ?_
      refine At.p (some 35) (P_len_sl rfl rfl ⟨_, Tryd.underlying29⟩ rfl) ?_
      refine At.gy (t := 33) rfl (bne_eq_false_iff_eq.2 zE) rfl rfl ?_
      refine At.p (some 36) (P_move rfl rfl) ?_
      refine At.gy (t := 33) rfl (bne_eq_false_iff_eq.2 zE) rfl rfl ?_
      refine At.p (some 37) (P_len_sl rfl rfl ⟨_, Tryd.underlying29⟩ rfl) ?_
      refine At.gy (t := 33) rfl (bne_eq_false_iff_eq.2 zE) rfl rfl ?_
      refine At.p (some 38) (P_add_i rfl rfl rfl (by omega)) ?_
      refine At.gy (t := 33) rfl (bne_eq_false_iff_eq.2 zE) rfl rfl ?_
      refine At.p (some 39) (P_move rfl rfl) ?_
      refine At.gy (t := 33) rfl (bne_eq_false_iff_eq.2 zE) rfl rfl ?_
      refine At.p (some 40) (P_add_i rfl rfl rfl (by omega)) ?_
      refine At.gy (t := 33) rfl (bne_eq_false_iff_eq.2 zE) rfl rfl ?_
      refine At.p (some 41) (P_cmp rfl rfl rfl rfl rfl rfl) ?_
      refine At.p (some 42) (P_pick_f rfl rfl (bne_eq_false_iff_eq.2 zE) rfl) ?_
      refine At.nil ?_
      refine At.next ?_
      refine At.cond rfl (fun h42 => (by exfalso; have h9 := bne_iff_ne.1 h42; omega)) (fun h42 => ?_)
      have e42 : ((rsT key iv seq 22 (txt.take ((min ntxt 60) - 0)) (13 * (j : Int))).length : Int) = ((22 + (((min ntxt 60) - 0) : Int)) + (13 * (j : Int))) := bne_eq_false_iff_eq.1 h42
      refine At.skip ?_
      refine At.next ?_
      refine At.seq ?_
      refine At.draws 14 [] [.q false [0, 1, 2, 3, 4, 5, 6], .e false 7, .q false [8, 9, 10, 11, 12, 13]] (by kernel_rfl) (by kernel_rfl) ?_
      refine At.wp (some 44) (P_fieldAddr0 (off := 0) rfl Tryd.underlying28 rfl sz25 rfl rfl) ?_
      refine At.wq (some 45) (Q_loadN (k := 2) (j := 0) (cs := [(key).map u8V, (iv).map u8V].flatten) rfl rfl Tryd.underlying25 rfl sz25 rfl rfl rfl (seg_ats (i := 0) (c := 2) rfl LN LN) LN) ?_
      refine At.wcV (some 46) [] (vs := [_]) rfl en10 rfl V0 (c_to (key := key) (iv := iv) LN LN) ?_
      refine At.wp (some 47) (P_fieldAddr0 (off := 44) rfl Tryd.underlying28 rfl sz26 rfl rfl) ?_
      refine At.wq (some 48) (Q_loadO (k := 2) rfl rfl Tryd.underlying26 rfl rfl (seg_get (i := 2) (p := 0) rfl LN rfl)) ?_
      refine At.wp (some 49) (P_move rfl rfl) ?_
      refine At.wp (some 50) (P_slice_sl (l := 5) (h := (rsT key iv seq 22 (txt.take ((min ntxt 60) - 0)) (13 * (j : Int))).length) (m := c28) rfl Tryd.underlying29 sz5 rfl ⟨_, _, rfl, rfl⟩ rfl rfl DO DO DO) ?_
      refine At.wqn ?_
      refine At.we ?_
      refine SStep.up (S_callV (some 51) [(28, _)] [51] (vs := [_, _, _]) rfl en15 rfl (VN (by simp) rfl (View.sub (j := 5) (m := (((rsT key iv seq 22 (txt.take ((min ntxt 60) - 0)) (13 * (j : Int))).length) - 5)) rfl rfl) V0) (by simp) (c_ROpen (key := key) (iv := iv) (seq := seq) (b := (((rsT key iv seq 22 (txt.take ((min ntxt 60) - 0)) (13 * (j : Int))).drop 5).take (((rsT key iv seq 22 (txt.take ((min ntxt 60) - 0)) (13 * (j : Int))).length) - 5))) (nb := (((rsT key iv seq 22 (txt.take ((min ntxt 60) - 0)) (13 * (j : Int))).length) - 5)) (Ab := (cut A28 5 c28 1)) (cb := (c28 - 5)) (bb := b28) (qb := (0 + 5)) LN LN LN (fun h => cut_addr1 ((fun h => g28a (by omega)) (by omega)) (by omega)) OG OG) (by rintro _ _ ⟨A51, b51, c51, r51, m51, g51a, g51b, rfl, rfl⟩; rfl) ?_)
      rintro _ _ ⟨A51, b51, c51, r51, m51, g51a, g51b, rfl, rfl⟩
      refine At.forgetM 51 rfl ?_
      refine At.wp (some 43) (P_move rfl rfl) ?_
      refine At.wp (some 52) (P_extract rfl rfl rfl) ?_
      refine At.wp (some 53) (P_extract rfl rfl rfl) ?_
      refine At.wp (some 54) (P_extract rfl rfl rfl) ?_
      refine At.wp (some 8) (P_assign rfl rfl) ?_
      refine At.wp (some 9) (P_assign rfl rfl) ?_
      refine At.wqn ?_
      refine At.wt rfl ?_
      refine At.p (some 10) (P_assign rfl rfl) ?_
      refine At.nil ?_
      refine At.next ?_
      refine At.seq ?_
      refine At.region ?_
      refine At.p (some 55) (P_move rfl rfl) ?_
      refine At.p (some 56) (P_cmp rfl rfl rfl rfl rfl rfl) ?_
      refine At.p (some 57) (P_move rfl rfl) ?_
      refine At.gy (t := 57) rfl (bne_eq_false_iff_eq.2 z1) rfl rfl ?_
      refine At.p (some 58) (P_move rfl rfl) ?_
      refine At.gy (t := 57) rfl (bne_eq_false_iff_eq.2 z1) rfl rfl ?_
      refine At.q (some 59) (Q_strA (l := (roT key iv seq (((rsT key iv seq 22 (txt.take ((min ntxt 60) - 0)) (13 * (j : Int))).drop 5).take (((rsT key iv seq 22 (txt.take ((min ntxt 60) - 0)) (13 * (j : Int))).length) - 5)))) (n := ((roT key iv seq (((rsT key iv seq 22 (txt.take ((min ntxt 60) - 0)) (13 * (j : Int))).drop 5).take (((rsT key iv seq 22 (txt.take ((min ntxt 60) - 0)) (13 * (j : Int))).length) - 5))).length)) (k := 51) LN rfl Tryd.underlying29 Tryd.underlying5 Tryd.underlying9 rfl g51a (fun _ => ⟨rfl, rfl, rfl⟩)) ?_
      refine At.gy (t := 57) rfl (bne_eq_false_iff_eq.2 z1) rfl rfl ?_
      refine At.p (some 60) (P_move rfl rfl) ?_
      refine At.gy (t := 57) rfl (bne_eq_false_iff_eq.2 z1) rfl rfl ?_
      refine At.q (some 61) (Q_strP (l := txt) (n := ((min ntxt 60) - 0)) (k := 0) (j := 0) OG rfl Tryd.underlying29 Tryd.underlying5 Tryd.underlying9 rfl (fun h => cut_zero (hAtxt (by omega))) (fun _ => ⟨rfl, rfl, (Nat.add_zero _)⟩)) ?_
      refine At.gy (t := 57) rfl (bne_eq_false_iff_eq.2 z1) rfl rfl ?_
      refine At.p (some 62) (P_neq_str (a := (roT key iv seq (((rsT key iv seq 22 (txt.take ((min ntxt 60) - 0)) (13 * (j : Int))).drop 5).take (((rsT key iv seq 22 (txt.take ((min ntxt 60) - 0)) (13 * (j : Int))).length) - 5)))) (b := (txt.take ((min ntxt 60) - 0))) rfl rfl rfl) ?_
      refine At.p (some 63) (P_pick_f rfl rfl (bne_eq_false_iff_eq.2 z1) rfl) ?_
      refine At.p (some 64) (P_move rfl rfl) ?_
      refine At.gy (t := 64) rfl (by rw [decide_eq_true z2]; rfl) rfl rfl ?_
      refine At.p (some 65) (P_move rfl rfl) ?_
      refine At.gy (t := 64) rfl (by rw [decide_eq_true z2]; rfl) rfl rfl ?_
      refine At.p (some 66) (P_cmp rfl rfl rfl rfl rfl rfl) ?_
      refine At.p (some 67) (P_pick_f rfl rfl (by rw [decide_eq_true z2]; rfl) rfl) ?_
      refine At.nil ?_
      refine At.next ?_
      refine At.cond rfl (fun h67 => (by exfalso; rw [z0] at h67; exact absurd h67 (by decide))) (fun h67 => ?_)
      have e67 : (roE key iv seq (((rsT key iv seq 22 (txt.take ((min ntxt 60) - 0)) (13 * (j : Int))).drop 5).take (((rsT key iv seq 22 (txt.take ((min ntxt 60) - 0)) (13 * (j : Int))).length) - 5))) = 0 := bne_eq_false_iff_eq.1 h67
      refine At.skip ?_
      refine At.inb_n ?_
      refine At.next ?_
      refine At.region ?_
      refine At.p (some 18) (P_move rfl rfl) ?_
      refine At.p (some 19) (P_add_i rfl rfl rfl (by omega)) ?_
      refine At.p (some 5) (P_assign rfl rfl) ?_
      refine At.nil ?_
      refine At.next ?_
      refine At.to [(1, _), (2, _), (5, iV (13 * ((j + 1 : Nat) : Int)))] [(0, _), (2, _)] (AllL.cons_ (rfl) (AllL.cons_ (rfl) (AllL.cons_ ((congrArg (fun z : Int => some (iV z)) (show 13 * (j : Int) + 13 = 13 * ((j + 1 : Nat) : Int) by omega))) trivial))) (AllL.cons_ (rfl) (AllL.cons_ (rfl) trivial)) ?_
      exact hKc0 _ _ _ (by omega) ⟨j + 1, rfl, rfl, rfl, (by omega)⟩
    · -- cond 17 f
      have e17 : ¬ (13 * (j : Int)) < 40 := of_decide_eq_false h17
      refine At.exit ?_
      refine At.thn_e ?_
      refine At.thn_e ?_
      refine At.inb_hit ?_
      refine At.next ?_
      refine At.seq ?_
      refine At.region ?_
      refine At.s (S_callV (some 68) [] [] (vs := []) rfl en14 rfl V0 (by simp) (c_seals  ) (by rintro _ _ ⟨rfl, rfl⟩; rfl) ?_)
      rintro _ _ ⟨rfl, rfl⟩
      refine At.p (some 4) (P_assign rfl rfl) ?_
      refine At.nil ?_
      refine At.next ?_
      refine At.ret ?_
      have hq0 : true = true := rfl
      refine At.give (.inl rfl) [] (rows' := []) (vs := [_]) rfl ⟨rfl, trivial⟩ rfl (by simp) (by simp) ⟨(by first | (rw [hq0]; try rfl; done) | (rw [← hq0]; try rfl; done) | (simp only [hq0]; try rfl; done) | (simp only [← hq0]; try rfl; done) | rfl), (by first | (rw [hq0]; try rfl; done) | (rw [← hq0]; try rfl; done) | (simp only [hq0]; try rfl; done) | (simp only [← hq0]; try rfl; done) | rfl)⟩


end Go.Proofs.YtablmdbonibjaaaDoor

