import Derived.Test.YtdingfinclcbgaaJN6
namespace Go.Proofs.Ytdingfinclcbgaa
set_option maxRecDepth 20000
set_option linter.unusedVariables false
set_option linter.unusedSimpArgs false
open Go.SE Go.RowKit
theorem c_ReadX {n c b bs rest k : Nat} {S X : List (BitVec 8)} {wr : Int} (hS : S.length = n * 64) (h3 : n ≤ 512) (h4 : 0 ≤ wr) (h5 : wr ≤ 4611686018427387904) (hc : n ≤ c) (hk : k < n) (hx : secs S k = X) :
  Con Try.prog 13 [ptr b 0, iV (k : Int)] [dH false b bs c n wr, rowS false bs S rest] (fun v rs => ∃ A' b' c', (0 < c' → A' = some ⟨b', 0, none⟩) ∧ X.length ≤ c' ∧ v = .tuple #[.slice A' X.length c', iV 0] ∧ rs = [⟨true, b', 0, 5, X.map u8V, c' - X.length⟩]) := by
 subst hx
 exact c_ReadH hS h3 h4 h5 hc hk
theorem sec_split {gen : BitVec 64} {k : Nat} {e : List (BitVec 8)} : secB gen k e = (mkB gen k e ++ beW 2 (BitVec.ofInt 64 (e.length : Int))) ++ (e ++ List.replicate (64 - (18 + e.length)) 0#8) := by
 simp only [secB, List.append_assoc]
theorem sec_num {gen : BitVec 64} {k : Nat} {e : List (BitVec 8)} (h : e.length ≤ 14) : (nuW (((secB gen k e).drop 16).take (18 - 16)) 0#64).toInt = (e.length : Int) := by
 have h2 := beW_len 2 (BitVec.ofInt 64 (e.length : Int))
 rw [secB, List.append_assoc, List.append_assoc, show 16 = (mkB gen k e).length from (mkB_len gen k e).symm, List.drop_left, mkB_len, show 18 - 16 = (beW 2 (BitVec.ofInt 64 (e.length : Int))).length by rw [h2], List.take_left, nuW_be2 _ (by omega), BitVec.toInt_eq_toNat_cond, BitVec.toNat_ofNat]
 rw [Nat.mod_eq_of_lt (by omega), if_pos (by omega)]
theorem sec_txt {gen : BitVec 64} {k : Nat} {e : List (BitVec 8)} : ((secB gen k e).drop 18).take e.length = e := by
 have h2 := beW_len 2 (BitVec.ofInt 64 (e.length : Int))
 rw [sec_split, show 18 = (mkB gen k e ++ beW 2 (BitVec.ofInt 64 (e.length : Int))).length by rw [List.length_append, mkB_len, h2], List.drop_left, List.take_left]
theorem sec_mark {gen : BitVec 64} {k : Nat} {e : List (BitVec 8)} (h : e.length ≤ 14) : (secB gen k e).take 16 = (sumS (mkP gen k (((secB gen k e).drop 18).take (18 + e.length - 18)))).take 16 := by
 rw [Nat.add_sub_cancel_left, sec_txt, secB, List.append_assoc, List.append_assoc, show 16 = (mkB gen k e).length from (mkB_len gen k e).symm, List.take_left, mkB_len]
 rfl

attribute [local irreducible] sumS
set_option maxHeartbeats 2000000 in
theorem c_readE {bD bS cD nD rD : Nat} {S : List (BitVec 8)} {wr : Int} {bJ ar : Nat} {gen : BitVec 64} {Aj : Option Addr} {nj cj u : Nat} {e : List (BitVec 8)} (hSl : S.length = nD * 64) (hn : nD ≤ 512) (hc : nD ≤ cD) (hw : 0 ≤ wr) (hw2 : wr ≤ 4611686018427380000) (h4 : 4 ≤ nD) (har : ar ≤ 1) (hu : u < (nD - 2) / 2) (hx : secs S (fstS nD ar + u) = secB gen nj e) (he1 : 1 ≤ e.length) (he2 : e.length ≤ 14) :
  Con Try.prog 50 [ptr bJ 0] [dH false bD bS cD nD wr, rowS false bS S rD, ⟨false, bJ, 0, 82, [ptr bD 0, u64V gen, iV (ar : Int), .slice Aj nj cj, iV (u : Int), .bool false], 0⟩] (fun v rs => ∃ b' c', 64 ≤ c' ∧ v = .tuple #[.slice (some ⟨b', 18, none⟩) e.length (c' - 18), iV 0] ∧ rs = [⟨true, b', 0, 5, (secB gen nj e).map u8V, c' - (secB gen nj e).length⟩]) := by
 refine Con.enter Try.func50 Try.ntmps50 (Nat.le_of_ble_eq_true rfl) rfl fun w => ?_
 refine At.seq ?_
 refine At.region ?_
 refine At.p (some 2) (P_assign rfl rfl) ?_
 refine At.p (some 3) (P_assign rfl rfl) ?_
 refine At.nil ?_
 refine At.next ?_
 refine At.seq ?_
 refine At.draws 9 [] [.q false [0, 1, 2, 3, 4, 5, 6, 7, 8]] (by kernel_rfl) (by kernel_rfl) ?_
 refine At.wp (some 13) (P_move rfl rfl) ?_
 refine At.wp (some 14) (P_nilCheck rfl rfl) ?_
 refine At.wp (some 15) (P_fieldAddr0 (off := 0) rfl Try.underlying82 rfl sz23 rfl rfl) ?_
 refine At.wq (some 16) (Q_loadO (k := 2) rfl rfl Try.underlying23 rfl rfl rfl) ?_
 refine At.wcV (some 17) [(0, _), (1, _)] (vs := [_]) rfl en48 rfl (VN (by simp) rfl View.all (VN (by simp) rfl View.all V0)) (c_jsize (bD := bD) (bS := bS) (cD := cD) (nD := nD) (rD := rD) (S := S) (wr := wr) (by omega) (by omega) (by omega) (by omega) (by omega) (by omega)) ?_
 refine At.wp (some 18) (P_move rfl rfl) ?_
 refine At.wp (some 19) (P_nilCheck rfl rfl) ?_
 refine At.wp (some 20) (P_fieldAddr0 (off := 4) rfl Try.underlying82 rfl sz3 rfl rfl) ?_
 refine At.wq (some 21) (Q_loadO (k := 2) rfl rfl Try.underlying3 rfl rfl rfl) ?_
 refine At.wqn ?_
 refine At.wt rfl ?_
 refine At.p (some 22) (P_sub_i rfl rfl rfl (by omega)) ?_
 refine At.p (some 4) (P_assign rfl rfl) ?_
 refine At.nil ?_
 refine At.next ?_
 refine At.seq ?_
 refine At.seq ?_
 refine At.region ?_
 refine At.p (some 23) (P_move rfl rfl) ?_
 refine At.p (some 24) (P_cmp rfl rfl rfl rfl rfl rfl) ?_
 refine At.nil ?_
 refine At.next ?_
 refine At.cond rfl (fun h24 => by have := of_decide_eq_true h24; omega) (fun h24 => ?_)
 have e24 : ((((nD - 2) / 2 : Nat) : Int) - (u : Int)) ≠ 0 := beq_eq_false_iff_ne.1 h24
 refine At.skip ?_
 refine At.next ?_
 refine At.seq ?_
 refine At.draws 13 [] [.q false [0, 1, 2, 3, 4, 5, 6, 7, 8, 9, 10, 11, 12]] (by kernel_rfl) (by kernel_rfl) ?_
 refine At.wp (some 25) (P_move rfl rfl) ?_
 refine At.wp (some 26) (P_nilCheck rfl rfl) ?_
 refine At.wp (some 27) (P_fieldAddr0 (off := 0) rfl Try.underlying82 rfl sz23 rfl rfl) ?_
 refine At.wq (some 28) (Q_loadO (k := 2) rfl rfl Try.underlying23 rfl rfl rfl) ?_
 refine At.wp (some 29) (P_move rfl rfl) ?_
 refine At.wp (some 30) (P_nilCheck rfl rfl) ?_
 refine At.wp (some 31) (P_fieldAddr0 (off := 2) rfl Try.underlying82 rfl sz3 rfl rfl) ?_
 refine At.wq (some 32) (Q_loadO (k := 2) rfl rfl Try.underlying3 rfl rfl rfl) ?_
 refine At.wcV (some 33) [(0, _), (1, _)] (vs := [_, _]) rfl en49 rfl (VN (by simp) rfl View.all (VN (by simp) rfl View.all V0)) (c_jfirst (bD := bD) (bS := bS) (cD := cD) (nD := nD) (rD := rD) (S := S) (wr := wr) (a := ar) (by omega) (by omega) (by omega) (by omega) (by omega) (by omega) (by omega)) ?_
 have := fst_le nD ar (by omega)
 refine At.wp (some 34) (P_move rfl rfl) ?_
 refine At.wp (some 35) (P_nilCheck rfl rfl) ?_
 refine At.wp (some 36) (P_fieldAddr0 (off := 4) rfl Try.underlying82 rfl sz3 rfl rfl) ?_
 refine At.wq (some 37) (Q_loadO (k := 2) rfl rfl Try.underlying3 rfl rfl rfl) ?_
 refine At.wqn ?_
 refine At.wt rfl ?_
 refine At.p (some 38) (P_add_i rfl rfl rfl (by omega)) ?_
 refine At.p (some 5) (P_assign rfl rfl) ?_
 refine At.nil ?_
 refine At.next ?_
 refine At.seq ?_
 refine At.region ?_
 refine At.p (some 40) (P_move rfl rfl) ?_
 refine At.p (some 41) (P_nilCheck rfl rfl) ?_
 refine At.p (some 42) (P_fieldAddr0 (off := 0) rfl Try.underlying82 rfl sz23 rfl rfl) ?_
 refine At.q (some 43) (Q_loadO (k := 2) rfl rfl Try.underlying23 rfl rfl rfl) ?_
 refine At.p (some 44) (P_move rfl rfl) ?_
 refine At.s (S_callV (some 45) [(0, _), (1, _)] [45] (vs := [_, _]) rfl en13 rfl (VN (by simp) rfl View.all (VN (by simp) rfl View.all V0)) (by simp) (c_ReadX (n := nD) (c := cD) (b := bD) (bs := bS) (wr := wr) (rest := rD) (k := ((fstS nD ar) + u)) (S := S) (X := (secB gen nj e)) (by omega) (by omega) (by omega) (by omega) (by omega) (by omega) hx) (by rintro _ _ ⟨A45, b45, c45, g45a, g45b, rfl, rfl⟩; rfl) ?_)
 rintro _ _ ⟨A45, b45, c45, g45a, g45b, rfl, rfl⟩
 have hXl : (secB gen nj e).length = 64 := secB_len (by omega)
 refine At.p (some 39) (P_move rfl rfl) ?_
 refine At.p (some 46) (P_extract rfl rfl rfl) ?_
 refine At.p (some 47) (P_extract rfl rfl rfl) ?_
 refine At.p (some 6) (P_assign rfl rfl) ?_
 refine At.p (some 7) (P_assign rfl rfl) ?_
 refine At.nil ?_
 refine At.next ?_
 refine At.seq ?_
 refine At.seq ?_
 refine At.region ?_
 refine At.p (some 48) (P_move rfl rfl) ?_
 refine At.p (some 49) (P_cmp rfl rfl rfl rfl rfl rfl) ?_
 refine At.nil ?_
 refine At.next ?_
 refine At.cond rfl (fun h49 => by exact absurd h49 (by decide)) (fun h49 => ?_)
 have e49 : 0 = 0 := bne_eq_false_iff_eq.1 h49
 refine At.skip ?_
 refine At.next ?_
 refine At.seq ?_
 refine At.region ?_
 refine At.p (some 51) (P_move rfl rfl) ?_
 refine At.p (some 52) (P_slice_sl (l := 16) (h := 18) (m := c45) rfl Try.underlying27 sz5 rfl ⟨_, _, rfl, rfl⟩ ⟨_, _, rfl, rfl⟩ rfl DO DO DO) ?_
 refine At.s (S_callV (some 53) [(45, _)] [] (vs := [_]) rfl en57 rfl (VN (by simp) rfl (View.sub (j := 16) (m := (18 - 16)) rfl rfl) V0) (by simp) (c_num (b := (((secB gen nj e).drop 16).take (18 - 16))) (nb := (18 - 16)) (Ab := (cut A45 16 c45 1)) (cb := (c45 - 16)) (bb := b45) (qb := (0 + 16)) LN (fun h => cut_addr1 ((fun h => g45a (by omega)) (by omega)) (by omega)) OG) (by rintro _ _ ⟨rfl, rfl⟩; rfl) ?_)
 rintro _ _ ⟨rfl, rfl⟩
 refine At.p (some 54) (P_conv_WiE (z := (e.length : Int)) (sec_num he2) rfl Try.underlying22 Try.underlying3 rfl) ?_
 refine At.p (some 8) (P_assign rfl rfl) ?_
 refine At.nil ?_
 refine At.next ?_
 refine At.seq ?_
 refine At.seq ?_
 refine At.region ?_
 refine At.p (some 55) (P_move rfl rfl) ?_
 refine At.p (some 56) (P_cmp rfl rfl rfl rfl rfl rfl) ?_
 refine At.p (some 57) (P_move rfl rfl) ?_
 refine At.gy (t := 57) rfl (decide_eq_false (by omega)) rfl rfl ?_
 refine At.p (some 58) (P_move rfl rfl) ?_
 refine At.gy (t := 57) rfl (decide_eq_false (by omega)) rfl rfl ?_
 refine At.p (some 59) (P_cmp rfl rfl rfl rfl rfl rfl) ?_
 refine At.p (some 60) (P_pick_f rfl rfl (decide_eq_false (by omega)) rfl) ?_
 refine At.p (some 61) (P_move rfl rfl) ?_
 refine At.gy (t := 61) rfl (decide_eq_false (by omega)) rfl rfl ?_
 refine At.p (some 62) (P_move rfl rfl) ?_
 refine At.gy (t := 61) rfl (decide_eq_false (by omega)) rfl rfl ?_
 refine At.s (S_callV (some 63) [] [] (vs := [_]) rfl en26 rfl V0 (by simp) (c_Need (n := e.length) OG) (by rintro _ _ ⟨rfl, rfl⟩; rfl) ?_)
 rintro _ _ ⟨rfl, rfl⟩
 refine At.gy (t := 61) rfl (decide_eq_false (by omega)) rfl rfl ?_
 refine At.p (some 64) (P_move rfl rfl) ?_
 refine At.gy (t := 61) rfl (decide_eq_false (by omega)) rfl rfl ?_
 refine At.p (some 65) (P_cmp rfl rfl rfl rfl rfl rfl) ?_
 refine At.p (some 66) (P_pick_f rfl rfl (decide_eq_false (by omega)) rfl) ?_
 refine At.nil ?_
 refine At.next ?_
 refine At.cond rfl (fun h66 => by have := of_decide_eq_true h66; omega) (fun h66 => ?_)
 have e66 : ¬ ((e.length + 81) / 64 : Nat) > ((((nD - 2) / 2 : Nat) : Int) - (u : Int)) := of_decide_eq_false h66
 refine At.skip ?_
 refine At.next ?_
 refine At.seq ?_
 refine At.seq ?_
 refine At.region ?_
 refine At.p (some 9) (P_assign rfl rfl) ?_
 refine At.nil ?_
 refine At.next ?_
 refine At.block ?_
 refine At.loopx (I := fun m fr H => ∃ (k : Nat), m = 0 ∧ fr = frOf [(0, ptr bJ 0), (4, iV ((((nD - 2) / 2 : Nat) : Int) - (u : Int))), (5, iV ((fstS nD ar : Int) + (u : Int))), (6, .slice A45 ((secB gen nj e).length) c45), (7, iV 0), (8, iV (e.length : Int)), (9, iV (1 : Int)), (13, ptr bJ 0), (14, ptr bJ 0), (15, ptr bJ 0), (16, ptr bD 0), (17, iV (((nD - 2) / 2 : Nat) : Int)), (18, ptr bJ 0), (19, ptr bJ 0), (20, ptr bJ 4), (21, iV (u : Int)), (22, iV ((((nD - 2) / 2 : Nat) : Int) - (u : Int))), (23, iV ((((nD - 2) / 2 : Nat) : Int) - (u : Int))), (24, .bool (((((nD - 2) / 2 : Nat) : Int) - (u : Int)) == 0)), (25, ptr bJ 0), (26, ptr bJ 0), (27, ptr bJ 0), (28, ptr bD 0), (29, ptr bJ 0), (30, ptr bJ 0), (31, ptr bJ 2), (32, iV (ar : Int)), (33, iV (fstS nD ar : Int)), (34, ptr bJ 0), (35, ptr bJ 0), (36, ptr bJ 4), (37, iV (u : Int)), (38, iV ((fstS nD ar : Int) + (u : Int))), (39, .tuple #[.slice A45 ((secB gen nj e).length) c45, iV 0]), (40, ptr bJ 0), (41, ptr bJ 0), (42, ptr bJ 0), (43, ptr bD 0), (44, iV ((fstS nD ar : Int) + (u : Int))), (45, .tuple #[.slice A45 ((secB gen nj e).length) c45, iV 0]), (46, .slice A45 ((secB gen nj e).length) c45), (47, iV 0), (48, iV 0), (49, .bool (0 != 0)), (51, .slice A45 ((secB gen nj e).length) c45), (52, .slice (cut A45 16 c45 1) (18 - 16) (c45 - 16)), (53, u64V (nuW (((secB gen nj e).drop 16).take (18 - 16)) 0#64)), (54, iV (e.length : Int)), (55, iV (e.length : Int)), (56, .bool ((e.length : Int) == 0)), (57, .bool ((e.length : Int) == 0)), (58, iV (e.length : Int)), (59, .bool (decide ((e.length : Int) > 4096))), (60, .bool (decide ((e.length : Int) > 4096))), (61, .bool (decide ((e.length : Int) > 4096))), (62, iV (e.length : Int)), (63, iV ((e.length + 81) / 64 : Nat)), (64, iV ((((nD - 2) / 2 : Nat) : Int) - (u : Int))), (65, .bool (decide (((e.length + 81) / 64 : Nat) > ((((nD - 2) / 2 : Nat) : Int) - (u : Int))))), (66, .bool (decide (((e.length + 81) / 64 : Nat) > ((((nD - 2) / 2 : Nat) : Int) - (u : Int)))))] ∧ H = hOf [(0, dH false bD bS cD nD wr), (1, rowS false bS S rD), (2, ⟨false, bJ, 0, 82, [ptr bD 0, u64V gen, iV (ar : Int), .slice Aj nj cj, iV (u : Int), .bool false], 0⟩), (45, ⟨true, b45, 0, 5, ((secB gen nj e)).map u8V, c45 - ((secB gen nj e)).length⟩)] ∧ True) ?_ ?_
 ·
  intro Kc0 hKc0
  refine At.to [(0, _), (4, _), (5, _), (6, _), (7, _), (8, _), (9, _), (13, _), (14, _), (15, _), (16, _), (17, _), (18, _), (19, _), (20, _), (21, _), (22, _), (23, _), (24, _), (25, _), (26, _), (27, _), (28, _), (29, _), (30, _), (31, _), (32, _), (33, _), (34, _), (35, _), (36, _), (37, _), (38, _), (39, _), (40, _), (41, _), (42, _), (43, _), (44, _), (45, _), (46, _), (47, _), (48, _), (49, _), (51, _), (52, _), (53, _), (54, _), (55, _), (56, _), (57, _), (58, _), (59, _), (60, _), (61, _), (62, _), (63, _), (64, _), (65, _), (66, _)] [(0, _), (1, _), (2, _), (45, _)] (AllL.cons_ (rfl) (AllL.cons_ (rfl) (AllL.cons_ (rfl) (AllL.cons_ (rfl) (AllL.cons_ (rfl) (AllL.cons_ (rfl) (AllL.cons_ (rfl) (AllL.cons_ (rfl) (AllL.cons_ (rfl) (AllL.cons_ (rfl) (AllL.cons_ (rfl) (AllL.cons_ (rfl) (AllL.cons_ (rfl) (AllL.cons_ (rfl) (AllL.cons_ (rfl) (AllL.cons_ (rfl) (AllL.cons_ (rfl) (AllL.cons_ (rfl) (AllL.cons_ (rfl) (AllL.cons_ (rfl) (AllL.cons_ (rfl) (AllL.cons_ (rfl) (AllL.cons_ (rfl) (AllL.cons_ (rfl) (AllL.cons_ (rfl) (AllL.cons_ (rfl) (AllL.cons_ (rfl) (AllL.cons_ (rfl) (AllL.cons_ (rfl) (AllL.cons_ (rfl) (AllL.cons_ (rfl) (AllL.cons_ (rfl) (AllL.cons_ (rfl) (AllL.cons_ (rfl) (AllL.cons_ (rfl) (AllL.cons_ (rfl) (AllL.cons_ (rfl) (AllL.cons_ (rfl) (AllL.cons_ (rfl) (AllL.cons_ (rfl) (AllL.cons_ (rfl) (AllL.cons_ (rfl) (AllL.cons_ (rfl) (AllL.cons_ (rfl) (AllL.cons_ (rfl) (AllL.cons_ (rfl) (AllL.cons_ (rfl) (AllL.cons_ (rfl) (AllL.cons_ (rfl) (AllL.cons_ (rfl) (AllL.cons_ (rfl) (AllL.cons_ (rfl) (AllL.cons_ (rfl) (AllL.cons_ (rfl) (AllL.cons_ (rfl) (AllL.cons_ (rfl) (AllL.cons_ (rfl) (AllL.cons_ (rfl) (AllL.cons_ (rfl) (AllL.cons_ (rfl) trivial)))))))))))))))))))))))))))))))))))))))))))))))))))))))))))) (AllL.cons_ (rfl) (AllL.cons_ (rfl) (AllL.cons_ (rfl) (AllL.cons_ (rfl) trivial)))) ?_
  exact hKc0 _ _ _ ⟨0, rfl, rfl, rfl, trivial⟩
 ·
  rintro m fr H ⟨k, rfl, rfl, rfl, -⟩ Kc0 hKc0
  refine At.seq ?_
  refine At.seq ?_
  refine At.region ?_
  refine At.p (some 67) (P_move rfl rfl) ?_
  refine At.p (some 68) (P_move rfl rfl) ?_
  refine At.s (S_callV (some 69) [] [] (vs := [_]) rfl en26 rfl V0 (by simp) (c_Need (n := e.length) OG) (by rintro _ _ ⟨rfl, rfl⟩; rfl) ?_)
  rintro _ _ ⟨rfl, rfl⟩
  refine At.p (some 70) (P_cmp rfl rfl rfl rfl rfl rfl) ?_
  refine At.nil ?_
  refine At.next ?_
  refine At.cond rfl (fun h70 => by have := of_decide_eq_true h70; omega) (fun h70 => ?_)
  have e70 : ¬ (1 : Int) < ((e.length + 81) / 64 : Nat) := of_decide_eq_false h70
  refine At.exit ?_
  refine At.thn_e ?_
  refine At.thn_e ?_
  refine At.inb_hit ?_
  refine At.next ?_
  refine At.seq ?_
  refine At.region ?_
  refine At.p (some 90) (P_move rfl rfl) ?_
  refine At.p (some 91) (P_move rfl rfl) ?_
  refine At.p (some 92) (P_add_i rfl rfl rfl (by omega)) ?_
  refine At.p (some 93) (P_slice_sl (l := 18) (h := (18 + e.length)) (m := c45) rfl Try.underlying27 sz5 rfl ⟨_, _, rfl, rfl⟩ ⟨_, _, rfl, by omega⟩ rfl DO DO DO) ?_
  refine At.p (some 12) (P_assign rfl rfl) ?_
  refine At.nil ?_
  refine At.next ?_
  refine At.seq ?_
  refine At.seq ?_
  refine At.draws 13 [] [.q false [0, 1, 2, 3, 4, 5, 6, 7, 8, 9, 10, 11], .e false 12] (by kernel_rfl) (by kernel_rfl) ?_
  refine At.wp (some 94) (P_move rfl rfl) ?_
  refine At.wp (some 95) (P_slice_sl (l := 0) (h := 16) (m := c45) rfl Try.underlying27 sz5 rfl rfl ⟨_, _, rfl, rfl⟩ rfl DO DO DO) ?_
  refine At.wp (some 96) (P_move rfl rfl) ?_
  refine At.wp (some 97) (P_nilCheck rfl rfl) ?_
  refine At.wp (some 98) (P_fieldAddr0 (off := 1) rfl Try.underlying82 rfl sz22 rfl rfl) ?_
  refine At.wq (some 99) (Q_loadO (k := 2) rfl rfl Try.underlying22 rfl rfl rfl) ?_
  refine At.wp (some 100) (P_move rfl rfl) ?_
  refine At.wp (some 101) (P_nilCheck rfl rfl) ?_
  refine At.wp (some 102) (P_fieldAddr0 (off := 3) rfl Try.underlying82 rfl sz44 rfl rfl) ?_
  refine At.wq (some 103) (Q_loadO (k := 2) rfl rfl Try.underlying44 rfl rfl rfl) ?_
  refine At.wp (some 104) (P_len_sl rfl rfl ⟨_, Try.underlying44⟩ rfl) ?_
  refine At.wp (some 105) (P_move rfl rfl) ?_
  refine At.wqn ?_
  have hml : (sumS (mkP gen nj (((secB gen nj e).drop 18).take ((18 + e.length) - 18)))).length = 32 := sumS_len _
  refine At.we ?_
  refine SStep.up (S_callV (some 106) [(45, _)] [106] (vs := [_, _, _]) rfl en59 rfl (VN (by simp) rfl (View.sub (j := 18) (m := ((18 + e.length) - 18)) rfl rfl) V0) (by simp) (c_mark (gen := gen) (k := nj) (e := (((secB gen nj e).drop 18).take ((18 + e.length) - 18))) (ne := ((18 + e.length) - 18)) (Ae := (cut A45 18 c45 1)) (ce := (c45 - 18)) (be := b45) (qe := (0 + 18)) LN (fun h => cut_addr1 ((fun h => g45a (by omega)) (by omega)) (by omega)) (by omega)) (by rintro _ _ ⟨b106, rfl, rfl⟩; rfl) ?_)
  rintro _ _ ⟨b106, rfl, rfl⟩
  refine At.wt rfl ?_
  refine At.s (S_callV (some 107) [(45, _), (106, _)] [] (vs := [_, _]) rfl en58 rfl (VN (by simp) rfl (View.sub (j := 0) (m := (16 - 0)) RO rfl) (VN (by simp) rfl (View.sub (j := 0) (m := 16) RO rfl) V0)) (by simp) (c_BEq (a := ((secB gen nj e).take (16 - 0))) (na := (16 - 0)) (Aa := (cut A45 0 c45 1)) (ca := (c45 - 0)) (ba := b45) (qa := 0) (b := ((sumS (mkP gen nj (((secB gen nj e).drop 18).take ((18 + e.length) - 18)))).take 16)) (nb := 16) (Ab := (some ⟨b106, 0, none⟩)) (cb := 32) (bb := b106) (qb := 0) LN (fun h => cut_zero ((fun h => g45a (by omega)) (by omega))) LN (fun _ => rfl) OG) (by rintro _ _ ⟨rfl, rfl⟩; rfl) ?_)
  rintro _ _ ⟨rfl, rfl⟩
  refine At.p (some 108) (P_not rfl rfl) ?_
  refine At.nil ?_
  refine At.next ?_
  refine At.cond rfl (fun h108 => by rw [decide_eq_true (sec_mark he2)] at h108; cases h108) (fun h108 => ?_)
  have e108 : ((secB gen nj e).take (16 - 0)) = ((sumS (mkP gen nj (((secB gen nj e).drop 18).take ((18 + e.length) - 18)))).take 16) := of_decide_eq_true (by first | (simp; done) | simpa using h108)
  refine At.skip ?_
  refine At.next ?_
  refine At.seq ?_
  refine At.region ?_
  refine At.p (some 109) (P_move rfl rfl) ?_
  refine At.p (some 2) (P_assign rfl rfl) ?_
  refine At.p (some 3) (P_assign rfl rfl) ?_
  refine At.nil ?_
  refine At.next ?_
  refine At.ret ?_
  -- END sl{'A': '(cut A45 18 c45 1)', 'n': '((18 + e.length) - 18)', 'c': '(c45 - 18)', 'lab': 45, 'b': 'b45', 'q': '(0 + 18)', 'j': '18', 'pf': '(fun h => cut_addr1 ((fun h => g45a (by omega)) (by omega)) (by omega))', 'full': False, 'own': True}
  refine At.give (.inl rfl) [45] (rows' := [_]) (vs := [_, _]) rfl ⟨rfl, rfl, trivial⟩ rfl (by simp) (by simp) ?_
  exact ⟨b45, c45, by omega, by rw [cut_addr1 (g45a (by omega)) (by omega), Nat.add_sub_cancel_left]; rfl, rfl⟩

set_option maxHeartbeats 2000000 in
theorem c_readN {bD bS cD nD rD : Nat} {S : List (BitVec 8)} {wr : Int} {bJ ar : Nat} {gen : BitVec 64} {Aj : Option Addr} {nj cj u : Nat} (hSl : S.length = nD * 64) (hn : nD ≤ 512) (hc : nD ≤ cD) (hw : 0 ≤ wr) (hw2 : wr ≤ 4611686018427380000) (h4 : 4 ≤ nD) (har : ar ≤ 1) (hu : u < (nD - 2) / 2) (hx : secs S (fstS nD ar + u) = List.replicate 64 0#8) :
  Con Try.prog 50 [ptr bJ 0] [dH false bD bS cD nD wr, rowS false bS S rD, ⟨false, bJ, 0, 82, [ptr bD 0, u64V gen, iV (ar : Int), .slice Aj nj cj, iV (u : Int), .bool false], 0⟩] (fun v rs => v = .tuple #[.slice none 0 0, iV 0] ∧ rs = []) := by
 refine Con.enter Try.func50 Try.ntmps50 (Nat.le_of_ble_eq_true rfl) rfl fun w => ?_
 refine At.seq ?_
 refine At.region ?_
 refine At.p (some 2) (P_assign rfl rfl) ?_
 refine At.p (some 3) (P_assign rfl rfl) ?_
 refine At.nil ?_
 refine At.next ?_
 refine At.seq ?_
 refine At.draws 9 [] [.q false [0, 1, 2, 3, 4, 5, 6, 7, 8]] (by kernel_rfl) (by kernel_rfl) ?_
 refine At.wp (some 13) (P_move rfl rfl) ?_
 refine At.wp (some 14) (P_nilCheck rfl rfl) ?_
 refine At.wp (some 15) (P_fieldAddr0 (off := 0) rfl Try.underlying82 rfl sz23 rfl rfl) ?_
 refine At.wq (some 16) (Q_loadO (k := 2) rfl rfl Try.underlying23 rfl rfl rfl) ?_
 refine At.wcV (some 17) [(0, _), (1, _)] (vs := [_]) rfl en48 rfl (VN (by simp) rfl View.all (VN (by simp) rfl View.all V0)) (c_jsize (bD := bD) (bS := bS) (cD := cD) (nD := nD) (rD := rD) (S := S) (wr := wr) (by omega) (by omega) (by omega) (by omega) (by omega) (by omega)) ?_
 refine At.wp (some 18) (P_move rfl rfl) ?_
 refine At.wp (some 19) (P_nilCheck rfl rfl) ?_
 refine At.wp (some 20) (P_fieldAddr0 (off := 4) rfl Try.underlying82 rfl sz3 rfl rfl) ?_
 refine At.wq (some 21) (Q_loadO (k := 2) rfl rfl Try.underlying3 rfl rfl rfl) ?_
 refine At.wqn ?_
 refine At.wt rfl ?_
 refine At.p (some 22) (P_sub_i rfl rfl rfl (by omega)) ?_
 refine At.p (some 4) (P_assign rfl rfl) ?_
 refine At.nil ?_
 refine At.next ?_
 refine At.seq ?_
 refine At.seq ?_
 refine At.region ?_
 refine At.p (some 23) (P_move rfl rfl) ?_
 refine At.p (some 24) (P_cmp rfl rfl rfl rfl rfl rfl) ?_
 refine At.nil ?_
 refine At.next ?_
 refine At.cond rfl (fun h24 => by have := of_decide_eq_true h24; omega) (fun h24 => ?_)
 have e24 : ((((nD - 2) / 2 : Nat) : Int) - (u : Int)) ≠ 0 := beq_eq_false_iff_ne.1 h24
 refine At.skip ?_
 refine At.next ?_
 refine At.seq ?_
 refine At.draws 13 [] [.q false [0, 1, 2, 3, 4, 5, 6, 7, 8, 9, 10, 11, 12]] (by kernel_rfl) (by kernel_rfl) ?_
 refine At.wp (some 25) (P_move rfl rfl) ?_
 refine At.wp (some 26) (P_nilCheck rfl rfl) ?_
 refine At.wp (some 27) (P_fieldAddr0 (off := 0) rfl Try.underlying82 rfl sz23 rfl rfl) ?_
 refine At.wq (some 28) (Q_loadO (k := 2) rfl rfl Try.underlying23 rfl rfl rfl) ?_
 refine At.wp (some 29) (P_move rfl rfl) ?_
 refine At.wp (some 30) (P_nilCheck rfl rfl) ?_
 refine At.wp (some 31) (P_fieldAddr0 (off := 2) rfl Try.underlying82 rfl sz3 rfl rfl) ?_
 refine At.wq (some 32) (Q_loadO (k := 2) rfl rfl Try.underlying3 rfl rfl rfl) ?_
 refine At.wcV (some 33) [(0, _), (1, _)] (vs := [_, _]) rfl en49 rfl (VN (by simp) rfl View.all (VN (by simp) rfl View.all V0)) (c_jfirst (bD := bD) (bS := bS) (cD := cD) (nD := nD) (rD := rD) (S := S) (wr := wr) (a := ar) (by omega) (by omega) (by omega) (by omega) (by omega) (by omega) (by omega)) ?_
 have := fst_le nD ar (by omega)
 refine At.wp (some 34) (P_move rfl rfl) ?_
 refine At.wp (some 35) (P_nilCheck rfl rfl) ?_
 refine At.wp (some 36) (P_fieldAddr0 (off := 4) rfl Try.underlying82 rfl sz3 rfl rfl) ?_
 refine At.wq (some 37) (Q_loadO (k := 2) rfl rfl Try.underlying3 rfl rfl rfl) ?_
 refine At.wqn ?_
 refine At.wt rfl ?_
 refine At.p (some 38) (P_add_i rfl rfl rfl (by omega)) ?_
 refine At.p (some 5) (P_assign rfl rfl) ?_
 refine At.nil ?_
 refine At.next ?_
 refine At.seq ?_
 refine At.region ?_
 refine At.p (some 40) (P_move rfl rfl) ?_
 refine At.p (some 41) (P_nilCheck rfl rfl) ?_
 refine At.p (some 42) (P_fieldAddr0 (off := 0) rfl Try.underlying82 rfl sz23 rfl rfl) ?_
 refine At.q (some 43) (Q_loadO (k := 2) rfl rfl Try.underlying23 rfl rfl rfl) ?_
 refine At.p (some 44) (P_move rfl rfl) ?_
 refine At.s (S_callV (some 45) [(0, _), (1, _)] [45] (vs := [_, _]) rfl en13 rfl (VN (by simp) rfl View.all (VN (by simp) rfl View.all V0)) (by simp) (c_ReadX (n := nD) (c := cD) (b := bD) (bs := bS) (wr := wr) (rest := rD) (k := ((fstS nD ar) + u)) (S := S) (X := (List.replicate 64 0#8)) (by omega) (by omega) (by omega) (by omega) (by omega) (by omega) hx) (by rintro _ _ ⟨A45, b45, c45, g45a, g45b, rfl, rfl⟩; rfl) ?_)
 rintro _ _ ⟨A45, b45, c45, g45a, g45b, rfl, rfl⟩
 have hXl : (List.replicate 64 0#8).length = 64 := rfl
 refine At.p (some 39) (P_move rfl rfl) ?_
 refine At.p (some 46) (P_extract rfl rfl rfl) ?_
 refine At.p (some 47) (P_extract rfl rfl rfl) ?_
 refine At.p (some 6) (P_assign rfl rfl) ?_
 refine At.p (some 7) (P_assign rfl rfl) ?_
 refine At.nil ?_
 refine At.next ?_
 refine At.seq ?_
 refine At.seq ?_
 refine At.region ?_
 refine At.p (some 48) (P_move rfl rfl) ?_
 refine At.p (some 49) (P_cmp rfl rfl rfl rfl rfl rfl) ?_
 refine At.nil ?_
 refine At.next ?_
 refine At.cond rfl (fun h49 => by exact absurd h49 (by decide)) (fun h49 => ?_)
 have e49 : 0 = 0 := bne_eq_false_iff_eq.1 h49
 refine At.skip ?_
 refine At.next ?_
 refine At.seq ?_
 refine At.region ?_
 refine At.p (some 51) (P_move rfl rfl) ?_
 refine At.p (some 52) (P_slice_sl (l := 16) (h := 18) (m := c45) rfl Try.underlying27 sz5 rfl ⟨_, _, rfl, rfl⟩ ⟨_, _, rfl, rfl⟩ rfl DO DO DO) ?_
 refine At.s (S_callV (some 53) [(45, _)] [] (vs := [_]) rfl en57 rfl (VN (by simp) rfl (View.sub (j := 16) (m := (18 - 16)) rfl rfl) V0) (by simp) (c_num (b := (((List.replicate 64 0#8).drop 16).take (18 - 16))) (nb := (18 - 16)) (Ab := (cut A45 16 c45 1)) (cb := (c45 - 16)) (bb := b45) (qb := (0 + 16)) LN (fun h => cut_addr1 ((fun h => g45a (by omega)) (by omega)) (by omega)) OG) (by rintro _ _ ⟨rfl, rfl⟩; rfl) ?_)
 rintro _ _ ⟨rfl, rfl⟩
 refine At.p (some 54) (P_conv_WiE (z := 0) (by rfl) rfl Try.underlying22 Try.underlying3 rfl) ?_
 refine At.p (some 8) (P_assign rfl rfl) ?_
 refine At.nil ?_
 refine At.next ?_
 refine At.seq ?_
 refine At.seq ?_
 refine At.region ?_
 refine At.p (some 55) (P_move rfl rfl) ?_
 refine At.p (some 56) (P_cmp rfl rfl rfl rfl rfl rfl) ?_
 refine At.p (some 57) (P_move rfl rfl) ?_
 refine At.gn (some 58) (t := 57) rfl rfl rfl rfl ?_
 refine At.gn (some 59) (t := 57) rfl rfl rfl rfl ?_
 refine At.p (some 60) (P_pick_t rfl rfl rfl rfl) ?_
 refine At.p (some 61) (P_move rfl rfl) ?_
 refine At.gn (some 62) (t := 61) rfl rfl rfl rfl ?_
 refine At.gn (some 63) (t := 61) rfl rfl rfl rfl ?_
 refine At.gn (some 64) (t := 61) rfl rfl rfl rfl ?_
 refine At.gn (some 65) (t := 61) rfl rfl rfl rfl ?_
 refine At.p (some 66) (P_pick_t rfl rfl rfl rfl) ?_
 refine At.nil ?_
 refine At.next ?_
 refine At.cond rfl (fun _ => ?_) (fun h => absurd (h.symm.trans rfl) (by decide))
 refine At.seq ?_
 refine At.region ?_
 refine At.p (some 2) (P_assign rfl rfl) ?_
 refine At.p (some 3) (P_assign rfl rfl) ?_
 refine At.nil ?_
 refine At.next ?_
 refine At.ret ?_
 refine At.thn_r ?_
 refine At.give (.inl rfl) [] (rows' := []) (vs := [_, _]) rfl ⟨rfl, rfl, trivial⟩ rfl (by simp) (by simp) ⟨rfl, rfl⟩

set_option maxHeartbeats 2000000 in
theorem c_readF {bD bS cD nD rD : Nat} {S : List (BitVec 8)} {wr : Int} {bJ ar : Nat} {gen : BitVec 64} {Aj : Option Addr} {nj cj u : Nat} (hSl : S.length = nD * 64) (hn : nD ≤ 512) (hc : nD ≤ cD) (hw : 0 ≤ wr) (hw2 : wr ≤ 4611686018427380000) (h4 : 4 ≤ nD) (har : ar ≤ 1) (hu : u = (nD - 2) / 2) :
  Con Try.prog 50 [ptr bJ 0] [dH false bD bS cD nD wr, rowS false bS S rD, ⟨false, bJ, 0, 82, [ptr bD 0, u64V gen, iV (ar : Int), .slice Aj nj cj, iV (u : Int), .bool false], 0⟩] (fun v rs => v = .tuple #[.slice none 0 0, iV 0] ∧ rs = []) := by
 refine Con.enter Try.func50 Try.ntmps50 (Nat.le_of_ble_eq_true rfl) rfl fun w => ?_
 refine At.seq ?_
 refine At.region ?_
 refine At.p (some 2) (P_assign rfl rfl) ?_
 refine At.p (some 3) (P_assign rfl rfl) ?_
 refine At.nil ?_
 refine At.next ?_
 refine At.seq ?_
 refine At.draws 9 [] [.q false [0, 1, 2, 3, 4, 5, 6, 7, 8]] (by kernel_rfl) (by kernel_rfl) ?_
 refine At.wp (some 13) (P_move rfl rfl) ?_
 refine At.wp (some 14) (P_nilCheck rfl rfl) ?_
 refine At.wp (some 15) (P_fieldAddr0 (off := 0) rfl Try.underlying82 rfl sz23 rfl rfl) ?_
 refine At.wq (some 16) (Q_loadO (k := 2) rfl rfl Try.underlying23 rfl rfl rfl) ?_
 refine At.wcV (some 17) [(0, _), (1, _)] (vs := [_]) rfl en48 rfl (VN (by simp) rfl View.all (VN (by simp) rfl View.all V0)) (c_jsize (bD := bD) (bS := bS) (cD := cD) (nD := nD) (rD := rD) (S := S) (wr := wr) (by omega) (by omega) (by omega) (by omega) (by omega) (by omega)) ?_
 refine At.wp (some 18) (P_move rfl rfl) ?_
 refine At.wp (some 19) (P_nilCheck rfl rfl) ?_
 refine At.wp (some 20) (P_fieldAddr0 (off := 4) rfl Try.underlying82 rfl sz3 rfl rfl) ?_
 refine At.wq (some 21) (Q_loadO (k := 2) rfl rfl Try.underlying3 rfl rfl rfl) ?_
 refine At.wqn ?_
 refine At.wt rfl ?_
 refine At.p (some 22) (P_sub_i rfl rfl rfl (by omega)) ?_
 refine At.p (some 4) (P_assign rfl rfl) ?_
 refine At.nil ?_
 refine At.next ?_
 refine At.seq ?_
 refine At.seq ?_
 refine At.region ?_
 refine At.p (some 23) (P_move rfl rfl) ?_
 refine At.p (some 24) (P_cmp rfl rfl rfl rfl rfl rfl) ?_
 refine At.nil ?_
 refine At.next ?_
 refine At.cond rfl (fun h24 => ?_) (fun h24 => by have := of_decide_eq_false h24; omega)
 have e24 : ((((nD - 2) / 2 : Nat) : Int) - (u : Int)) = 0 := eq_of_beq h24
 refine At.seq ?_
 refine At.region ?_
 refine At.p (some 2) (P_assign rfl rfl) ?_
 refine At.p (some 3) (P_assign rfl rfl) ?_
 refine At.nil ?_
 refine At.next ?_
 refine At.ret ?_
 refine At.thn_r ?_
 refine At.give (.inl rfl) [] (rows' := []) (vs := [_, _]) rfl ⟨rfl, rfl, trivial⟩ rfl (by simp) (by simp) ⟨rfl, rfl⟩

set_option maxHeartbeats 2000000 in
theorem c_Room {bD bS cD nD rD : Nat} {S : List (BitVec 8)} {wr : Int} {bJ ar : Nat} {gen : BitVec 64} {Aj : Option Addr} {nj cj u : Nat} (hSl : S.length = nD * 64) (hn : nD ≤ 512) (hc : nD ≤ cD) (hw : 0 ≤ wr) (hw2 : wr ≤ 4611686018427380000) (h4 : 4 ≤ nD) (har : ar ≤ 1) (hu : u ≤ (nD - 2) / 2) :
  Con Try.prog 35 [ptr bJ 0] [dH false bD bS cD nD wr, rowS false bS S rD, ⟨false, bJ, 0, 82, [ptr bD 0, u64V gen, iV (ar : Int), .slice Aj nj cj, iV (u : Int), .bool false], 0⟩] (fun v rs => v = iV (((nD - 2) / 2 : Nat) - (u : Int)) ∧ rs = []) := by
 refine Con.enter Try.func35 Try.ntmps35 (Nat.le_of_ble_eq_true rfl) rfl fun w => ?_
 refine At.seq ?_
 refine At.region ?_
 refine At.p (some 2) (P_assign rfl rfl) ?_
 refine At.nil ?_
 refine At.next ?_
 refine At.seq ?_
 refine At.seq ?_
 refine At.region ?_
 refine At.p (some 3) (P_move rfl rfl) ?_
 refine At.p (some 4) (P_eql_ptr rfl rfl rfl Try.underlying50) ?_
 refine At.p (some 5) (P_move rfl rfl) ?_
 refine At.gy (t := 5) rfl rfl rfl rfl ?_
 refine At.p (some 6) (P_move rfl rfl) ?_
 refine At.gy (t := 5) rfl rfl rfl rfl ?_
 refine At.p (some 7) (P_nilCheck rfl rfl) ?_
 refine At.gy (t := 5) rfl rfl rfl rfl ?_
 refine At.p (some 8) (P_fieldAddr0 (off := 5) rfl Try.underlying82 rfl sz4 rfl rfl) ?_
 refine At.gy (t := 5) rfl rfl rfl rfl ?_
 refine At.q (some 9) (Q_loadO (k := 2) rfl rfl Try.underlying4 rfl rfl rfl) ?_
 refine At.p (some 10) (P_pick_f rfl rfl rfl rfl) ?_
 refine At.nil ?_
 refine At.next ?_
 refine At.cond rfl (fun h10 => by simp at h10) (fun h10 => ?_)
 refine At.skip ?_
 refine At.next ?_
 refine At.seq ?_
 refine At.draws 9 [] [.q false [0, 1, 2, 3, 4, 5, 6, 7, 8]] (by kernel_rfl) (by kernel_rfl) ?_
 refine At.wp (some 11) (P_move rfl rfl) ?_
 refine At.wp (some 12) (P_nilCheck rfl rfl) ?_
 refine At.wp (some 13) (P_fieldAddr0 (off := 0) rfl Try.underlying82 rfl sz23 rfl rfl) ?_
 refine At.wq (some 14) (Q_loadO (k := 2) rfl rfl Try.underlying23 rfl rfl rfl) ?_
 refine At.wcV (some 15) [(0, _), (1, _)] (vs := [_]) rfl en48 rfl (VN (by simp) rfl View.all (VN (by simp) rfl View.all V0)) (c_jsize (bD := bD) (bS := bS) (cD := cD) (nD := nD) (rD := rD) (S := S) (wr := wr) (by omega) (by omega) (by omega) (by omega) (by omega) (by omega)) ?_
 refine At.wp (some 16) (P_move rfl rfl) ?_
 refine At.wp (some 17) (P_nilCheck rfl rfl) ?_
 refine At.wp (some 18) (P_fieldAddr0 (off := 4) rfl Try.underlying82 rfl sz3 rfl rfl) ?_
 refine At.wq (some 19) (Q_loadO (k := 2) rfl rfl Try.underlying3 rfl rfl rfl) ?_
 refine At.wqn ?_
 refine At.wt rfl ?_
 refine At.p (some 20) (P_sub_i rfl rfl rfl (by omega)) ?_
 refine At.p (some 2) (P_assign rfl rfl) ?_
 refine At.nil ?_
 refine At.next ?_
 refine At.ret ?_
 refine At.give (.inl rfl) [] (rows' := []) (vs := [_]) rfl ⟨rfl, trivial⟩ rfl (by simp) (by simp) ⟨rfl, rfl⟩


end Go.Proofs.Ytdingfinclcbgaa

