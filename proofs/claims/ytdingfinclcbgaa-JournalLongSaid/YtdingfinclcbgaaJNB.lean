import Derived.Test.YtdingfinclcbgaaJNA
namespace Go.Proofs.Ytdingfinclcbgaa
set_option maxRecDepth 20000
set_option linter.unusedVariables false
set_option linter.unusedSimpArgs false
open Go.SE Go.RowKit
theorem c_New8 : Con Try.prog 9 [iV 8] [] (fun v rs => ∃ b bs, v = .tuple #[ptr b 0, iV 0] ∧ rs = [dH true b bs 8 8 0, rowS true bs dsk0 0]) := c_New 8 (by decide) (by decide)
theorem c_Format8 {bD bS : Nat} : Con Try.prog 28 [ptr bD 0] [dH true bD bS 8 8 0, rowS true bS dsk0 0] (fun v rs => ∃ b', v = .tuple #[ptr b' 0, iV 0] ∧ rs = [dH true bD bS 8 8 (0 + 1 + 1), rowS true bS dsk1 0, jRow b' bD 1#64 0 none 0 0 0 false]) :=
 c_Format (nD := 8) dsk0_len (by decide) (by decide) (by decide) (by decide) (by decide) rfl
theorem c_Open8 {bD bS cD rD : Nat} {wr : Int} (hc : 8 ≤ cD) (hw : 0 ≤ wr) (hw2 : wr ≤ 4611686018427380000) : Con Try.prog 31 [ptr bD 0] [dH false bD bS cD 8 wr, rowS false bS dsk2 rD]
  (fun v rs => ∃ (bJ' : Nat) (x : BG) (A' : Option Addr) (b' c' : Nat), (0 < c' → A' = some ⟨b', 0, none⟩) ∧ 1 ≤ c' ∧ x.ok ∧ x.l = [97#8] ∧ v = .tuple #[ptr bJ' 0, iV 0] ∧ rs = [⟨true, bJ', 0, 82, [ptr bD 0, u64V 1#64, iV ((0 : Nat) : Int), .slice A' 1 c', iV ((1 : Nat) : Int), .bool false], 0⟩, ⟨true, b', 0, 27, [x].map BG.v, c' - 1⟩, x.row 5]) := by
 refine (c_Open (nD := 8) (L := [[97#8]]) dsk2_len (by decide) hc hw hw2 (by decide) (by decide) pk_dsk2 stored_dsk2).mono ?_
 rintro _ _ ⟨bJ', es, A', b', c', h1, h2, h3, h4, rfl, rfl⟩
 match es, h4 with
 | [x], h4 => exact ⟨bJ', x, A', b', c', h1, h2, h3 x (by simp), by simpa using h4, rfl, rfl⟩
 | _ :: _ :: _, h4 => exact absurd (congrArg List.length h4) (by simp)
theorem c_Ent8 {bJ bD cj bj : Nat} {ar uj : Int} {gen : BitVec 64} {Aj : Option Addr} {x : BG} (hAj : Aj = some ⟨bj, 0, none⟩) (hxA : x.A = some ⟨x.b, x.q, none⟩) (hxl : x.l.length ≤ 1000) :
  Con Try.prog 33 [ptr bJ 0] [⟨false, bJ, 0, 82, [ptr bD 0, u64V gen, iV ar, .slice Aj 1 cj, iV uj, .bool false], 0⟩, ⟨false, bj, 0, 0, [x].map BG.v, 0⟩, pRow x.b x.q x.l]
  (fun v rs => ∃ (y : BG) (A' : Option Addr) (b' c' : Nat), (0 < c' → A' = some ⟨b', 0, none⟩) ∧ 1 ≤ c' ∧ y.ok ∧ y.l = x.l ∧ v = .slice A' 1 c' ∧ rs = [⟨true, b', 0, 27, [y].map BG.v, c' - 1⟩, y.row 5]) := by
 refine (c_Ent1 hAj hxA hxl).mono ?_
 rintro _ _ ⟨es, A', b', c', h1, h2, h3, h4, rfl, rfl⟩
 match es, h4 with
 | [y], h4 => exact ⟨y, A', b', c', h1, h2, h3 y (by simp), by simpa using h4, rfl, rfl⟩
 | _ :: _ :: _, h4 => exact absurd (congrArg List.length h4) (by simp)
theorem c_App8 {bD bS bJ be ce : Nat} (hce : 1 ≤ ce) : Con Try.prog 29 [ptr bJ 0, .slice (some ⟨be, 0, none⟩) 1 ce] [dH true bD bS 8 8 (0 + 1 + 1), rowS true bS dsk1 0, ⟨true, bJ, 0, 82, [ptr bD 0, u64V 1#64, iV ((0 : Nat) : Int), .slice none 0 0, iV 0, .bool false], 0⟩, pRow be 0 [97#8]]
  (fun v rs => ∃ A' b' c' A2 b2 c2, (0 < c' → A' = some ⟨b', 0, none⟩) ∧ 1 ≤ c' ∧ (BE.mk A2 b2 c2 [97#8]).ok ∧ v = iV 0 ∧ rs = [dH true bD bS 8 8 (0 + 1 + 1 + 1), rowS true bS dsk2 0, ⟨true, bJ, 0, 82, [ptr bD 0, u64V 1#64, iV ((0 : Nat) : Int), .slice A' 1 c', iV 1, .bool false], 0⟩, ⟨true, b', 0, 27, [BE.mk A2 b2 c2 [97#8]].map BE.v, c' - 1⟩, (BE.mk A2 b2 c2 [97#8]).row 5]) :=
 c_App (nD := 8) (ar := 0) (e := [97#8]) dsk1_len (by decide) (by decide) (by decide) (by decide) (by decide) (by decide) rfl hce (by decide) (by decide)
theorem Q_eq {P : Program} {E : Env} {fr : Fr} {H : Hp} {o : Oper} {v v' : Value} (h : v = v') (q : QStep P E fr H o v) : QStep P E fr H o v' := h ▸ q

attribute [local irreducible] sumS
set_option maxHeartbeats 2000000 in
theorem c_stays   :
  Con Try.prog 25 [] [] (fun v rs => v = .bool true ∧ rs = []) := by
 refine Con.enter Try.func25 Try.ntmps25 (Nat.le_of_ble_eq_true rfl) rfl fun w => ?_
 refine At.seq ?_
 refine At.region ?_
 refine At.p (some 0) (P_assign rfl rfl) ?_
 refine At.nil ?_
 refine At.next ?_
 refine At.seq ?_
 refine At.region ?_
 refine At.s (S_callV (some 10) [] [100, 101] (vs := [_]) rfl en9 rfl V0 (by simp) (c_New8) (by rintro _ _ ⟨bD, bS, rfl, rfl⟩; rfl) ?_)
 rintro _ _ ⟨bD, bS, rfl, rfl⟩
 refine At.p (some 9) (P_move rfl rfl) ?_
 refine At.p (some 11) (P_extract rfl rfl rfl) ?_
 refine At.p (some 12) (P_extract rfl rfl rfl) ?_
 refine At.p (some 1) (P_assign rfl rfl) ?_
 refine At.p (some 2) (P_assign rfl rfl) ?_
 refine At.nil ?_
 refine At.next ?_
 refine At.seq ?_
 refine At.region ?_
 refine At.p (some 14) (P_move rfl rfl) ?_
 refine At.s (S_callR (some 15) [(100, _), (101, _)] [] [100, 101, 102] (vs := [_]) rfl en28 rfl (ON rfl rfl (ON rfl rfl O0)) (by simp) V0 (by simp) (c_Format8) (by rintro _ _ ⟨bJ, rfl, rfl⟩; rfl) ?_)
 rintro _ _ ⟨bJ, rfl, rfl⟩
 refine At.p (some 13) (P_move rfl rfl) ?_
 refine At.p (some 16) (P_extract rfl rfl rfl) ?_
 refine At.p (some 17) (P_extract rfl rfl rfl) ?_
 refine At.p (some 3) (P_assign rfl rfl) ?_
 refine At.p (some 4) (P_assign rfl rfl) ?_
 refine At.nil ?_
 refine At.next ?_
 refine At.seq ?_
 refine At.region ?_
 refine At.p (some 18) (P_move rfl rfl) ?_
 refine At.s (S_buildSliceV (some 19) 19 (([97#8]).map u8V) rfl Try.underlying27 sz5 ze5 rfl rfl (by decide) (by decide) rfl rfl (fun b19 => ?_))
 refine At.s (S_convB (some 20) (k := 19) rfl Try.underlying27 Try.underlying5 rfl rfl (by simp) ?_)
 refine At.s (S_callR (some 21) [(100, _), (101, _), (102, _)] [(19, _)] [100, 101, 102, 103, 104] (vs := [_, _]) rfl en29 rfl (ON rfl rfl (ON rfl rfl (ON rfl rfl O0))) (by simp) (VN (by simp) rfl View.all V0) (by simp) (c_App8 (be := b19) (ce := 1) (by omega)) (by rintro _ _ ⟨A3, b3, c3, A4, b4, c4, g3a, g3b, g4, rfl, rfl⟩; rfl) ?_)
 rintro _ _ ⟨A3, b3, c3, A4, b4, c4, g3a, g3b, g4, rfl, rfl⟩
 refine At.p (some 5) (P_assign rfl rfl) ?_
 refine At.nil ?_
 refine At.next ?_
 refine At.seq ?_
 refine At.region ?_
 refine At.p (some 23) (P_move rfl rfl) ?_
 refine At.s (S_callV (some 24) [(100, _), (101, _)] [105, 106, 107] (vs := [_]) rfl en31 rfl (VN (by simp) rfl View.all (VN (by simp) rfl View.all V0)) (by simp) (c_Open8 (bD := bD) (bS := bS) (cD := 8) (rD := 0) (wr := 0 + 1 + 1 + 1) (by omega) (by omega) (by omega)) (by rintro _ _ ⟨bK, x, A5, b5, c5, g5a, g5b, hxo, hxl, rfl, rfl⟩; rfl) ?_)
 rintro _ _ ⟨bK, x, A5, b5, c5, g5a, g5b, hxo, hxl, rfl, rfl⟩
 refine At.p (some 22) (P_move rfl rfl) ?_
 refine At.p (some 25) (P_extract rfl rfl rfl) ?_
 refine At.p (some 26) (P_extract rfl rfl rfl) ?_
 refine At.p (some 6) (P_assign rfl rfl) ?_
 refine At.p (some 7) (P_assign rfl rfl) ?_
 refine At.nil ?_
 refine At.next ?_
 refine At.seq ?_
 refine At.region ?_
 refine At.p (some 27) (P_move rfl rfl) ?_
 refine At.s (S_callV (some 28) [(105, _), (106, _), (107, _)] [108, 109] (vs := [_]) rfl en33 rfl (VN (by simp) rfl View.all (VN (by simp) rfl View.all (VN (by simp) rfl (BG.see hxo) V0))) (by simp) (c_Ent8 (bJ := bK) (bD := bD) (cj := c5) (bj := b5) (ar := ((0 : Nat) : Int)) (uj := ((1 : Nat) : Int)) (gen := 1#64) (Aj := A5) (x := x) (g5a (by omega)) (BG.adr hxo (by rw [hxl]; decide)) (by rw [hxl]; decide)) (by rintro _ _ ⟨y, A6, b6, c6, g6a, g6b, hyo, hyl, rfl, rfl⟩; rfl) ?_)
 rintro _ _ ⟨y, A6, b6, c6, g6a, g6b, hyo, hyl, rfl, rfl⟩
 refine At.p (some 8) (P_assign rfl rfl) ?_
 refine At.nil ?_
 refine At.next ?_
 refine At.seq ?_
 refine At.region ?_
 refine At.p (some 29) (P_move rfl rfl) ?_
 refine At.p (some 30) (P_cmp rfl rfl rfl rfl rfl rfl) ?_
 refine At.p (some 31) (P_move rfl rfl) ?_
 refine At.gy (t := 31) rfl (by first | rfl | decide) rfl rfl ?_
 refine At.p (some 32) (P_move rfl rfl) ?_
 refine At.gy (t := 31) rfl (by first | rfl | decide) rfl rfl ?_
 refine At.p (some 33) (P_cmp rfl rfl rfl rfl rfl rfl) ?_
 refine At.p (some 34) (P_pick_t rfl rfl (by first | rfl | decide) rfl) ?_
 refine At.p (some 35) (P_move rfl rfl) ?_
 refine At.gy (t := 35) rfl (by first | rfl | decide) rfl rfl ?_
 refine At.p (some 36) (P_move rfl rfl) ?_
 refine At.gy (t := 35) rfl (by first | rfl | decide) rfl rfl ?_
 refine At.p (some 37) (P_cmp rfl rfl rfl rfl rfl rfl) ?_
 refine At.p (some 38) (P_pick_t rfl rfl (by first | rfl | decide) rfl) ?_
 refine At.p (some 39) (P_move rfl rfl) ?_
 refine At.gy (t := 39) rfl (by first | rfl | decide) rfl rfl ?_
 refine At.p (some 40) (P_move rfl rfl) ?_
 refine At.gy (t := 39) rfl (by first | rfl | decide) rfl rfl ?_
 refine At.p (some 41) (P_cmp rfl rfl rfl rfl rfl rfl) ?_
 refine At.p (some 42) (P_pick_t rfl rfl (by first | rfl | decide) rfl) ?_
 refine At.p (some 43) (P_move rfl rfl) ?_
 refine At.gy (t := 43) rfl (by first | rfl | decide) rfl rfl ?_
 refine At.p (some 44) (P_move rfl rfl) ?_
 refine At.gy (t := 43) rfl (by first | rfl | decide) rfl rfl ?_
 refine At.p (some 45) (P_len_sl rfl rfl ⟨_, Try.underlying44⟩ rfl) ?_
 refine At.gy (t := 43) rfl (by first | rfl | decide) rfl rfl ?_
 refine At.p (some 46) (P_cmp rfl rfl rfl rfl rfl rfl) ?_
 refine At.p (some 47) (P_pick_t rfl rfl (by first | rfl | decide) rfl) ?_
 refine At.p (some 48) (P_move rfl rfl) ?_
 refine At.gy (t := 48) rfl (by first | rfl | decide) rfl rfl ?_
 refine At.p (some 49) (P_move rfl rfl) ?_
 refine At.gy (t := 48) rfl (by first | rfl | decide) rfl rfl ?_
 refine At.p (some 50) (P_indexAddr_slz (b := b6) (j := 0) rfl Try.underlying44 sz27 rfl ((fun h => g6a (by omega)) OG) rfl rfl OG) ?_
 refine At.gy (t := 48) rfl (by first | rfl | decide) rfl rfl ?_
 refine At.q (some 51) (Q_one (k := 0) (by decide) (Q_loadM (k := 108) (f := BG.v) (l := [y]) (default : BG) rfl rfl Try.underlying27 rfl rfl (by simp))) ?_
 refine At.gy (t := 48) rfl (by first | rfl | decide) rfl rfl ?_
 refine At.q (some 52) (Q_eq (congrArg strV (by rw [hyo.2.2.1, hyl, hxl])) (Q_strP (l := y.w) (n := y.l.length) (j := y.q) (k := 109) (r := y.row 5) hyo.2.2.2 rfl Try.underlying27 Try.underlying5 Try.underlying9 rfl (fun h => BG.adr hyo h) (fun _ => ⟨rfl, rfl, Nat.zero_add _⟩))) ?_
 refine At.gy (t := 48) rfl (by first | rfl | decide) rfl rfl ?_
 refine At.p (some 53) (P_eql_str (a := [97#8]) (b := [97#8]) rfl rfl rfl) ?_
 refine At.p (some 54) (P_pick_t rfl rfl (by first | rfl | decide) rfl) ?_
 refine At.p (some 55) (P_move rfl rfl) ?_
 refine At.gy (t := 55) rfl (by first | rfl | decide) rfl rfl ?_
 refine At.p (some 56) (P_move rfl rfl) ?_
 refine At.gy (t := 55) rfl (by first | rfl | decide) rfl rfl ?_
 refine At.s (S_callV (some 57) [(100, _), (101, _), (105, _)] [] (vs := [_]) rfl en35 rfl (VN (by simp) rfl View.all (VN (by simp) rfl View.all (VN (by simp) rfl View.all V0))) (by simp) (c_Room (bD := bD) (bS := bS) (cD := 8) (nD := 8) (rD := 0) (S := dsk2) (wr := 0 + 1 + 1 + 1) (bJ := bK) (ar := 0) (gen := 1#64) (Aj := A5) (nj := 1) (cj := c5) (u := 1) dsk2_len (by omega) (by omega) (by omega) (by omega) (by omega) (by omega) (by omega)) (by rintro _ _ ⟨rfl, rfl⟩; rfl) ?_)
 rintro _ _ ⟨rfl, rfl⟩
 refine At.gy (t := 55) rfl (by first | rfl | decide) rfl rfl ?_
 refine At.p (some 58) (P_cmp rfl rfl rfl rfl rfl rfl) ?_
 refine At.p (some 59) (P_pick_t rfl rfl (by first | rfl | decide) rfl) ?_
 refine At.p (some 60) (P_move rfl rfl) ?_
 refine At.gy (t := 60) rfl (by first | rfl | decide) rfl rfl ?_
 refine At.s (S_callV (some 61) [] [] (vs := [_]) rfl en26 rfl V0 (by simp) (c_Need (n := 46) OG) (by rintro _ _ ⟨rfl, rfl⟩; rfl) ?_)
 rintro _ _ ⟨rfl, rfl⟩
 refine At.gy (t := 60) rfl (by first | rfl | decide) rfl rfl ?_
 refine At.p (some 62) (P_cmp rfl rfl rfl rfl rfl rfl) ?_
 refine At.p (some 63) (P_pick_t rfl rfl (by first | rfl | decide) rfl) ?_
 refine At.p (some 64) (P_move rfl rfl) ?_
 refine At.gy (t := 64) rfl (by first | rfl | decide) rfl rfl ?_
 refine At.s (S_callV (some 65) [] [] (vs := [_]) rfl en26 rfl V0 (by simp) (c_Need (n := 47) OG) (by rintro _ _ ⟨rfl, rfl⟩; rfl) ?_)
 rintro _ _ ⟨rfl, rfl⟩
 refine At.gy (t := 64) rfl (by first | rfl | decide) rfl rfl ?_
 refine At.p (some 66) (P_cmp rfl rfl rfl rfl rfl rfl) ?_
 refine At.p (some 67) (P_pick_t rfl rfl (by first | rfl | decide) rfl) ?_
 refine At.p (some 0) (P_assign rfl rfl) ?_
 refine At.nil ?_
 refine At.next ?_
 refine At.ret ?_
 have hq0 : (((47 + 81) / 64 : Nat) == 2) = true := (by first | rfl | decide)
 refine At.give (.inl rfl) [] (rows' := []) (vs := [_]) rfl ⟨rfl, trivial⟩ rfl (by simp) (by simp) ⟨(by first | (rw [hq0]; try rfl; done) | (rw [← hq0]; try rfl; done) | (simp only [hq0]; try rfl; done) | (simp only [← hq0]; try rfl; done) | rfl), (by first | (rw [hq0]; try rfl; done) | (rw [← hq0]; try rfl; done) | (simp only [hq0]; try rfl; done) | (simp only [← hq0]; try rfl; done) | rfl)⟩


end Go.Proofs.Ytdingfinclcbgaa

