import Derived.Test.YtdingfinclcbgaaB
namespace Go.Proofs.Ytdingfinclcbgaa
set_option maxRecDepth 20000
set_option linter.unusedVariables false
set_option linter.unusedSimpArgs false
open Go.SE Go.RowKit
theorem c_WriteE {d d' : DM} {e : Int} (hok : d.Ok) (b bs c rest : Nat) (hc : d.n ≤ c) {i : Int} {A : Option Addr} {ca bq q : Nat} {l : List (BitVec 8)} (hA : 0 < l.length → A = some ⟨bq, q, none⟩) (h : d.write i l = (d', e)) :
    Con Try.prog 11 [ptr b 0, iV i, .slice A l.length ca] (d.rows b bs c rest ++ [bytesRow bq q l]) (fun v rs => v = iV e ∧ rs = d'.rows b bs c rest) := by
  have := c_Write d hok b bs c rest hc i A ca bq q l hA
  rwa [h] at this
def fill255 (k : Nat) : List (BitVec 8) := (List.range k).map (fun _ => 255#8) ++ List.replicate (64 - k) 0#8
def fillB (k : Nat) : List (BitVec 8) := (List.range k).map (fun (i : Nat) => BitVec.ofInt 8 ((i : Int) + 1)) ++ List.replicate (64 - k) 0#8
theorem fillB_64 : fillB 64 = fullB := by unfold fillB fullB; simp
def rowB (b : Nat) (l : List (BitVec 8)) : Row := ⟨true, b, 0, 5, l.map u8V, 0⟩
theorem fill255_set {k : Nat} (h : k < 64) : (fill255 k).set k 255#8 = fill255 (k + 1) := fill_set (fun _ => 255#8) 0#8 h
theorem fillB_set {k : Nat} (h : k < 64) : (fillB k).set k (BitVec.ofInt 8 ((k : Int) + 1)) = fillB (k + 1) := fill_set (fun (i : Nat) => BitVec.ofInt 8 ((i : Int) + 1)) 0#8 h
theorem fill255_length {k : Nat} (h : k ≤ 64) : (fill255 k).length = 64 := by simp [fill255]; omega
theorem fillB_length {k : Nat} (h : k ≤ 64) : (fillB k).length = 64 := by simp [fillB]; omega
def dT : DM := (DM.new 2).fail 0 10
def dT2 : DM := (dT.write 1 (fill255 64)).1
theorem dT_ok : dT.Ok := DM.fail_ok (DM.new_ok (by decide) (by decide)) (by decide)
theorem dT_w : dT.write 1 (fill255 64) = (dT2, 6) := rfl
theorem dT2_ok : dT2.Ok := DM.write_ok dT_ok (by decide)
def secT : List (BitVec 8) := dT2.up.sector 1
theorem secT_r : dT2.up.read 1 = (secT, 0) := rfl
theorem secT_len : secT.length = 64 := by decide +kernel
theorem secT_9 : (secT.getD 9 0 == 255#8) = true := by decide +kernel
theorem secT_10 : (secT.getD 10 0 == 0#8) = true := by decide +kernel
theorem dT2_wr : (dT2.wr == 1) = true := by decide +kernel
theorem dT2_off : (!(!dT2.off)) = true := by decide +kernel

theorem c_tears  :
    Con Try.prog 14 [] [] (fun v rs => v = .bool true ∧ rs = []) := by
  refine Con.enter Try.func14 Try.ntmps14 (Nat.le_of_ble_eq_true rfl) rfl fun w => ?_
  refine At.seq ?_
  refine At.region ?_
  refine At.p (some 0) (P_assign rfl rfl) ?_
  refine At.nil ?_
  refine At.next ?_
  refine At.seq ?_
  refine At.region ?_
  refine At.s (S_callV (some 10) [] [0, 1] (vs := [_]) rfl en9 rfl V0 (by simp) (c_New 2 (by decide) (by decide)) (by rintro _ _ ⟨b0, b1, rfl, rfl⟩; rfl) ?_)
  rintro _ _ ⟨b0, b1, rfl, rfl⟩
  refine At.p (some 9) (P_move rfl rfl) ?_
  refine At.p (some 11) (P_extract rfl rfl rfl) ?_
  refine At.p (some 12) (P_extract rfl rfl rfl) ?_
  refine At.p (some 1) (P_assign rfl rfl) ?_
  refine At.p (some 2) (P_assign rfl rfl) ?_
  refine At.nil ?_
  refine At.next ?_
  refine At.seq ?_
  refine At.region ?_
  refine At.p (some 13) (P_move rfl rfl) ?_
  refine At.s (S_callR (some 14) [(0, _), (1, _)] [] [0, 1] (vs := [_, _, _]) rfl en10 rfl (ON rfl rfl (ON rfl rfl O0)) (by simp) V0 (by simp) (c_Fail (DM.new 2) _ _ _ _ 0 10) (by rintro _ _ ⟨rfl, rfl⟩; rfl) ?_)
  rintro _ _ ⟨rfl, rfl⟩
  refine At.nil ?_
  refine At.next ?_
  refine At.seq ?_
  refine At.region ?_
  refine At.s (S_makeN (some 15) 2 (n := 64) (cs := (List.replicate (64) 0#8).map u8V) rfl Try.underlying27 sz5 by5 ze5 rfl rfl (by omega) (by omega) (by omega) (by omega) ((made_one (n := 64) (by omega)).trans (by rw [List.map_replicate]; rfl)) (fun b2 => ?_))
  refine At.p (some 3) (P_assign rfl rfl) ?_
  refine At.nil ?_
  refine At.next ?_
  refine At.seq ?_
  refine At.seq ?_
  refine At.region ?_
  refine At.p (some 4) (P_assign rfl rfl) ?_
  refine At.nil ?_
  refine At.next ?_
  refine At.block ?_
  refine At.loopx (I := fun m fr H => ∃ k, m = 64 - k ∧ fr = frOf [(1, ptr b0 0), (2, iV 0), (3, .slice (some ⟨b2, 0, none⟩) 64 64), (4, iV (k : Int))] ∧ H = hOf [(0, dT.row true b0 b1 2), (1, rowS true b1 dT.S 0), (2, rowB b2 (fill255 k))] ∧ k ≤ 64) ?_ ?_
  · intro Kc hKc
    refine At.to [(1, _), (2, _), (3, _), (4, _)] [(0, _), (1, _), (2, _)] (AllL.cons_ (rfl) (AllL.cons_ (rfl) (AllL.cons_ (rfl) (AllL.cons_ (rfl) trivial)))) (AllL.cons_ (rfl) (AllL.cons_ (rfl) (AllL.cons_ (rfl) trivial))) ?_
    exact hKc _ _ _ ⟨0, rfl, rfl, rfl, by omega⟩
  · rintro m fr H ⟨k, rfl, rfl, rfl, hk⟩ Kc hKc
    refine At.seq ?_
    refine At.seq ?_
    refine At.region ?_
    refine At.p (some 16) (P_move rfl rfl) ?_
    refine At.p (some 17) (P_cmp rfl rfl rfl rfl rfl rfl) ?_
    refine At.nil ?_
    refine At.next ?_
    refine At.cond rfl (fun h17 => ?_) (fun h17 => ?_)
    · -- cond 17 t
      have hlt : k < 64 := by simp at h17; omega
      refine At.skip ?_
      refine At.next ?_
      refine At.seq ?_
      refine At.block ?_
      refine At.region ?_
      refine At.p (some 20) (P_move rfl rfl) ?_
      refine At.p (some 21) (P_move rfl rfl) ?_
      refine At.p (some 22) (P_indexAddr_slz rfl Try.underlying27 sz5 rfl rfl rfl rfl (by omega)) ?_
      refine At.s (S_storeM none (f := u8V) (k := 2) (u := 255#8) rfl rfl rfl sz5 rfl rfl rfl (by rw [fill255_length (by omega)]; exact hlt) ?_)
      refine At.nil ?_
      refine At.inb_n ?_
      refine At.next ?_
      refine At.region ?_
      refine At.p (some 18) (P_move rfl rfl) ?_
      refine At.p (some 19) (P_add_i rfl rfl rfl (by omega)) ?_
      refine At.p (some 4) (P_assign rfl rfl) ?_
      refine At.nil ?_
      refine At.next ?_
      refine At.to [(1, _), (2, _), (3, _), (4, _)] [(0, _), (1, _), (2, rowB b2 (fill255 (k + 1)))] (AllL.cons_ (rfl) (AllL.cons_ (rfl) (AllL.cons_ (rfl) (AllL.cons_ (rfl) trivial)))) (AllL.cons_ (rfl) (AllL.cons_ (rfl) (AllL.cons_ (congrArg (fun l => some (rowB b2 l)) (fill255_set (by omega))) trivial))) ?_
      exact hKc _ _ _ (by omega) ⟨k + 1, rfl, rfl, rfl, by omega⟩
    · -- cond 17 f
      obtain rfl : k = 64 := by simp at h17; omega
      refine At.exit ?_
      refine At.thn_e ?_
      refine At.thn_e ?_
      refine At.inb_hit ?_
      refine At.next ?_
      refine At.seq ?_
      refine At.region ?_
      refine At.p (some 23) (P_move rfl rfl) ?_
      refine At.p (some 24) (P_move rfl rfl) ?_
      refine At.s (S_callR (some 25) [(0, _), (1, _)] [(2, _)] [0, 1] (vs := [_, _, _]) rfl en11 rfl (ON rfl rfl (ON rfl rfl O0)) (by simp) (VN (by simp) rfl View.all V0) (by simp) (c_WriteE (l := fill255 64) dT_ok _ _ 2 _ (by decide) (fun _ => rfl) dT_w) (by rintro _ _ ⟨rfl, rfl⟩; rfl) ?_)
      rintro _ _ ⟨rfl, rfl⟩
      refine At.p (some 5) (P_assign rfl rfl) ?_
      refine At.nil ?_
      refine At.next ?_
      refine At.seq ?_
      refine At.region ?_
      refine At.p (some 26) (P_move rfl rfl) ?_
      refine At.s (S_callV (some 27) [(0, _)] [] (vs := [_]) rfl en17 rfl (VN (by simp) rfl View.all V0) (by simp) (c_On dT2 _ _ _) (by rintro _ _ ⟨rfl, rfl⟩; rfl) ?_)
      rintro _ _ ⟨rfl, rfl⟩
      refine At.p (some 28) (P_not rfl rfl) ?_
      refine At.p (some 6) (P_assign rfl rfl) ?_
      refine At.nil ?_
      refine At.next ?_
      refine At.seq ?_
      refine At.region ?_
      refine At.p (some 29) (P_move rfl rfl) ?_
      refine At.s (S_callR (some 30) [(0, _), (1, _)] [] [0, 1] (vs := [_]) rfl en12 rfl (ON rfl rfl (ON rfl rfl O0)) (by simp) V0 (by simp) (c_Up dT2 _ _ _ _) (by rintro _ _ ⟨rfl, rfl⟩; rfl) ?_)
      rintro _ _ ⟨rfl, rfl⟩
      refine At.nil ?_
      refine At.next ?_
      refine At.seq ?_
      refine At.region ?_
      refine At.p (some 32) (P_move rfl rfl) ?_
      refine At.s (S_callV (some 33) [(0, _), (1, _)] [3] (vs := [_, _]) rfl en13 rfl (VN (by simp) rfl View.all (VN (by simp) rfl View.all V0)) (by simp) (c_Read dT2.up (DM.up_ok dT2_ok) _ _ 2 0 (by decide) 1 0 secT secT_r) (by rintro _ _ ⟨A3, b3, c3, g3, g4, rfl, rfl⟩; rfl) ?_)
      rintro _ _ ⟨A3, b3, c3, g3, g4, rfl, rfl⟩
      refine At.p (some 31) (P_move rfl rfl) ?_
      refine At.p (some 34) (P_extract rfl rfl rfl) ?_
      refine At.p (some 35) (P_extract rfl rfl rfl) ?_
      refine At.p (some 7) (P_assign rfl rfl) ?_
      refine At.p (some 8) (P_assign rfl rfl) ?_
      refine At.nil ?_
      refine At.next ?_
      refine At.seq ?_
      refine At.region ?_
      refine At.p (some 36) (P_move rfl rfl) ?_
      refine At.p (some 37) (P_cmp rfl rfl rfl rfl rfl rfl) ?_
      refine At.p (some 38) (P_move rfl rfl) ?_
      refine At.gy (t := 38) rfl rfl rfl rfl ?_
      refine At.p (some 39) (P_move rfl rfl) ?_
      refine At.gy (t := 38) rfl rfl rfl rfl ?_
      refine At.p (some 40) (P_cmp rfl rfl rfl rfl rfl rfl) ?_
      refine At.p (some 41) (P_pick_t rfl rfl rfl rfl) ?_
      refine At.p (some 42) (P_move rfl rfl) ?_
      refine At.gy (t := 42) rfl rfl rfl rfl ?_
      refine At.p (some 43) (P_move rfl rfl) ?_
      refine At.p (some 44) (P_pick_t rfl rfl rfl rfl) ?_
      refine At.p (some 45) (P_move rfl rfl) ?_
      refine At.gy (t := 45) rfl dT2_off rfl rfl ?_
      refine At.p (some 46) (P_move rfl rfl) ?_
      refine At.gy (t := 45) rfl dT2_off rfl rfl ?_
      refine At.p (some 47) (P_cmp rfl rfl rfl rfl rfl rfl) ?_
      refine At.p (some 48) (P_pick_t rfl rfl dT2_off rfl) ?_
      refine At.p (some 49) (P_move rfl rfl) ?_
      refine At.gy (t := 49) rfl rfl rfl rfl ?_
      refine At.p (some 50) (P_move rfl rfl) ?_
      refine At.gy (t := 49) rfl rfl rfl rfl ?_
      refine At.p (some 51) (P_len_sl rfl rfl ⟨_, Try.underlying27⟩ rfl) ?_
      refine At.gy (t := 49) rfl rfl rfl rfl ?_
      refine At.p (some 52) (P_cmp rfl rfl rfl rfl rfl rfl) ?_
      refine At.p (some 53) (P_pick_t rfl rfl rfl rfl) ?_
      refine At.p (some 54) (P_move rfl rfl) ?_
      refine At.gy (t := 54) rfl (by rw [secT_len]; rfl) rfl rfl ?_
      refine At.p (some 55) (P_move rfl rfl) ?_
      refine At.gy (t := 54) rfl (by rw [secT_len]; rfl) rfl rfl ?_
      refine At.p (some 56) (P_indexAddr_sl1 (j := 9) rfl Try.underlying27 sz5 rfl (g3 (Nat.lt_of_lt_of_le (by rw [secT_len]; decide) g4)) rfl rfl (by rw [secT_len]; decide)) ?_
      refine At.gy (t := 54) rfl (by rw [secT_len]; rfl) rfl rfl ?_
      refine At.q (some 57) (Q_loadR (k := 3) (j := 9) (0#8) rfl rfl Try.underlying5 rfl rfl rfl (by rw [secT_len]; decide)) ?_
      refine At.gy (t := 54) rfl (by rw [secT_len]; rfl) rfl rfl ?_
      refine At.p (some 58) (P_eql_w (n := 8) (b := 255#8) rfl rfl rfl) ?_
      refine At.p (some 59) (P_pick_t rfl rfl (by rw [secT_len]; rfl) rfl) ?_
      refine At.p (some 60) (P_move rfl rfl) ?_
      refine At.gy (t := 60) rfl secT_9 rfl rfl ?_
      refine At.p (some 61) (P_move rfl rfl) ?_
      refine At.gy (t := 60) rfl secT_9 rfl rfl ?_
      refine At.p (some 62) (P_indexAddr_sl1 (j := 10) rfl Try.underlying27 sz5 rfl (g3 (Nat.lt_of_lt_of_le (by rw [secT_len]; decide) g4)) rfl rfl (by rw [secT_len]; decide)) ?_
      refine At.gy (t := 60) rfl secT_9 rfl rfl ?_
      refine At.q (some 63) (Q_loadR (k := 3) (j := 10) (0#8) rfl rfl Try.underlying5 rfl rfl rfl (by rw [secT_len]; decide)) ?_
      refine At.gy (t := 60) rfl secT_9 rfl rfl ?_
      refine At.p (some 64) (P_eql_w (n := 8) (b := 0#8) rfl rfl rfl) ?_
      refine At.p (some 65) (P_pick_t rfl rfl secT_9 rfl) ?_
      refine At.p (some 66) (P_move rfl rfl) ?_
      refine At.gy (t := 66) rfl secT_10 rfl rfl ?_
      refine At.p (some 67) (P_move rfl rfl) ?_
      refine At.gy (t := 66) rfl secT_10 rfl rfl ?_
      refine At.s (S_callV (some 68) [(0, _)] [] (vs := [_]) rfl en15 rfl (VN (by simp) rfl View.all V0) (by simp) (c_Writes dT2.up _ _ _) (by rintro _ _ ⟨rfl, rfl⟩; rfl) ?_)
      rintro _ _ ⟨rfl, rfl⟩
      refine At.gy (t := 66) rfl secT_10 rfl rfl ?_
      refine At.p (some 69) (P_cmp rfl rfl rfl rfl rfl rfl) ?_
      refine At.p (some 70) (P_pick_t rfl rfl secT_10 rfl) ?_
      refine At.p (some 0) (P_assign rfl rfl) ?_
      refine At.nil ?_
      refine At.next ?_
      refine At.ret ?_
      refine At.give (.inl rfl) [] (rows' := []) (vs := [_]) rfl ⟨rfl, trivial⟩ rfl (by simp) (by simp) ⟨congrArg Value.bool dT2_wr, rfl⟩

theorem neq_ok {k K : Nat} {e : Int} (h0 : k < K → e = 0) (h6 : ¬ k < K → e = 6) : (!((e == 0) == decide ((k : Int) < (K : Int)))) = false := by
  by_cases h : k < K
  · have := h0 h; subst this; simp [h]
  · have := h6 h; subst this; simp [h]
theorem neq_ok2 {k K : Nat} {e : Int} (h0 : k < K → e = 0) (h6 : ¬ k < K → e = 6) (g : (e != 0) = true) (g' : (e != 6) = true) : False := by
  by_cases h : k < K
  · have := h0 h; subst this; cases g
  · have := h6 h; subst this; cases g'

theorem want25 {K T k nn : Nat} (hk : k < 25) (h1 : k = K → nn = T) (h2 : K < k → nn = 0) (h3 : k < K → nn = 64) : want K T 25 k = fullB.take nn ++ List.replicate (64 - nn) 0#8 := by
  unfold want
  rcases Nat.lt_trichotomy k K with h | h | h
  · rw [if_pos (by omega), h3 h, List.take_of_length_le (by rw [fullB_length]; decide)]; simp
  · rw [if_neg (by omega), if_pos (by omega), h1 h]; rfl
  · rw [if_neg (by omega), if_neg (by omega), h2 h]; simp [zeros]

theorem c_law (i j : Int) (refused : Bool) :
    Con Try.prog 3 [iV i, iV j, .bool refused] [] (fun v rs => v = .bool true ∧ rs = []) := by
  refine Con.enter Try.func3 Try.ntmps3 (Nat.le_of_ble_eq_true rfl) rfl fun w => ?_
  refine At.seq ?_
  refine At.region ?_
  refine At.p (some 6) (P_assign rfl rfl) ?_
  refine At.nil ?_
  refine At.next ?_
  refine At.seq ?_
  obtain ⟨K, hK, hKe⟩ := umod_nat (BitVec.ofInt 64 i) 20#64 (by decide) (by decide)
  obtain ⟨T, hT, hTe⟩ := umod_nat (BitVec.ofInt 64 j) 65#64 (by decide) (by decide)
  have hK : K < 20 := hK
  have hT : T ≤ 64 := Nat.le_of_lt_succ hT
  refine At.region ?_
  refine At.p (some 19) (P_move rfl rfl) ?_
  refine At.p (some 20) (P_conv_iw UK.u64 rfl Try.underlying3 Try.underlying22 rfl) ?_
  refine At.p (some 21) (P_rem_w UK.u64 (b := 20#64) rfl rfl rfl (by decide)) ?_
  refine At.p (some 22) (P_conv_WiE hKe rfl Try.underlying22 Try.underlying3 rfl) ?_
  refine At.p (some 23) (P_move rfl rfl) ?_
  refine At.p (some 24) (P_conv_iw UK.u64 rfl Try.underlying3 Try.underlying22 rfl) ?_
  refine At.p (some 25) (P_rem_w UK.u64 (b := 65#64) rfl rfl rfl (by decide)) ?_
  refine At.p (some 26) (P_conv_WiE hTe rfl Try.underlying22 Try.underlying3 rfl) ?_
  refine At.p (some 7) (P_assign rfl rfl) ?_
  refine At.p (some 8) (P_assign rfl rfl) ?_
  refine At.nil ?_
  refine At.next ?_
  refine At.seq ?_
  refine At.region ?_
  refine At.s (S_callV (some 28) [] [0, 1] (vs := [_]) rfl en9 rfl V0 (by simp) (c_New 30 (by decide) (by decide)) (by rintro _ _ ⟨b0, b1, rfl, rfl⟩; rfl) ?_)
  rintro _ _ ⟨b0, b1, rfl, rfl⟩
  refine At.p (some 27) (P_move rfl rfl) ?_
  refine At.p (some 29) (P_extract rfl rfl rfl) ?_
  refine At.p (some 30) (P_extract rfl rfl rfl) ?_
  refine At.p (some 9) (P_assign rfl rfl) ?_
  refine At.p (some 10) (P_assign rfl rfl) ?_
  refine At.nil ?_
  refine At.next ?_
  refine At.seq ?_
  refine At.region ?_
  refine At.s (S_makeN (some 31) 2 (n := 64) (cs := (List.replicate (64) 0#8).map u8V) rfl Try.underlying27 sz5 by5 ze5 rfl rfl (by omega) (by omega) (by omega) (by omega) ((made_one (n := 64) (by omega)).trans (by rw [List.map_replicate]; rfl)) (fun b2 => ?_))
  refine At.p (some 11) (P_assign rfl rfl) ?_
  refine At.nil ?_
  refine At.next ?_
  refine At.seq ?_
  refine At.seq ?_
  refine At.region ?_
  refine At.p (some 12) (P_assign rfl rfl) ?_
  refine At.nil ?_
  refine At.next ?_
  refine At.block ?_
  refine At.loopx (I := fun m fr H => ∃ k, m = 64 - k ∧ fr = frOf [(2, .bool refused), (7, iV (K : Int)), (8, iV (T : Int)), (9, ptr b0 0), (10, iV 0), (11, .slice (some ⟨b2, 0, none⟩) 64 64), (12, iV (k : Int))] ∧ H = hOf [(0, (DM.new 30).row true b0 b1 30), (1, rowS true b1 (DM.new 30).S 0), (2, rowB b2 (fillB k))] ∧ k ≤ 64) ?_ ?_
  · intro Kc hKc
    refine At.to [(2, _), (7, _), (8, _), (9, _), (10, _), (11, _), (12, _)] [(0, _), (1, _), (2, _)] (AllL.cons_ (rfl) (AllL.cons_ (rfl) (AllL.cons_ (rfl) (AllL.cons_ (rfl) (AllL.cons_ (rfl) (AllL.cons_ (rfl) (AllL.cons_ (rfl) trivial))))))) (AllL.cons_ (rfl) (AllL.cons_ (rfl) (AllL.cons_ (rfl) trivial))) ?_
    exact hKc _ _ _ ⟨0, rfl, rfl, rfl, by omega⟩
  · rintro m fr H ⟨k, rfl, rfl, rfl, hk⟩ Kc hKc
    refine At.seq ?_
    refine At.seq ?_
    refine At.region ?_
    refine At.p (some 32) (P_move rfl rfl) ?_
    refine At.p (some 33) (P_cmp rfl rfl rfl rfl rfl rfl) ?_
    refine At.nil ?_
    refine At.next ?_
    refine At.cond rfl (fun h33 => ?_) (fun h33 => ?_)
    · -- cond 33 t
      have hlt : k < 64 := by simp at h33; omega
      refine At.skip ?_
      refine At.next ?_
      refine At.seq ?_
      refine At.block ?_
      refine At.region ?_
      refine At.p (some 36) (P_move rfl rfl) ?_
      refine At.p (some 37) (P_move rfl rfl) ?_
      refine At.p (some 38) (P_move rfl rfl) ?_
      refine At.p (some 39) (P_add_i rfl rfl rfl (by omega)) ?_
      refine At.p (some 40) (P_conv_iw UK.u8 rfl Try.underlying3 Try.underlying5 rfl) ?_
      refine At.p (some 41) (P_indexAddr_slz rfl Try.underlying27 sz5 rfl rfl rfl rfl (by omega)) ?_
      refine At.s (S_storeM none (f := u8V) (k := 2) rfl rfl rfl sz5 rfl rfl rfl (by rw [fillB_length (by omega)]; exact hlt) ?_)
      refine At.nil ?_
      refine At.inb_n ?_
      refine At.next ?_
      refine At.region ?_
      refine At.p (some 34) (P_move rfl rfl) ?_
      refine At.p (some 35) (P_add_i rfl rfl rfl (by omega)) ?_
      refine At.p (some 12) (P_assign rfl rfl) ?_
      refine At.nil ?_
      refine At.next ?_
      refine At.to [(2, _), (7, _), (8, _), (9, _), (10, _), (11, _), (12, _)] [(0, _), (1, _), (2, rowB b2 (fillB (k + 1)))] (AllL.cons_ (rfl) (AllL.cons_ (rfl) (AllL.cons_ (rfl) (AllL.cons_ (rfl) (AllL.cons_ (rfl) (AllL.cons_ (rfl) (AllL.cons_ (rfl) trivial))))))) (AllL.cons_ (rfl) (AllL.cons_ (rfl) (AllL.cons_ (congrArg (fun l => some (rowB b2 l)) (fillB_set (by omega))) trivial))) ?_
      exact hKc _ _ _ (by omega) ⟨k + 1, rfl, rfl, rfl, by omega⟩
    · -- cond 33 f
      obtain rfl : k = 64 := by simp at h33; omega
      refine At.exit ?_
      refine At.thn_e ?_
      refine At.thn_e ?_
      refine At.inb_hit ?_
      refine At.next ?_
      refine At.seq ?_
      refine At.region ?_
      refine At.p (some 42) (P_move rfl rfl) ?_
      refine At.p (some 43) (P_move rfl rfl) ?_
      refine At.p (some 44) (P_move rfl rfl) ?_
      refine At.s (S_callR (some 45) [(0, _), (1, _)] [] [0, 1] (vs := [_, _, _]) rfl en10 rfl (ON rfl rfl (ON rfl rfl O0)) (by simp) V0 (by simp) (c_Fail (DM.new 30) _ _ _ _ (K : Int) (T : Int)) (by rintro _ _ ⟨rfl, rfl⟩; rfl) ?_)
      rintro _ _ ⟨rfl, rfl⟩
      refine At.nil ?_
      refine At.next ?_
      refine At.seq ?_
      refine At.seq ?_
      refine At.region ?_
      refine At.p (some 13) (P_assign rfl rfl) ?_
      refine At.nil ?_
      refine At.next ?_
      refine At.block ?_
      refine At.loopx (I := fun m fr H => ∃ k, m = 25 - k ∧ fr = frOf [(2, .bool refused), (7, iV (K : Int)), (8, iV (T : Int)), (9, ptr b0 0), (10, iV 0), (11, .slice (some ⟨b2, 0, none⟩) 64 64), (13, iV (k : Int))] ∧ H = hOf [(0, (DD K T k).row true b0 b1 30), (1, rowS true b1 (DD K T k).S 0), (2, rowB b2 fullB)] ∧ k ≤ 25) ?_ ?_
      · intro Kc hKc
        refine At.to [(2, _), (7, _), (8, _), (9, _), (10, _), (11, _), (13, _)] [(0, _), (1, _), (2, _)] (AllL.cons_ (rfl) (AllL.cons_ (rfl) (AllL.cons_ (rfl) (AllL.cons_ (rfl) (AllL.cons_ (rfl) (AllL.cons_ (rfl) (AllL.cons_ (rfl) trivial))))))) (AllL.cons_ (rfl) (AllL.cons_ (rfl) (AllL.cons_ (rfl) trivial))) ?_
        exact hKc _ _ _ ⟨0, rfl, rfl, rfl, by omega⟩
      · rintro m fr H ⟨k, rfl, rfl, rfl, hk⟩ Kc hKc
        have hI := inv_all hK hT k hk
        have hok := hI.ok hK hT hk
        have hn : (DD K T k).n ≤ 30 := by rw [hI.n]; exact Nat.le_refl _
        refine At.seq ?_
        refine At.seq ?_
        refine At.region ?_
        refine At.p (some 46) (P_move rfl rfl) ?_
        refine At.p (some 47) (P_cmp rfl rfl rfl rfl rfl rfl) ?_
        refine At.nil ?_
        refine At.next ?_
        refine At.cond rfl (fun h47 => ?_) (fun h47 => ?_)
        · -- cond 47 t
          have hlt : k < 25 := by simp at h47; omega
          refine At.skip ?_
          refine At.next ?_
          refine At.seq ?_
          refine At.block ?_
          refine At.seq ?_
          refine At.seq ?_
          refine At.region ?_
          refine At.p (some 50) (P_move rfl rfl) ?_
          refine At.p (some 51) (P_move rfl rfl) ?_
          refine At.gsplit (t := 51) (want := true) rfl (fun g1 => ?_) (fun g1 => ?_)
          ·
            refine At.gy (t := 51) rfl g1 rfl rfl ?_
            refine At.p (some 52) (P_move rfl rfl) ?_
            refine At.gy (t := 51) rfl g1 rfl rfl ?_
            refine At.p (some 53) (P_move rfl rfl) ?_
            refine At.gy (t := 51) rfl g1 rfl rfl ?_
            obtain ⟨e9, h9, h9n⟩ := dd_refused hK hT hk 99 fullB (.inl (by omega))
            refine At.s (S_callR (some 54) [(0, _), (1, _)] [(2, _)] [0, 1] (vs := [_, _, _]) rfl en11 rfl (ON rfl rfl (ON rfl rfl O0)) (by simp) (VN (by simp) rfl View.all V0) (by simp) (c_WriteE (l := fullB) hok _ _ 30 _ hn (fun _ => rfl) h9) (by rintro _ _ ⟨rfl, rfl⟩; rfl) ?_)
            rintro _ _ ⟨rfl, rfl⟩
            refine At.gy (t := 51) rfl g1 rfl rfl ?_
            refine At.p (some 55) (P_cmp rfl rfl rfl rfl rfl rfl) ?_
            refine At.gy (t := 51) rfl g1 rfl rfl ?_
            refine At.p (some 56) (P_move rfl rfl) ?_
            refine At.gy (t := 56) rfl (by simpa using h9n) rfl rfl ?_
            refine At.p (some 57) (P_move rfl rfl) ?_
            refine At.gy (t := 56) rfl (by simpa using h9n) rfl rfl ?_
            refine At.p (some 58) (P_move rfl rfl) ?_
            refine At.gy (t := 56) rfl (by simpa using h9n) rfl rfl ?_
            refine At.p (some 59) (P_slice_sl (h := 5) rfl Try.underlying27 sz5 rfl rfl ⟨_, _, rfl, rfl⟩ rfl (by omega) (by omega) (by omega)) ?_
            refine At.gy (t := 56) rfl (by simpa using h9n) rfl rfl ?_
            obtain ⟨e5, h5, h5n⟩ := dd_refused hK hT hk 0 (fullB.take 5) (.inr (by simp [fullB_length]))
            refine At.s (S_callR (some 60) [(0, _), (1, _)] [(2, _)] [0, 1] (vs := [_, _, _]) rfl en11 rfl (ON rfl rfl (ON rfl rfl O0)) (by simp) (VN (by simp) rfl (View.sub (j := 0) (m := 5) rfl rfl) V0) (by simp) (c_WriteE (l := fullB.take 5) hok _ _ 30 _ hn (fun _ => cut_zero rfl) h5) (by rintro _ _ ⟨rfl, rfl⟩; rfl) ?_)
            rintro _ _ ⟨rfl, rfl⟩
            refine At.gy (t := 56) rfl (by simpa using h9n) rfl rfl ?_
            refine At.p (some 61) (P_cmp rfl rfl rfl rfl rfl rfl) ?_
            refine At.gy (t := 51) rfl g1 rfl rfl ?_
            refine At.p (some 62) (P_pick_f rfl rfl (by simpa using h9n) rfl) ?_
            refine At.p (some 63) (P_pick_t rfl rfl g1 rfl) ?_
            refine At.nil ?_
            refine At.next ?_
            refine At.cond rfl (fun h63 => by first | (cases h63; done) | (simp [h5n] at h63)) (fun h63 => ?_)
            refine At.skip ?_
            refine At.next ?_
            refine At.seq ?_
            refine At.region ?_
            refine At.p (some 64) (P_move rfl rfl) ?_
            refine At.p (some 65) (P_move rfl rfl) ?_
            refine At.p (some 66) (P_move rfl rfl) ?_
            obtain ⟨e, he, he0, he6⟩ := dd_write hK hT (i := k) hlt
            refine At.s (S_callR (some 67) [(0, _), (1, _)] [(2, _)] [0, 1] (vs := [_, _, _]) rfl en11 rfl (ON rfl rfl (ON rfl rfl O0)) (by simp) (VN (by simp) rfl View.all V0) (by simp) (c_WriteE (l := fullB) hok _ _ 30 _ hn (fun _ => rfl) he) (by rintro _ _ ⟨rfl, rfl⟩; rfl) ?_)
            rintro _ _ ⟨rfl, rfl⟩
            refine At.p (some 14) (P_assign rfl rfl) ?_
            refine At.nil ?_
            refine At.next ?_
            refine At.seq ?_
            have hx := neq_ok he0 he6
            refine At.region ?_
            refine At.p (some 68) (P_move rfl rfl) ?_
            refine At.p (some 69) (P_cmp rfl rfl rfl rfl rfl rfl) ?_
            refine At.p (some 70) (P_move rfl rfl) ?_
            refine At.p (some 71) (P_move rfl rfl) ?_
            refine At.p (some 72) (P_cmp rfl rfl rfl rfl rfl rfl) ?_
            refine At.p (some 73) (P_neq_bool rfl Try.underlying4 rfl rfl) ?_
            refine At.p (some 74) (P_move rfl rfl) ?_
            refine At.gy (t := 74) rfl hx rfl rfl ?_
            refine At.p (some 75) (P_move rfl rfl) ?_
            refine At.gy (t := 74) rfl hx rfl rfl ?_
            refine At.p (some 76) (P_cmp rfl rfl rfl rfl rfl rfl) ?_
            refine At.gy (t := 74) rfl hx rfl rfl ?_
            refine At.p (some 77) (P_move rfl rfl) ?_
            refine At.gsplit (t := 77) (want := true) rfl (fun g2 => ?_) (fun g2 => ?_)
            ·
              refine At.gy (t := 77) rfl g2 rfl rfl ?_
              refine At.p (some 78) (P_move rfl rfl) ?_
              refine At.gy (t := 77) rfl g2 rfl rfl ?_
              refine At.p (some 79) (P_cmp rfl rfl rfl rfl rfl rfl) ?_
              refine At.gy (t := 74) rfl hx rfl rfl ?_
              refine At.p (some 80) (P_pick_t rfl rfl g2 rfl) ?_
              refine At.p (some 81) (P_pick_f rfl rfl hx rfl) ?_
              refine At.nil ?_
              refine At.next ?_
              refine At.cond rfl (fun h81 => by first | (cases h81; done) | exact (neq_ok2 he0 he6 (by assumption) h81).elim) (fun h81 => ?_)
              refine At.skip ?_
              refine At.inb_n ?_
              refine At.next ?_
              refine At.region ?_
              refine At.p (some 48) (P_move rfl rfl) ?_
              refine At.p (some 49) (P_add_i rfl rfl rfl (by omega)) ?_
              refine At.p (some 13) (P_assign rfl rfl) ?_
              refine At.nil ?_
              refine At.next ?_
              refine At.to [(2, _), (7, _), (8, _), (9, _), (10, _), (11, _), (13, _)] [(0, _), (1, _), (2, _)] (AllL.cons_ (rfl) (AllL.cons_ (rfl) (AllL.cons_ (rfl) (AllL.cons_ (rfl) (AllL.cons_ (rfl) (AllL.cons_ (rfl) (AllL.cons_ (rfl) trivial))))))) (AllL.cons_ (rfl) (AllL.cons_ (rfl) (AllL.cons_ (rfl) trivial))) ?_
              exact hKc _ _ _ (by omega) ⟨k + 1, rfl, rfl, rfl, by omega⟩
            ·
              refine At.gn (some 78) (t := 77) rfl g2 rfl rfl ?_
              refine At.gn (some 79) (t := 77) rfl g2 rfl rfl ?_
              refine At.gy (t := 74) rfl hx rfl rfl ?_
              refine At.p (some 80) (P_pick_f rfl rfl g2 rfl) ?_
              refine At.p (some 81) (P_pick_f rfl rfl hx rfl) ?_
              refine At.nil ?_
              refine At.next ?_
              refine At.cond rfl (fun h81 => by first | (cases h81; done) | exact (neq_ok2 he0 he6 (by assumption) h81).elim) (fun h81 => ?_)
              refine At.skip ?_
              refine At.inb_n ?_
              refine At.next ?_
              refine At.region ?_
              refine At.p (some 48) (P_move rfl rfl) ?_
              refine At.p (some 49) (P_add_i rfl rfl rfl (by omega)) ?_
              refine At.p (some 13) (P_assign rfl rfl) ?_
              refine At.nil ?_
              refine At.next ?_
              refine At.to [(2, _), (7, _), (8, _), (9, _), (10, _), (11, _), (13, _)] [(0, _), (1, _), (2, _)] (AllL.cons_ (rfl) (AllL.cons_ (rfl) (AllL.cons_ (rfl) (AllL.cons_ (rfl) (AllL.cons_ (rfl) (AllL.cons_ (rfl) (AllL.cons_ (rfl) trivial))))))) (AllL.cons_ (rfl) (AllL.cons_ (rfl) (AllL.cons_ (rfl) trivial))) ?_
              exact hKc _ _ _ (by omega) ⟨k + 1, rfl, rfl, rfl, by omega⟩
          ·
            refine At.gn (some 52) (t := 51) rfl g1 rfl rfl ?_
            refine At.gn (some 53) (t := 51) rfl g1 rfl rfl ?_
            refine At.gn (some 54) (t := 51) rfl g1 rfl rfl ?_
            refine At.gn (some 55) (t := 51) rfl g1 rfl rfl ?_
            refine At.gn (some 56) (t := 51) rfl g1 rfl rfl ?_
            refine At.gu (some 57) (t := 56) rfl rfl rfl ?_
            refine At.gu (some 58) (t := 56) rfl rfl rfl ?_
            refine At.gu (some 59) (t := 56) rfl rfl rfl ?_
            refine At.gu (some 60) (t := 56) rfl rfl rfl ?_
            refine At.gu (some 61) (t := 56) rfl rfl rfl ?_
            refine At.gn (some 62) (t := 51) rfl g1 rfl rfl ?_
            refine At.p (some 63) (P_pick_f rfl rfl g1 rfl) ?_
            refine At.nil ?_
            refine At.next ?_
            refine At.cond rfl (fun h63 => by first | (cases h63; done) | (simp [h5n] at h63)) (fun h63 => ?_)
            refine At.skip ?_
            refine At.next ?_
            refine At.seq ?_
            refine At.region ?_
            refine At.p (some 64) (P_move rfl rfl) ?_
            refine At.p (some 65) (P_move rfl rfl) ?_
            refine At.p (some 66) (P_move rfl rfl) ?_
            obtain ⟨e, he, he0, he6⟩ := dd_write hK hT (i := k) hlt
            refine At.s (S_callR (some 67) [(0, _), (1, _)] [(2, _)] [0, 1] (vs := [_, _, _]) rfl en11 rfl (ON rfl rfl (ON rfl rfl O0)) (by simp) (VN (by simp) rfl View.all V0) (by simp) (c_WriteE (l := fullB) hok _ _ 30 _ hn (fun _ => rfl) he) (by rintro _ _ ⟨rfl, rfl⟩; rfl) ?_)
            rintro _ _ ⟨rfl, rfl⟩
            refine At.p (some 14) (P_assign rfl rfl) ?_
            refine At.nil ?_
            refine At.next ?_
            refine At.seq ?_
            have hx := neq_ok he0 he6
            refine At.region ?_
            refine At.p (some 68) (P_move rfl rfl) ?_
            refine At.p (some 69) (P_cmp rfl rfl rfl rfl rfl rfl) ?_
            refine At.p (some 70) (P_move rfl rfl) ?_
            refine At.p (some 71) (P_move rfl rfl) ?_
            refine At.p (some 72) (P_cmp rfl rfl rfl rfl rfl rfl) ?_
            refine At.p (some 73) (P_neq_bool rfl Try.underlying4 rfl rfl) ?_
            refine At.p (some 74) (P_move rfl rfl) ?_
            refine At.gy (t := 74) rfl hx rfl rfl ?_
            refine At.p (some 75) (P_move rfl rfl) ?_
            refine At.gy (t := 74) rfl hx rfl rfl ?_
            refine At.p (some 76) (P_cmp rfl rfl rfl rfl rfl rfl) ?_
            refine At.gy (t := 74) rfl hx rfl rfl ?_
            refine At.p (some 77) (P_move rfl rfl) ?_
            refine At.gsplit (t := 77) (want := true) rfl (fun g3 => ?_) (fun g3 => ?_)
            ·
              refine At.gy (t := 77) rfl g3 rfl rfl ?_
              refine At.p (some 78) (P_move rfl rfl) ?_
              refine At.gy (t := 77) rfl g3 rfl rfl ?_
              refine At.p (some 79) (P_cmp rfl rfl rfl rfl rfl rfl) ?_
              refine At.gy (t := 74) rfl hx rfl rfl ?_
              refine At.p (some 80) (P_pick_t rfl rfl g3 rfl) ?_
              refine At.p (some 81) (P_pick_f rfl rfl hx rfl) ?_
              refine At.nil ?_
              refine At.next ?_
              refine At.cond rfl (fun h81 => by first | (cases h81; done) | exact (neq_ok2 he0 he6 (by assumption) h81).elim) (fun h81 => ?_)
              refine At.skip ?_
              refine At.inb_n ?_
              refine At.next ?_
              refine At.region ?_
              refine At.p (some 48) (P_move rfl rfl) ?_
              refine At.p (some 49) (P_add_i rfl rfl rfl (by omega)) ?_
              refine At.p (some 13) (P_assign rfl rfl) ?_
              refine At.nil ?_
              refine At.next ?_
              refine At.to [(2, _), (7, _), (8, _), (9, _), (10, _), (11, _), (13, _)] [(0, _), (1, _), (2, _)] (AllL.cons_ (rfl) (AllL.cons_ (rfl) (AllL.cons_ (rfl) (AllL.cons_ (rfl) (AllL.cons_ (rfl) (AllL.cons_ (rfl) (AllL.cons_ (rfl) trivial))))))) (AllL.cons_ (rfl) (AllL.cons_ (rfl) (AllL.cons_ (rfl) trivial))) ?_
              exact hKc _ _ _ (by omega) ⟨k + 1, rfl, rfl, rfl, by omega⟩
            ·
              refine At.gn (some 78) (t := 77) rfl g3 rfl rfl ?_
              refine At.gn (some 79) (t := 77) rfl g3 rfl rfl ?_
              refine At.gy (t := 74) rfl hx rfl rfl ?_
              refine At.p (some 80) (P_pick_f rfl rfl g3 rfl) ?_
              refine At.p (some 81) (P_pick_f rfl rfl hx rfl) ?_
              refine At.nil ?_
              refine At.next ?_
              refine At.cond rfl (fun h81 => by first | (cases h81; done) | exact (neq_ok2 he0 he6 (by assumption) h81).elim) (fun h81 => ?_)
              refine At.skip ?_
              refine At.inb_n ?_
              refine At.next ?_
              refine At.region ?_
              refine At.p (some 48) (P_move rfl rfl) ?_
              refine At.p (some 49) (P_add_i rfl rfl rfl (by omega)) ?_
              refine At.p (some 13) (P_assign rfl rfl) ?_
              refine At.nil ?_
              refine At.next ?_
              refine At.to [(2, _), (7, _), (8, _), (9, _), (10, _), (11, _), (13, _)] [(0, _), (1, _), (2, _)] (AllL.cons_ (rfl) (AllL.cons_ (rfl) (AllL.cons_ (rfl) (AllL.cons_ (rfl) (AllL.cons_ (rfl) (AllL.cons_ (rfl) (AllL.cons_ (rfl) trivial))))))) (AllL.cons_ (rfl) (AllL.cons_ (rfl) (AllL.cons_ (rfl) trivial))) ?_
              exact hKc _ _ _ (by omega) ⟨k + 1, rfl, rfl, rfl, by omega⟩
        · -- cond 47 f
          obtain rfl : k = 25 := by simp at h47; omega
          refine At.exit ?_
          refine At.thn_e ?_
          refine At.thn_e ?_
          refine At.inb_hit ?_
          refine At.next ?_
          refine At.seq ?_
          refine At.region ?_
          refine At.p (some 82) (P_move rfl rfl) ?_
          have hI25 := inv_all hK hT 25 (Nat.le_refl _)
          generalize hd25 : DD K T 25 = d25 at *
          have hok25 := hI25.ok hK hT (Nat.le_refl _)
          have hn25 : d25.up.n ≤ 30 := by show d25.n ≤ 30; rw [hI25.n]; exact Nat.le_refl _
          have hwr25 : d25.wr = (K : Int) + 1 := (hI25.off (by omega)).2.2
          refine At.s (S_callR (some 83) [(0, _), (1, _)] [] [0, 1] (vs := [_]) rfl en12 rfl (ON rfl rfl (ON rfl rfl O0)) (by simp) V0 (by simp) (c_Up d25 _ _ _ _) (by rintro _ _ ⟨rfl, rfl⟩; rfl) ?_)
          rintro _ _ ⟨rfl, rfl⟩
          refine At.nil ?_
          refine At.next ?_
          refine At.seq ?_
          refine At.seq ?_
          refine At.region ?_
          refine At.p (some 15) (P_assign rfl rfl) ?_
          refine At.nil ?_
          refine At.next ?_
          refine At.block ?_
          refine At.loopx (I := fun m fr H => ∃ k, m = 25 - k ∧ fr = frOf [(2, .bool refused), (7, iV (K : Int)), (8, iV (T : Int)), (9, ptr b0 0), (10, iV 0), (11, .slice (some ⟨b2, 0, none⟩) 64 64), (15, iV (k : Int))] ∧ H = hOf [(0, d25.up.row true b0 b1 30), (1, rowS true b1 d25.up.S 0), (2, rowB b2 fullB)] ∧ k ≤ 25) ?_ ?_
          · intro Kc hKc
            refine At.to [(2, _), (7, _), (8, _), (9, _), (10, _), (11, _), (15, _)] [(0, _), (1, _), (2, _)] (AllL.cons_ (rfl) (AllL.cons_ (rfl) (AllL.cons_ (rfl) (AllL.cons_ (rfl) (AllL.cons_ (rfl) (AllL.cons_ (rfl) (AllL.cons_ (rfl) trivial))))))) (AllL.cons_ (rfl) (AllL.cons_ (rfl) (AllL.cons_ (rfl) trivial))) ?_
            exact hKc _ _ _ ⟨0, rfl, rfl, rfl, by omega⟩
          · rintro m fr H ⟨k, rfl, rfl, rfl, hk⟩ Kc hKc
            refine At.seq ?_
            refine At.seq ?_
            refine At.region ?_
            refine At.p (some 84) (P_move rfl rfl) ?_
            refine At.p (some 85) (P_cmp rfl rfl rfl rfl rfl rfl) ?_
            refine At.nil ?_
            refine At.next ?_
            refine At.cond rfl (fun h85 => ?_) (fun h85 => ?_)
            · -- cond 85 t
              have hlt : k < 25 := by simp at h85; omega
              refine At.skip ?_
              refine At.next ?_
              refine At.seq ?_
              refine At.block ?_
              refine At.seq ?_
              refine At.region ?_
              refine At.p (some 89) (P_move rfl rfl) ?_
              refine At.p (some 90) (P_move rfl rfl) ?_
              refine At.s (S_callV (some 91) [(0, _), (1, _)] [3] (vs := [_, _]) rfl en13 rfl (VN (by simp) rfl View.all (VN (by simp) rfl View.all V0)) (by simp) (c_Read d25.up (DM.up_ok hok25) _ _ 30 0 hn25 k 0 (want K T 25 k) (read_inv hI25 hlt)) (by rintro _ _ ⟨A3, b3, c3, g3, g4, rfl, rfl⟩; rfl) ?_)
              rintro _ _ ⟨A3, b3, c3, g3, g4, rfl, rfl⟩
              refine At.p (some 88) (P_move rfl rfl) ?_
              refine At.p (some 92) (P_extract rfl rfl rfl) ?_
              refine At.p (some 93) (P_extract rfl rfl rfl) ?_
              refine At.p (some 16) (P_assign rfl rfl) ?_
              refine At.p (some 17) (P_assign rfl rfl) ?_
              refine At.nil ?_
              refine At.next ?_
              refine At.seq ?_
              refine At.region ?_
              refine At.p (some 18) (P_assign rfl rfl) ?_
              refine At.nil ?_
              refine At.next ?_
              refine At.seq ?_
              refine At.seq ?_
              refine At.region ?_
              refine At.p (some 94) (P_move rfl rfl) ?_
              refine At.p (some 95) (P_move rfl rfl) ?_
              refine At.p (some 96) (P_cmp rfl rfl rfl rfl rfl rfl) ?_
              refine At.nil ?_
              refine At.next ?_
              refine At.cond rfl (fun h96 => ?_) (fun h96 => ?_)
              · -- cond 96 t
                refine At.region ?_
                refine At.p (some 97) (P_move rfl rfl) ?_
                refine At.p (some 18) (P_assign rfl rfl) ?_
                refine At.nil ?_
                refine At.next ?_
                refine At.seq ?_
                refine At.seq ?_
                refine At.region ?_
                refine At.p (some 98) (P_move rfl rfl) ?_
                refine At.p (some 99) (P_move rfl rfl) ?_
                refine At.p (some 100) (P_cmp rfl rfl rfl rfl rfl rfl) ?_
                refine At.nil ?_
                refine At.next ?_
                refine At.cond rfl (fun h100 => ?_) (fun h100 => ?_)
                · -- cond 100 t
                  refine At.region ?_
                  refine At.p (some 18) (P_assign rfl rfl) ?_
                  refine At.nil ?_
                  refine At.next ?_
                  refine At.seq ?_
                  simp at h96 h100
                  obtain ⟨nn, hn1, hn2, hn3⟩ : ∃ n : Nat, (k = K → n = T) ∧ (K < k → n = 0) ∧ (k < K → n = 64) := ⟨if k = K then T else if K < k then 0 else 64, by intro h; simp [h], by intro h; rw [if_neg (by omega), if_pos h], by intro h; rw [if_neg (by omega), if_neg (by omega)]⟩
                  refine At.draws 14 [] [.q false [0, 1, 2, 3, 4, 5, 6, 7, 8, 9, 10], .e false 11, .q false [12, 13]] (by kernel_rfl) (by kernel_rfl) ?_
                  refine At.wp (some 101) (P_move rfl rfl) ?_
                  refine At.wp (some 102) (P_cmp rfl rfl rfl rfl rfl rfl) ?_
                  refine At.wp (some 103) (P_move rfl rfl) ?_
                  refine At.wgy (some 104) (t := 103) rfl rfl rfl rfl (P_move rfl rfl) ?_
                  refine At.wgyq (some 105) (t := 103) rfl rfl rfl rfl (Q_str (k := 3) (j := 0) rfl Try.underlying27 Try.underlying5 Try.underlying9 rfl (fun h => g3 (by omega)) (fun _ => ⟨rfl, rfl, rfl⟩) (by simp [List.take_of_length_le])) ?_
                  refine At.wgy (some 106) (t := 103) rfl rfl rfl rfl (P_move rfl rfl) ?_
                  refine At.wgy (some 107) (t := 103) rfl rfl rfl rfl (P_move rfl rfl) ?_
                  refine At.wgy (some 108) (t := 103) rfl rfl rfl rfl (P_slice_sl (h := nn) rfl Try.underlying27 sz5 rfl rfl ⟨_, _, rfl, by omega⟩ rfl (by omega) (by omega) (by omega)) ?_
                  refine At.wgyq (some 109) (t := 103) rfl rfl rfl rfl (Q_strN (l := fullB.take nn) (k := 2) (j := 0) (by simp [fullB_length]; omega) rfl Try.underlying27 Try.underlying5 Try.underlying9 rfl (fun h => cut_zero rfl) (fun _ => ⟨rfl, rfl, rfl⟩) (by simp [rowB, List.map_take])) ?_
                  refine At.wgy (some 110) (t := 103) rfl rfl rfl rfl (P_move rfl rfl) ?_
                  refine At.wgy (some 111) (t := 103) rfl rfl rfl rfl (P_sub_i rfl rfl rfl (by omega)) ?_
                  refine At.wqn ?_
                  refine At.wey (t := 103) rfl rfl rfl rfl ?_
                  refine S_makeN (some 112) 4 (n := 64 - nn) (cs := (List.replicate (64 - nn) 0#8).map u8V) rfl Try.underlying27 sz5 by5 ze5 rfl rfl (by omega) (by omega) (by omega) (by omega) ((made_one (n := 64 - nn) (by omega)).trans (by rw [List.map_replicate]; rfl)) (fun b4 => ?_)
                  refine At.wgyq (some 113) (t := 103) rfl rfl rfl rfl (Q_strN (l := List.replicate (64 - nn) 0#8) (k := 4) (j := 0) (by simp) rfl Try.underlying27 Try.underlying5 Try.underlying9 rfl (fun h => rfl) (fun _ => ⟨rfl, rfl, rfl⟩) (by simp [List.take_of_length_le])) ?_
                  refine At.wgy (some 114) (t := 103) rfl rfl rfl rfl (P_add_str rfl rfl rfl (by rw [List.length_take, List.length_replicate]; omega)) ?_
                  refine At.wqn ?_
                  refine At.wt rfl ?_
                  refine At.gy (t := 103) rfl rfl rfl rfl ?_
                  refine At.p (some 115) (P_neq_str rfl rfl rfl) ?_
                  refine At.p (some 116) (P_pick_f rfl rfl rfl rfl) ?_
                  refine At.nil ?_
                  refine At.next ?_
                  refine At.cond rfl (fun h116 => by simp [want25 (T := T) hlt hn1 hn2 hn3] at h116) (fun h116 => ?_)
                  refine At.skip ?_
                  refine At.inb_n ?_
                  refine At.next ?_
                  refine At.region ?_
                  refine At.p (some 86) (P_move rfl rfl) ?_
                  refine At.p (some 87) (P_add_i rfl rfl rfl (by omega)) ?_
                  refine At.p (some 15) (P_assign rfl rfl) ?_
                  refine At.nil ?_
                  refine At.next ?_
                  refine At.to [(2, _), (7, _), (8, _), (9, _), (10, _), (11, _), (15, _)] [(0, _), (1, _), (2, _)] (AllL.cons_ (rfl) (AllL.cons_ (rfl) (AllL.cons_ (rfl) (AllL.cons_ (rfl) (AllL.cons_ (rfl) (AllL.cons_ (rfl) (AllL.cons_ (rfl) trivial))))))) (AllL.cons_ (rfl) (AllL.cons_ (rfl) (AllL.cons_ (rfl) trivial))) ?_
                  exact hKc _ _ _ (by omega) ⟨k + 1, rfl, rfl, rfl, by omega⟩
                · -- cond 100 f
                  refine At.skip ?_
                  refine At.next ?_
                  refine At.seq ?_
                  simp at h96 h100
                  obtain ⟨nn, hn1, hn2, hn3⟩ : ∃ n : Nat, (k = K → n = T) ∧ (K < k → n = 0) ∧ (k < K → n = 64) := ⟨if k = K then T else if K < k then 0 else 64, by intro h; simp [h], by intro h; rw [if_neg (by omega), if_pos h], by intro h; rw [if_neg (by omega), if_neg (by omega)]⟩
                  refine At.draws 14 [] [.q false [0, 1, 2, 3, 4, 5, 6, 7, 8, 9, 10], .e false 11, .q false [12, 13]] (by kernel_rfl) (by kernel_rfl) ?_
                  refine At.wp (some 101) (P_move rfl rfl) ?_
                  refine At.wp (some 102) (P_cmp rfl rfl rfl rfl rfl rfl) ?_
                  refine At.wp (some 103) (P_move rfl rfl) ?_
                  refine At.wgy (some 104) (t := 103) rfl rfl rfl rfl (P_move rfl rfl) ?_
                  refine At.wgyq (some 105) (t := 103) rfl rfl rfl rfl (Q_str (k := 3) (j := 0) rfl Try.underlying27 Try.underlying5 Try.underlying9 rfl (fun h => g3 (by omega)) (fun _ => ⟨rfl, rfl, rfl⟩) (by simp [List.take_of_length_le])) ?_
                  refine At.wgy (some 106) (t := 103) rfl rfl rfl rfl (P_move rfl rfl) ?_
                  refine At.wgy (some 107) (t := 103) rfl rfl rfl rfl (P_move rfl rfl) ?_
                  refine At.wgy (some 108) (t := 103) rfl rfl rfl rfl (P_slice_sl (h := nn) rfl Try.underlying27 sz5 rfl rfl ⟨_, _, rfl, by omega⟩ rfl (by omega) (by omega) (by omega)) ?_
                  refine At.wgyq (some 109) (t := 103) rfl rfl rfl rfl (Q_strN (l := fullB.take nn) (k := 2) (j := 0) (by simp [fullB_length]; omega) rfl Try.underlying27 Try.underlying5 Try.underlying9 rfl (fun h => cut_zero rfl) (fun _ => ⟨rfl, rfl, rfl⟩) (by simp [rowB, List.map_take])) ?_
                  refine At.wgy (some 110) (t := 103) rfl rfl rfl rfl (P_move rfl rfl) ?_
                  refine At.wgy (some 111) (t := 103) rfl rfl rfl rfl (P_sub_i rfl rfl rfl (by omega)) ?_
                  refine At.wqn ?_
                  refine At.wey (t := 103) rfl rfl rfl rfl ?_
                  refine S_makeN (some 112) 4 (n := 64 - nn) (cs := (List.replicate (64 - nn) 0#8).map u8V) rfl Try.underlying27 sz5 by5 ze5 rfl rfl (by omega) (by omega) (by omega) (by omega) ((made_one (n := 64 - nn) (by omega)).trans (by rw [List.map_replicate]; rfl)) (fun b4 => ?_)
                  refine At.wgyq (some 113) (t := 103) rfl rfl rfl rfl (Q_strN (l := List.replicate (64 - nn) 0#8) (k := 4) (j := 0) (by simp) rfl Try.underlying27 Try.underlying5 Try.underlying9 rfl (fun h => rfl) (fun _ => ⟨rfl, rfl, rfl⟩) (by simp [List.take_of_length_le])) ?_
                  refine At.wgy (some 114) (t := 103) rfl rfl rfl rfl (P_add_str rfl rfl rfl (by rw [List.length_take, List.length_replicate]; omega)) ?_
                  refine At.wqn ?_
                  refine At.wt rfl ?_
                  refine At.gy (t := 103) rfl rfl rfl rfl ?_
                  refine At.p (some 115) (P_neq_str rfl rfl rfl) ?_
                  refine At.p (some 116) (P_pick_f rfl rfl rfl rfl) ?_
                  refine At.nil ?_
                  refine At.next ?_
                  refine At.cond rfl (fun h116 => by simp [want25 (T := T) hlt hn1 hn2 hn3] at h116) (fun h116 => ?_)
                  refine At.skip ?_
                  refine At.inb_n ?_
                  refine At.next ?_
                  refine At.region ?_
                  refine At.p (some 86) (P_move rfl rfl) ?_
                  refine At.p (some 87) (P_add_i rfl rfl rfl (by omega)) ?_
                  refine At.p (some 15) (P_assign rfl rfl) ?_
                  refine At.nil ?_
                  refine At.next ?_
                  refine At.to [(2, _), (7, _), (8, _), (9, _), (10, _), (11, _), (15, _)] [(0, _), (1, _), (2, _)] (AllL.cons_ (rfl) (AllL.cons_ (rfl) (AllL.cons_ (rfl) (AllL.cons_ (rfl) (AllL.cons_ (rfl) (AllL.cons_ (rfl) (AllL.cons_ (rfl) trivial))))))) (AllL.cons_ (rfl) (AllL.cons_ (rfl) (AllL.cons_ (rfl) trivial))) ?_
                  exact hKc _ _ _ (by omega) ⟨k + 1, rfl, rfl, rfl, by omega⟩
              · -- cond 96 f
                refine At.skip ?_
                refine At.next ?_
                refine At.seq ?_
                refine At.seq ?_
                refine At.region ?_
                refine At.p (some 98) (P_move rfl rfl) ?_
                refine At.p (some 99) (P_move rfl rfl) ?_
                refine At.p (some 100) (P_cmp rfl rfl rfl rfl rfl rfl) ?_
                refine At.nil ?_
                refine At.next ?_
                refine At.cond rfl (fun h100 => ?_) (fun h100 => ?_)
                · -- cond 100 t
                  refine At.region ?_
                  refine At.p (some 18) (P_assign rfl rfl) ?_
                  refine At.nil ?_
                  refine At.next ?_
                  refine At.seq ?_
                  simp at h96 h100
                  obtain ⟨nn, hn1, hn2, hn3⟩ : ∃ n : Nat, (k = K → n = T) ∧ (K < k → n = 0) ∧ (k < K → n = 64) := ⟨if k = K then T else if K < k then 0 else 64, by intro h; simp [h], by intro h; rw [if_neg (by omega), if_pos h], by intro h; rw [if_neg (by omega), if_neg (by omega)]⟩
                  refine At.draws 14 [] [.q false [0, 1, 2, 3, 4, 5, 6, 7, 8, 9, 10], .e false 11, .q false [12, 13]] (by kernel_rfl) (by kernel_rfl) ?_
                  refine At.wp (some 101) (P_move rfl rfl) ?_
                  refine At.wp (some 102) (P_cmp rfl rfl rfl rfl rfl rfl) ?_
                  refine At.wp (some 103) (P_move rfl rfl) ?_
                  refine At.wgy (some 104) (t := 103) rfl rfl rfl rfl (P_move rfl rfl) ?_
                  refine At.wgyq (some 105) (t := 103) rfl rfl rfl rfl (Q_str (k := 3) (j := 0) rfl Try.underlying27 Try.underlying5 Try.underlying9 rfl (fun h => g3 (by omega)) (fun _ => ⟨rfl, rfl, rfl⟩) (by simp [List.take_of_length_le])) ?_
                  refine At.wgy (some 106) (t := 103) rfl rfl rfl rfl (P_move rfl rfl) ?_
                  refine At.wgy (some 107) (t := 103) rfl rfl rfl rfl (P_move rfl rfl) ?_
                  refine At.wgy (some 108) (t := 103) rfl rfl rfl rfl (P_slice_sl (h := nn) rfl Try.underlying27 sz5 rfl rfl ⟨_, _, rfl, by omega⟩ rfl (by omega) (by omega) (by omega)) ?_
                  refine At.wgyq (some 109) (t := 103) rfl rfl rfl rfl (Q_strN (l := fullB.take nn) (k := 2) (j := 0) (by simp [fullB_length]; omega) rfl Try.underlying27 Try.underlying5 Try.underlying9 rfl (fun h => cut_zero rfl) (fun _ => ⟨rfl, rfl, rfl⟩) (by simp [rowB, List.map_take])) ?_
                  refine At.wgy (some 110) (t := 103) rfl rfl rfl rfl (P_move rfl rfl) ?_
                  refine At.wgy (some 111) (t := 103) rfl rfl rfl rfl (P_sub_i rfl rfl rfl (by omega)) ?_
                  refine At.wqn ?_
                  refine At.wey (t := 103) rfl rfl rfl rfl ?_
                  refine S_makeN (some 112) 4 (n := 64 - nn) (cs := (List.replicate (64 - nn) 0#8).map u8V) rfl Try.underlying27 sz5 by5 ze5 rfl rfl (by omega) (by omega) (by omega) (by omega) ((made_one (n := 64 - nn) (by omega)).trans (by rw [List.map_replicate]; rfl)) (fun b4 => ?_)
                  refine At.wgyq (some 113) (t := 103) rfl rfl rfl rfl (Q_strN (l := List.replicate (64 - nn) 0#8) (k := 4) (j := 0) (by simp) rfl Try.underlying27 Try.underlying5 Try.underlying9 rfl (fun h => rfl) (fun _ => ⟨rfl, rfl, rfl⟩) (by simp [List.take_of_length_le])) ?_
                  refine At.wgy (some 114) (t := 103) rfl rfl rfl rfl (P_add_str rfl rfl rfl (by rw [List.length_take, List.length_replicate]; omega)) ?_
                  refine At.wqn ?_
                  refine At.wt rfl ?_
                  refine At.gy (t := 103) rfl rfl rfl rfl ?_
                  refine At.p (some 115) (P_neq_str rfl rfl rfl) ?_
                  refine At.p (some 116) (P_pick_f rfl rfl rfl rfl) ?_
                  refine At.nil ?_
                  refine At.next ?_
                  refine At.cond rfl (fun h116 => by simp [want25 (T := T) hlt hn1 hn2 hn3] at h116) (fun h116 => ?_)
                  refine At.skip ?_
                  refine At.inb_n ?_
                  refine At.next ?_
                  refine At.region ?_
                  refine At.p (some 86) (P_move rfl rfl) ?_
                  refine At.p (some 87) (P_add_i rfl rfl rfl (by omega)) ?_
                  refine At.p (some 15) (P_assign rfl rfl) ?_
                  refine At.nil ?_
                  refine At.next ?_
                  refine At.to [(2, _), (7, _), (8, _), (9, _), (10, _), (11, _), (15, _)] [(0, _), (1, _), (2, _)] (AllL.cons_ (rfl) (AllL.cons_ (rfl) (AllL.cons_ (rfl) (AllL.cons_ (rfl) (AllL.cons_ (rfl) (AllL.cons_ (rfl) (AllL.cons_ (rfl) trivial))))))) (AllL.cons_ (rfl) (AllL.cons_ (rfl) (AllL.cons_ (rfl) trivial))) ?_
                  exact hKc _ _ _ (by omega) ⟨k + 1, rfl, rfl, rfl, by omega⟩
                · -- cond 100 f
                  refine At.skip ?_
                  refine At.next ?_
                  refine At.seq ?_
                  simp at h96 h100
                  obtain ⟨nn, hn1, hn2, hn3⟩ : ∃ n : Nat, (k = K → n = T) ∧ (K < k → n = 0) ∧ (k < K → n = 64) := ⟨if k = K then T else if K < k then 0 else 64, by intro h; simp [h], by intro h; rw [if_neg (by omega), if_pos h], by intro h; rw [if_neg (by omega), if_neg (by omega)]⟩
                  refine At.draws 14 [] [.q false [0, 1, 2, 3, 4, 5, 6, 7, 8, 9, 10], .e false 11, .q false [12, 13]] (by kernel_rfl) (by kernel_rfl) ?_
                  refine At.wp (some 101) (P_move rfl rfl) ?_
                  refine At.wp (some 102) (P_cmp rfl rfl rfl rfl rfl rfl) ?_
                  refine At.wp (some 103) (P_move rfl rfl) ?_
                  refine At.wgy (some 104) (t := 103) rfl rfl rfl rfl (P_move rfl rfl) ?_
                  refine At.wgyq (some 105) (t := 103) rfl rfl rfl rfl (Q_str (k := 3) (j := 0) rfl Try.underlying27 Try.underlying5 Try.underlying9 rfl (fun h => g3 (by omega)) (fun _ => ⟨rfl, rfl, rfl⟩) (by simp [List.take_of_length_le])) ?_
                  refine At.wgy (some 106) (t := 103) rfl rfl rfl rfl (P_move rfl rfl) ?_
                  refine At.wgy (some 107) (t := 103) rfl rfl rfl rfl (P_move rfl rfl) ?_
                  refine At.wgy (some 108) (t := 103) rfl rfl rfl rfl (P_slice_sl (h := nn) rfl Try.underlying27 sz5 rfl rfl ⟨_, _, rfl, by omega⟩ rfl (by omega) (by omega) (by omega)) ?_
                  refine At.wgyq (some 109) (t := 103) rfl rfl rfl rfl (Q_strN (l := fullB.take nn) (k := 2) (j := 0) (by simp [fullB_length]; omega) rfl Try.underlying27 Try.underlying5 Try.underlying9 rfl (fun h => cut_zero rfl) (fun _ => ⟨rfl, rfl, rfl⟩) (by simp [rowB, List.map_take])) ?_
                  refine At.wgy (some 110) (t := 103) rfl rfl rfl rfl (P_move rfl rfl) ?_
                  refine At.wgy (some 111) (t := 103) rfl rfl rfl rfl (P_sub_i rfl rfl rfl (by omega)) ?_
                  refine At.wqn ?_
                  refine At.wey (t := 103) rfl rfl rfl rfl ?_
                  refine S_makeN (some 112) 4 (n := 64 - nn) (cs := (List.replicate (64 - nn) 0#8).map u8V) rfl Try.underlying27 sz5 by5 ze5 rfl rfl (by omega) (by omega) (by omega) (by omega) ((made_one (n := 64 - nn) (by omega)).trans (by rw [List.map_replicate]; rfl)) (fun b4 => ?_)
                  refine At.wgyq (some 113) (t := 103) rfl rfl rfl rfl (Q_strN (l := List.replicate (64 - nn) 0#8) (k := 4) (j := 0) (by simp) rfl Try.underlying27 Try.underlying5 Try.underlying9 rfl (fun h => rfl) (fun _ => ⟨rfl, rfl, rfl⟩) (by simp [List.take_of_length_le])) ?_
                  refine At.wgy (some 114) (t := 103) rfl rfl rfl rfl (P_add_str rfl rfl rfl (by rw [List.length_take, List.length_replicate]; omega)) ?_
                  refine At.wqn ?_
                  refine At.wt rfl ?_
                  refine At.gy (t := 103) rfl rfl rfl rfl ?_
                  refine At.p (some 115) (P_neq_str rfl rfl rfl) ?_
                  refine At.p (some 116) (P_pick_f rfl rfl rfl rfl) ?_
                  refine At.nil ?_
                  refine At.next ?_
                  refine At.cond rfl (fun h116 => by simp [want25 (T := T) hlt hn1 hn2 hn3] at h116) (fun h116 => ?_)
                  refine At.skip ?_
                  refine At.inb_n ?_
                  refine At.next ?_
                  refine At.region ?_
                  refine At.p (some 86) (P_move rfl rfl) ?_
                  refine At.p (some 87) (P_add_i rfl rfl rfl (by omega)) ?_
                  refine At.p (some 15) (P_assign rfl rfl) ?_
                  refine At.nil ?_
                  refine At.next ?_
                  refine At.to [(2, _), (7, _), (8, _), (9, _), (10, _), (11, _), (15, _)] [(0, _), (1, _), (2, _)] (AllL.cons_ (rfl) (AllL.cons_ (rfl) (AllL.cons_ (rfl) (AllL.cons_ (rfl) (AllL.cons_ (rfl) (AllL.cons_ (rfl) (AllL.cons_ (rfl) trivial))))))) (AllL.cons_ (rfl) (AllL.cons_ (rfl) (AllL.cons_ (rfl) trivial))) ?_
                  exact hKc _ _ _ (by omega) ⟨k + 1, rfl, rfl, rfl, by omega⟩
            · -- cond 85 f
              obtain rfl : k = 25 := by simp at h85; omega
              refine At.exit ?_
              refine At.thn_e ?_
              refine At.thn_e ?_
              refine At.inb_hit ?_
              refine At.next ?_
              refine At.seq ?_
              refine At.region ?_
              refine At.s (S_callV (some 117) [] [] (vs := []) rfl en14 rfl V0 (by simp) (c_tears) (by rintro _ _ ⟨rfl, rfl⟩; rfl) ?_)
              rintro _ _ ⟨rfl, rfl⟩
              refine At.p (some 118) (P_move rfl rfl) ?_
              refine At.gy (t := 118) rfl rfl rfl rfl ?_
              refine At.p (some 119) (P_move rfl rfl) ?_
              refine At.gy (t := 118) rfl rfl rfl rfl ?_
              refine At.p (some 120) (P_cmp rfl rfl rfl rfl rfl rfl) ?_
              refine At.p (some 121) (P_pick_t rfl rfl rfl rfl) ?_
              refine At.p (some 122) (P_move rfl rfl) ?_
              refine At.gy (t := 122) rfl rfl rfl rfl ?_
              refine At.p (some 123) (P_move rfl rfl) ?_
              refine At.gy (t := 122) rfl rfl rfl rfl ?_
              refine At.s (S_callV (some 124) [(0, _)] [] (vs := [_]) rfl en15 rfl (VN (by simp) rfl View.all V0) (by simp) (c_Writes d25.up _ _ _) (by rintro _ _ ⟨rfl, rfl⟩; rfl) ?_)
              rintro _ _ ⟨rfl, rfl⟩
              refine At.gy (t := 122) rfl rfl rfl rfl ?_
              refine At.p (some 125) (P_move rfl rfl) ?_
              refine At.gy (t := 122) rfl rfl rfl rfl ?_
              refine At.p (some 126) (P_add_i rfl rfl rfl (by omega)) ?_
              refine At.gy (t := 122) rfl rfl rfl rfl ?_
              refine At.p (some 127) (P_cmp rfl rfl rfl rfl rfl rfl) ?_
              refine At.p (some 128) (P_pick_t rfl rfl rfl rfl) ?_
              refine At.p (some 6) (P_assign rfl rfl) ?_
              refine At.nil ?_
              refine At.next ?_
              refine At.ret ?_
              refine At.give (.inl rfl) [] (rows' := []) (vs := [_]) rfl ⟨rfl, trivial⟩ rfl (by simp) (by simp) ⟨congrArg Value.bool (by show (d25.wr == (K : Int) + 1) = true; simp [hwr25]), rfl⟩
end Go.Proofs.Ytdingfinclcbgaa
