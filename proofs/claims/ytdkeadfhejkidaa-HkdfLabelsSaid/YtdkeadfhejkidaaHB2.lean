import Derived.Test.YtdkeadfhejkidaaHB1
import Derived.Test.YtdkeadfhejkidaaXK2
namespace Go.Proofs.Ytdkeadfhejkidaa
set_option maxRecDepth 20000
set_option linter.unusedVariables false
set_option linter.unusedSimpArgs false
open Go.SE Go.RowKit
attribute [local irreducible] macS sumS expS labS oK tK

set_option maxHeartbeats 2000000 in
theorem l_Labels_t {key : List (BitVec 8)} {a : List (BitVec 8)} {b : List (BitVec 8)} {n : Nat} (hkey : key.length = 32) (hn : n ≤ 8160) (hl : 0 < a.length ∧ a.length ≤ 249 ∧ b.length ≤ 255) :
    Con Try.prog 12 [aggK key, .agg ([strV a, strV b]).toArray, iV (n : Int)] [] (fun v rs => v = .bool true ∧ rs = []) := by
  refine Con.enter Try.func12 Try.ntmps12 (Nat.le_of_ble_eq_true rfl) rfl fun w => ?_
  refine At.seq ?_
  refine At.region ?_
  refine At.s (S_box (some 3) 3 (zs := (key).map u8V) rfl rfl rfl (fun b3 => ?_))
  refine At.s (S_box (some 4) 4 (zs := [strV a, strV b]) rfl rfl rfl (fun b4 => ?_))
  refine At.p (some 6) (P_assign rfl rfl) ?_
  refine At.nil ?_
  refine At.next ?_
  refine At.seq ?_
  refine At.region ?_
  refine At.p (some 14) (P_move rfl rfl) ?_
  refine At.p (some 7) (P_assign rfl rfl) ?_
  refine At.nil ?_
  refine At.next ?_
  refine At.seq ?_
  refine At.draws 6 [] [.q false [0, 1, 2, 3, 5], .e false 4] (by kernel_rfl) (by kernel_rfl) ?_
  refine At.wp (some 15) (P_indexAddr_arr1 (j := 0) rfl Try.underlying39 sz9 rfl rfl rfl (by decide)) ?_
  refine At.wq (some 16) (Q_loadO (k := 4) rfl rfl Try.underlying9 rfl rfl rfl) ?_
  refine At.wp (some 17) (P_indexAddr_arr1 (j := 1) rfl Try.underlying39 sz9 rfl rfl rfl (by decide)) ?_
  refine At.wq (some 18) (Q_loadO (k := 4) rfl rfl Try.underlying9 rfl rfl rfl) ?_
  refine At.wp (some 8) (P_assign rfl rfl) ?_
  refine At.wqn ?_
  refine At.we ?_
  refine S_convSB (some 19) 19 (l := b) rfl Try.underlying9 Try.underlying22 Try.underlying5 rfl (fun A19 b19 c19 g19a g19b => ?_)
  refine At.wt rfl ?_
  refine At.p (some 9) (P_assign rfl rfl) ?_
  refine At.nil ?_
  refine At.next ?_
  refine At.seq ?_
  refine At.seq ?_
  refine At.region ?_
  refine At.p (some 20) (P_move rfl rfl) ?_
  refine At.p (some 21) (P_cmp rfl rfl rfl rfl rfl rfl) ?_
  refine At.p (some 22) (P_move rfl rfl) ?_
  refine At.gsplit (t := 22) (want := true) rfl (fun g1 => ?_) (fun g1 => ?_)
  ·
    have eg1 : (n : Int) > 100 := of_decide_eq_true g1
    refine At.gy (t := 22) rfl g1 rfl rfl ?_
    refine At.p (some 23) (P_move rfl rfl) ?_
    refine At.gy (t := 22) rfl g1 rfl rfl ?_
    refine At.p (some 24) (P_cmp rfl rfl rfl rfl rfl rfl) ?_
    refine At.p (some 25) (P_pick_t rfl rfl g1 rfl) ?_
    refine At.nil ?_
    refine At.next ?_
    refine At.cond rfl (fun h25 => ?_) (fun h25 => ?_)
    · -- cond 25 t
      have e25 : (n : Int) ≤ 8160 := of_decide_eq_true h25
      refine At.region ?_
      refine At.p (some 26) (P_move rfl rfl) ?_
      refine At.p (some 27) (P_rem_i rfl rfl rfl (by omega) (by first | decide | omega)) ?_
      refine At.p (some 7) (P_assign rfl rfl) ?_
      refine At.nil ?_
      refine At.next ?_
      refine At.seq ?_
      refine At.draws 11 [] [.q false [0, 1, 2, 3, 4, 5, 6, 7, 8, 9, 10]] (by kernel_rfl) (by kernel_rfl) ?_
      refine At.wp (some 28) (P_move rfl rfl) ?_
      refine At.wp (some 29) (P_move rfl rfl) ?_
      refine At.wp (some 30) (P_len_strV rfl rfl Try.underlying9 rfl) ?_
      refine At.wp (some 31) (P_min2 rfl rfl rfl rfl) ?_
      refine At.wp (some 32) (P_slice_strV (a := a) (h := (min a.length 260)) rfl Try.underlying9 rfl ⟨_, _, rfl, by omega⟩ LN) ?_
      refine At.wp (some 33) (P_move rfl rfl) ?_
      refine At.wp (some 34) (P_move rfl rfl) ?_
      refine At.wp (some 35) (P_len_sl rfl rfl ⟨_, Try.underlying22⟩ rfl) ?_
      refine At.wp (some 36) (P_min2 rfl rfl rfl rfl) ?_
      refine At.wp (some 37) (P_slice_sl (l := 0) (h := (min b.length 260)) (m := c19) rfl Try.underlying22 sz5 rfl rfl ⟨_, _, rfl, by omega⟩ rfl DO DO DO) ?_
      refine At.wp (some 8) (P_assign rfl rfl) ?_
      refine At.wqn ?_
      refine At.wt rfl ?_
      refine At.p (some 9) (P_assign rfl rfl) ?_
      refine At.nil ?_
      refine At.next ?_
      refine At.seq ?_
      have hl1 : 0 < (a.take (min a.length 260)).length := by rw [List.length_take]; omega
      have hl2 : (a.take (min a.length 260)).length ≤ 249 := by rw [List.length_take]; omega
      refine At.region ?_
      refine At.q (some 39) (Q_loadA (k := 3) rfl rfl Try.underlying25 rfl sz25 LN rfl) ?_
      refine At.p (some 40) (P_move rfl rfl) ?_
      refine At.p (some 41) (P_move rfl rfl) ?_
      refine At.p (some 42) (P_move rfl rfl) ?_
      refine At.s (S_callV (some 43) [(19, _)] [43] (vs := [_, _, _, _]) rfl en24 rfl (VN (by simp) rfl (View.sub (j := 0) (m := ((min b.length 260) - 0)) RO rfl) V0) (by simp) (c_Label (key := key) (lb := (a.take (min a.length 260))) (cx := (b.take ((min b.length 260) - 0))) (nc := ((min b.length 260) - 0)) (A := (cut A19 0 c19 1)) (bq := b19) (q := 0) (n % 100) LN LN OG LN1 LN1 OG (fun h => cut_zero ((fun h => g19a (by omega)) (by omega)))) (by rintro _ _ ⟨A43, b43, c43, r43, m43, g43a, g43b, rfl, rfl⟩; rfl) ?_)
      rintro _ _ ⟨A43, b43, c43, r43, m43, g43a, g43b, rfl, rfl⟩
      refine At.forgetM 43 rfl ?_
      have hl43 : (labS key (a.take (min a.length 260)) (b.take ((min b.length 260) - 0)) (n % 100)).length = (n % 100) := labS_len _ _ _ _
      refine At.p (some 38) (P_move rfl rfl) ?_
      refine At.p (some 44) (P_extract rfl rfl rfl) ?_
      refine At.p (some 45) (P_extract rfl rfl rfl) ?_
      refine At.p (some 10) (P_assign rfl rfl) ?_
      refine At.p (some 11) (P_assign rfl rfl) ?_
      refine At.nil ?_
      refine At.next ?_
      refine At.seq ?_
      refine At.region ?_
      refine At.q (some 47) (Q_loadA (k := 3) rfl rfl Try.underlying25 rfl sz25 LN rfl) ?_
      refine At.p (some 48) (P_move rfl rfl) ?_
      refine At.p (some 49) (P_move rfl rfl) ?_
      refine At.p (some 50) (P_move rfl rfl) ?_
      refine At.s (S_callV (some 51) [(19, _)] [51] (vs := [_, _, _, _]) rfl en25 rfl (VN (by simp) rfl (View.sub (j := 0) (m := ((min b.length 260) - 0)) RO rfl) V0) (by simp) (r_Label (key := key) (lb := (a.take (min a.length 260))) (cx := (b.take ((min b.length 260) - 0))) (nc := ((min b.length 260) - 0)) (A := (cut A19 0 c19 1)) (bq := b19) (q := 0) (n % 100) LN LN OG LN1 LN1 OG (fun h => cut_zero ((fun h => g19a (by omega)) (by omega)))) (by rintro _ _ ⟨A51, b51, c51, r51, m51, g51a, g51b, rfl, rfl⟩; rfl) ?_)
      rintro _ _ ⟨A51, b51, c51, r51, m51, g51a, g51b, rfl, rfl⟩
      refine At.forgetM 51 rfl ?_
      have hl51 : (labS key (a.take (min a.length 260)) (b.take ((min b.length 260) - 0)) (n % 100)).length = (n % 100) := labS_len _ _ _ _
      refine At.p (some 46) (P_move rfl rfl) ?_
      refine At.p (some 52) (P_extract rfl rfl rfl) ?_
      refine At.p (some 53) (P_extract rfl rfl rfl) ?_
      refine At.p (some 12) (P_assign rfl rfl) ?_
      refine At.p (some 13) (P_assign rfl rfl) ?_
      refine At.nil ?_
      refine At.next ?_
      refine At.seq ?_
      refine At.region ?_
      refine At.s (S_callV (some 54) [] [] (vs := []) rfl en22 rfl V0 (by simp) (c_keys) (by rintro _ _ ⟨rfl, rfl⟩; rfl) ?_)
      rintro _ _ ⟨rfl, rfl⟩
      refine At.p (some 55) (P_move rfl rfl) ?_
      refine At.gy (t := 55) rfl (by first | rfl | (simp; done)) rfl rfl ?_
      refine At.p (some 56) (P_move rfl rfl) ?_
      refine At.gy (t := 55) rfl (by first | rfl | (simp; done)) rfl rfl ?_
      refine At.p (some 57) (P_cmp rfl rfl rfl rfl rfl rfl) ?_
      refine At.gy (t := 55) rfl (by first | rfl | (simp; done)) rfl rfl ?_
      refine At.p (some 58) (P_move rfl rfl) ?_
      refine At.gy (t := 55) rfl (by first | rfl | (simp; done)) rfl rfl ?_
      refine At.p (some 59) (P_eql_bool rfl Try.underlying4 rfl rfl) ?_
      refine At.p (some 60) (P_pick_t rfl rfl (by first | rfl | (simp; done)) rfl) ?_
      refine At.p (some 61) (P_move rfl rfl) ?_
      refine At.gy (t := 61) rfl (by first | rfl | (simp; done)) rfl rfl ?_
      refine At.p (some 62) (P_move rfl rfl) ?_
      refine At.gy (t := 61) rfl (by first | rfl | (simp; done)) rfl rfl ?_
      refine At.p (some 63) (P_cmp rfl rfl rfl rfl rfl rfl) ?_
      refine At.gy (t := 61) rfl (by first | rfl | (simp; done)) rfl rfl ?_
      refine At.p (some 64) (P_move rfl rfl) ?_
      refine At.gn (some 65) (t := 64) rfl (by first | rfl | (simp; done)) rfl rfl ?_
      refine At.gn (some 66) (t := 64) rfl (by first | rfl | (simp; done)) rfl rfl ?_
      refine At.gy (t := 61) rfl (by first | rfl | (simp; done)) rfl rfl ?_
      refine At.p (some 67) (P_pick_t rfl rfl (by first | rfl | (simp; done)) rfl) ?_
      refine At.p (some 68) (P_pick_t rfl rfl (by first | rfl | (simp; done)) rfl) ?_
      refine At.p (some 69) (P_move rfl rfl) ?_
      refine At.gy (t := 69) rfl rfl rfl rfl ?_
      refine At.p (some 70) (P_move rfl rfl) ?_
      refine At.gy (t := 69) rfl rfl rfl rfl ?_
      refine At.q (some 71) (Q_strA (l := (labS key (a.take (min a.length 260)) (b.take ((min b.length 260) - 0)) (n % 100))) (n := (n % 100)) (k := 43) LN rfl Try.underlying22 Try.underlying5 Try.underlying9 rfl g43a (fun _ => ⟨rfl, rfl, rfl⟩)) ?_
      refine At.gy (t := 69) rfl rfl rfl rfl ?_
      refine At.p (some 72) (P_move rfl rfl) ?_
      refine At.gy (t := 69) rfl rfl rfl rfl ?_
      refine At.q (some 73) (Q_strA (l := (labS key (a.take (min a.length 260)) (b.take ((min b.length 260) - 0)) (n % 100))) (n := (n % 100)) (k := 51) LN rfl Try.underlying22 Try.underlying5 Try.underlying9 rfl g51a (fun _ => ⟨rfl, rfl, rfl⟩)) ?_
      refine At.gy (t := 69) rfl rfl rfl rfl ?_
      refine At.p (some 74) (P_eql_str (a := (labS key (a.take (min a.length 260)) (b.take ((min b.length 260) - 0)) (n % 100))) (b := (labS key (a.take (min a.length 260)) (b.take ((min b.length 260) - 0)) (n % 100))) rfl rfl rfl) ?_
      refine At.p (some 75) (P_pick_t rfl rfl rfl rfl) ?_
      refine At.p (some 6) (P_assign rfl rfl) ?_
      refine At.nil ?_
      refine At.next ?_
      refine At.ret ?_
      have hq0 : (decide ((labS key (a.take (min a.length 260)) (b.take ((min b.length 260) - 0)) (n % 100)) = (labS key (a.take (min a.length 260)) (b.take ((min b.length 260) - 0)) (n % 100)))) = true := (by first | rfl | (simp; done))
      refine At.give (.inl rfl) [] (rows' := []) (vs := [_]) rfl ⟨rfl, trivial⟩ rfl (by simp) (by simp) ⟨(by first | (rw [hq0]; try rfl; done) | (rw [← hq0]; try rfl; done) | (simp only [hq0]; try rfl; done) | (simp only [← hq0]; try rfl; done) | rfl), (by first | (rw [hq0]; try rfl; done) | (rw [← hq0]; try rfl; done) | (simp only [hq0]; try rfl; done) | (simp only [← hq0]; try rfl; done) | rfl)⟩
    · -- cond 25 f
      have e25 : ¬ (n : Int) ≤ 8160 := of_decide_eq_false h25
      refine At.skip ?_
      refine At.next ?_
      refine At.seq ?_
      refine At.draws 11 [] [.q false [0, 1, 2, 3, 4, 5, 6, 7, 8, 9, 10]] (by kernel_rfl) (by kernel_rfl) ?_
      refine At.wp (some 28) (P_move rfl rfl) ?_
      refine At.wp (some 29) (P_move rfl rfl) ?_
      refine At.wp (some 30) (P_len_strV rfl rfl Try.underlying9 rfl) ?_
      refine At.wp (some 31) (P_min2 rfl rfl rfl rfl) ?_
      refine At.wp (some 32) (P_slice_strV (a := a) (h := (min a.length 260)) rfl Try.underlying9 rfl ⟨_, _, rfl, by omega⟩ LN) ?_
      refine At.wp (some 33) (P_move rfl rfl) ?_
      refine At.wp (some 34) (P_move rfl rfl) ?_
      refine At.wp (some 35) (P_len_sl rfl rfl ⟨_, Try.underlying22⟩ rfl) ?_
      refine At.wp (some 36) (P_min2 rfl rfl rfl rfl) ?_
      refine At.wp (some 37) (P_slice_sl (l := 0) (h := (min b.length 260)) (m := c19) rfl Try.underlying22 sz5 rfl rfl ⟨_, _, rfl, by omega⟩ rfl DO DO DO) ?_
      refine At.wp (some 8) (P_assign rfl rfl) ?_
      refine At.wqn ?_
      refine At.wt rfl ?_
      refine At.p (some 9) (P_assign rfl rfl) ?_
      refine At.nil ?_
      refine At.next ?_
      refine At.seq ?_
      have hl1 : 0 < (a.take (min a.length 260)).length := by rw [List.length_take]; omega
      have hl2 : (a.take (min a.length 260)).length ≤ 249 := by rw [List.length_take]; omega
      refine At.region ?_
      refine At.q (some 39) (Q_loadA (k := 3) rfl rfl Try.underlying25 rfl sz25 LN rfl) ?_
      refine At.p (some 40) (P_move rfl rfl) ?_
      refine At.p (some 41) (P_move rfl rfl) ?_
      refine At.p (some 42) (P_move rfl rfl) ?_
      refine At.s (S_callV (some 43) [(19, _)] [43] (vs := [_, _, _, _]) rfl en24 rfl (VN (by simp) rfl (View.sub (j := 0) (m := ((min b.length 260) - 0)) RO rfl) V0) (by simp) (c_Label (key := key) (lb := (a.take (min a.length 260))) (cx := (b.take ((min b.length 260) - 0))) (nc := ((min b.length 260) - 0)) (A := (cut A19 0 c19 1)) (bq := b19) (q := 0) n LN LN OG LN1 LN1 OG (fun h => cut_zero ((fun h => g19a (by omega)) (by omega)))) (by rintro _ _ ⟨A43, b43, c43, r43, m43, g43a, g43b, rfl, rfl⟩; rfl) ?_)
      rintro _ _ ⟨A43, b43, c43, r43, m43, g43a, g43b, rfl, rfl⟩
      refine At.forgetM 43 rfl ?_
      have hl43 : (labS key (a.take (min a.length 260)) (b.take ((min b.length 260) - 0)) n).length = n := labS_len _ _ _ _
      refine At.p (some 38) (P_move rfl rfl) ?_
      refine At.p (some 44) (P_extract rfl rfl rfl) ?_
      refine At.p (some 45) (P_extract rfl rfl rfl) ?_
      refine At.p (some 10) (P_assign rfl rfl) ?_
      refine At.p (some 11) (P_assign rfl rfl) ?_
      refine At.nil ?_
      refine At.next ?_
      refine At.seq ?_
      refine At.region ?_
      refine At.q (some 47) (Q_loadA (k := 3) rfl rfl Try.underlying25 rfl sz25 LN rfl) ?_
      refine At.p (some 48) (P_move rfl rfl) ?_
      refine At.p (some 49) (P_move rfl rfl) ?_
      refine At.p (some 50) (P_move rfl rfl) ?_
      refine At.s (S_callV (some 51) [(19, _)] [51] (vs := [_, _, _, _]) rfl en25 rfl (VN (by simp) rfl (View.sub (j := 0) (m := ((min b.length 260) - 0)) RO rfl) V0) (by simp) (r_Label (key := key) (lb := (a.take (min a.length 260))) (cx := (b.take ((min b.length 260) - 0))) (nc := ((min b.length 260) - 0)) (A := (cut A19 0 c19 1)) (bq := b19) (q := 0) n LN LN OG LN1 LN1 OG (fun h => cut_zero ((fun h => g19a (by omega)) (by omega)))) (by rintro _ _ ⟨A51, b51, c51, r51, m51, g51a, g51b, rfl, rfl⟩; rfl) ?_)
      rintro _ _ ⟨A51, b51, c51, r51, m51, g51a, g51b, rfl, rfl⟩
      refine At.forgetM 51 rfl ?_
      have hl51 : (labS key (a.take (min a.length 260)) (b.take ((min b.length 260) - 0)) n).length = n := labS_len _ _ _ _
      refine At.p (some 46) (P_move rfl rfl) ?_
      refine At.p (some 52) (P_extract rfl rfl rfl) ?_
      refine At.p (some 53) (P_extract rfl rfl rfl) ?_
      refine At.p (some 12) (P_assign rfl rfl) ?_
      refine At.p (some 13) (P_assign rfl rfl) ?_
      refine At.nil ?_
      refine At.next ?_
      refine At.seq ?_
      refine At.region ?_
      refine At.s (S_callV (some 54) [] [] (vs := []) rfl en22 rfl V0 (by simp) (c_keys) (by rintro _ _ ⟨rfl, rfl⟩; rfl) ?_)
      rintro _ _ ⟨rfl, rfl⟩
      refine At.p (some 55) (P_move rfl rfl) ?_
      refine At.gy (t := 55) rfl (by first | rfl | (simp; done)) rfl rfl ?_
      refine At.p (some 56) (P_move rfl rfl) ?_
      refine At.gy (t := 55) rfl (by first | rfl | (simp; done)) rfl rfl ?_
      refine At.p (some 57) (P_cmp rfl rfl rfl rfl rfl rfl) ?_
      refine At.gy (t := 55) rfl (by first | rfl | (simp; done)) rfl rfl ?_
      refine At.p (some 58) (P_move rfl rfl) ?_
      refine At.gy (t := 55) rfl (by first | rfl | (simp; done)) rfl rfl ?_
      refine At.p (some 59) (P_eql_bool rfl Try.underlying4 rfl rfl) ?_
      refine At.p (some 60) (P_pick_t rfl rfl (by first | rfl | (simp; done)) rfl) ?_
      refine At.p (some 61) (P_move rfl rfl) ?_
      refine At.gy (t := 61) rfl (by first | rfl | (simp; done)) rfl rfl ?_
      refine At.p (some 62) (P_move rfl rfl) ?_
      refine At.gy (t := 61) rfl (by first | rfl | (simp; done)) rfl rfl ?_
      refine At.p (some 63) (P_cmp rfl rfl rfl rfl rfl rfl) ?_
      refine At.gy (t := 61) rfl (by first | rfl | (simp; done)) rfl rfl ?_
      refine At.p (some 64) (P_move rfl rfl) ?_
      refine At.gn (some 65) (t := 64) rfl (by first | rfl | (simp; done)) rfl rfl ?_
      refine At.gn (some 66) (t := 64) rfl (by first | rfl | (simp; done)) rfl rfl ?_
      refine At.gy (t := 61) rfl (by first | rfl | (simp; done)) rfl rfl ?_
      refine At.p (some 67) (P_pick_t rfl rfl (by first | rfl | (simp; done)) rfl) ?_
      refine At.p (some 68) (P_pick_t rfl rfl (by first | rfl | (simp; done)) rfl) ?_
      refine At.p (some 69) (P_move rfl rfl) ?_
      refine At.gy (t := 69) rfl rfl rfl rfl ?_
      refine At.p (some 70) (P_move rfl rfl) ?_
      refine At.gy (t := 69) rfl rfl rfl rfl ?_
      refine At.q (some 71) (Q_strA (l := (labS key (a.take (min a.length 260)) (b.take ((min b.length 260) - 0)) n)) (n := n) (k := 43) LN rfl Try.underlying22 Try.underlying5 Try.underlying9 rfl g43a (fun _ => ⟨rfl, rfl, rfl⟩)) ?_
      refine At.gy (t := 69) rfl rfl rfl rfl ?_
      refine At.p (some 72) (P_move rfl rfl) ?_
      refine At.gy (t := 69) rfl rfl rfl rfl ?_
      refine At.q (some 73) (Q_strA (l := (labS key (a.take (min a.length 260)) (b.take ((min b.length 260) - 0)) n)) (n := n) (k := 51) LN rfl Try.underlying22 Try.underlying5 Try.underlying9 rfl g51a (fun _ => ⟨rfl, rfl, rfl⟩)) ?_
      refine At.gy (t := 69) rfl rfl rfl rfl ?_
      refine At.p (some 74) (P_eql_str (a := (labS key (a.take (min a.length 260)) (b.take ((min b.length 260) - 0)) n)) (b := (labS key (a.take (min a.length 260)) (b.take ((min b.length 260) - 0)) n)) rfl rfl rfl) ?_
      refine At.p (some 75) (P_pick_t rfl rfl rfl rfl) ?_
      refine At.p (some 6) (P_assign rfl rfl) ?_
      refine At.nil ?_
      refine At.next ?_
      refine At.ret ?_
      have hq0 : (decide ((labS key (a.take (min a.length 260)) (b.take ((min b.length 260) - 0)) n) = (labS key (a.take (min a.length 260)) (b.take ((min b.length 260) - 0)) n))) = true := (by first | rfl | (simp; done))
      refine At.give (.inl rfl) [] (rows' := []) (vs := [_]) rfl ⟨rfl, trivial⟩ rfl (by simp) (by simp) ⟨(by first | (rw [hq0]; try rfl; done) | (rw [← hq0]; try rfl; done) | (simp only [hq0]; try rfl; done) | (simp only [← hq0]; try rfl; done) | rfl), (by first | (rw [hq0]; try rfl; done) | (rw [← hq0]; try rfl; done) | (simp only [hq0]; try rfl; done) | (simp only [← hq0]; try rfl; done) | rfl)⟩
  ·
    have eg1 : ¬ (n : Int) > 100 := of_decide_eq_false g1
    refine At.gn (some 23) (t := 22) rfl g1 rfl rfl ?_
    refine At.gn (some 24) (t := 22) rfl g1 rfl rfl ?_
    refine At.p (some 25) (P_pick_f rfl rfl g1 rfl) ?_
    refine At.nil ?_
    refine At.next ?_
    refine At.cond rfl (fun h => absurd (h.symm.trans rfl) (by decide)) (fun _ => ?_)
    refine At.skip ?_
    refine At.next ?_
    refine At.seq ?_
    refine At.draws 11 [] [.q false [0, 1, 2, 3, 4, 5, 6, 7, 8, 9, 10]] (by kernel_rfl) (by kernel_rfl) ?_
    refine At.wp (some 28) (P_move rfl rfl) ?_
    refine At.wp (some 29) (P_move rfl rfl) ?_
    refine At.wp (some 30) (P_len_strV rfl rfl Try.underlying9 rfl) ?_
    refine At.wp (some 31) (P_min2 rfl rfl rfl rfl) ?_
    refine At.wp (some 32) (P_slice_strV (a := a) (h := (min a.length 260)) rfl Try.underlying9 rfl ⟨_, _, rfl, by omega⟩ LN) ?_
    refine At.wp (some 33) (P_move rfl rfl) ?_
    refine At.wp (some 34) (P_move rfl rfl) ?_
    refine At.wp (some 35) (P_len_sl rfl rfl ⟨_, Try.underlying22⟩ rfl) ?_
    refine At.wp (some 36) (P_min2 rfl rfl rfl rfl) ?_
    refine At.wp (some 37) (P_slice_sl (l := 0) (h := (min b.length 260)) (m := c19) rfl Try.underlying22 sz5 rfl rfl ⟨_, _, rfl, by omega⟩ rfl DO DO DO) ?_
    refine At.wp (some 8) (P_assign rfl rfl) ?_
    refine At.wqn ?_
    refine At.wt rfl ?_
    refine At.p (some 9) (P_assign rfl rfl) ?_
    refine At.nil ?_
    refine At.next ?_
    refine At.seq ?_
    have hl1 : 0 < (a.take (min a.length 260)).length := by rw [List.length_take]; omega
    have hl2 : (a.take (min a.length 260)).length ≤ 249 := by rw [List.length_take]; omega
    refine At.region ?_
    refine At.q (some 39) (Q_loadA (k := 3) rfl rfl Try.underlying25 rfl sz25 LN rfl) ?_
    refine At.p (some 40) (P_move rfl rfl) ?_
    refine At.p (some 41) (P_move rfl rfl) ?_
    refine At.p (some 42) (P_move rfl rfl) ?_
    refine At.s (S_callV (some 43) [(19, _)] [43] (vs := [_, _, _, _]) rfl en24 rfl (VN (by simp) rfl (View.sub (j := 0) (m := ((min b.length 260) - 0)) RO rfl) V0) (by simp) (c_Label (key := key) (lb := (a.take (min a.length 260))) (cx := (b.take ((min b.length 260) - 0))) (nc := ((min b.length 260) - 0)) (A := (cut A19 0 c19 1)) (bq := b19) (q := 0) n LN LN OG LN1 LN1 OG (fun h => cut_zero ((fun h => g19a (by omega)) (by omega)))) (by rintro _ _ ⟨A43, b43, c43, r43, m43, g43a, g43b, rfl, rfl⟩; rfl) ?_)
    rintro _ _ ⟨A43, b43, c43, r43, m43, g43a, g43b, rfl, rfl⟩
    refine At.forgetM 43 rfl ?_
    have hl43 : (labS key (a.take (min a.length 260)) (b.take ((min b.length 260) - 0)) n).length = n := labS_len _ _ _ _
    refine At.p (some 38) (P_move rfl rfl) ?_
    refine At.p (some 44) (P_extract rfl rfl rfl) ?_
    refine At.p (some 45) (P_extract rfl rfl rfl) ?_
    refine At.p (some 10) (P_assign rfl rfl) ?_
    refine At.p (some 11) (P_assign rfl rfl) ?_
    refine At.nil ?_
    refine At.next ?_
    refine At.seq ?_
    refine At.region ?_
    refine At.q (some 47) (Q_loadA (k := 3) rfl rfl Try.underlying25 rfl sz25 LN rfl) ?_
    refine At.p (some 48) (P_move rfl rfl) ?_
    refine At.p (some 49) (P_move rfl rfl) ?_
    refine At.p (some 50) (P_move rfl rfl) ?_
    refine At.s (S_callV (some 51) [(19, _)] [51] (vs := [_, _, _, _]) rfl en25 rfl (VN (by simp) rfl (View.sub (j := 0) (m := ((min b.length 260) - 0)) RO rfl) V0) (by simp) (r_Label (key := key) (lb := (a.take (min a.length 260))) (cx := (b.take ((min b.length 260) - 0))) (nc := ((min b.length 260) - 0)) (A := (cut A19 0 c19 1)) (bq := b19) (q := 0) n LN LN OG LN1 LN1 OG (fun h => cut_zero ((fun h => g19a (by omega)) (by omega)))) (by rintro _ _ ⟨A51, b51, c51, r51, m51, g51a, g51b, rfl, rfl⟩; rfl) ?_)
    rintro _ _ ⟨A51, b51, c51, r51, m51, g51a, g51b, rfl, rfl⟩
    refine At.forgetM 51 rfl ?_
    have hl51 : (labS key (a.take (min a.length 260)) (b.take ((min b.length 260) - 0)) n).length = n := labS_len _ _ _ _
    refine At.p (some 46) (P_move rfl rfl) ?_
    refine At.p (some 52) (P_extract rfl rfl rfl) ?_
    refine At.p (some 53) (P_extract rfl rfl rfl) ?_
    refine At.p (some 12) (P_assign rfl rfl) ?_
    refine At.p (some 13) (P_assign rfl rfl) ?_
    refine At.nil ?_
    refine At.next ?_
    refine At.seq ?_
    refine At.region ?_
    refine At.s (S_callV (some 54) [] [] (vs := []) rfl en22 rfl V0 (by simp) (c_keys) (by rintro _ _ ⟨rfl, rfl⟩; rfl) ?_)
    rintro _ _ ⟨rfl, rfl⟩
    refine At.p (some 55) (P_move rfl rfl) ?_
    refine At.gy (t := 55) rfl (by first | rfl | (simp; done)) rfl rfl ?_
    refine At.p (some 56) (P_move rfl rfl) ?_
    refine At.gy (t := 55) rfl (by first | rfl | (simp; done)) rfl rfl ?_
    refine At.p (some 57) (P_cmp rfl rfl rfl rfl rfl rfl) ?_
    refine At.gy (t := 55) rfl (by first | rfl | (simp; done)) rfl rfl ?_
    refine At.p (some 58) (P_move rfl rfl) ?_
    refine At.gy (t := 55) rfl (by first | rfl | (simp; done)) rfl rfl ?_
    refine At.p (some 59) (P_eql_bool rfl Try.underlying4 rfl rfl) ?_
    refine At.p (some 60) (P_pick_t rfl rfl (by first | rfl | (simp; done)) rfl) ?_
    refine At.p (some 61) (P_move rfl rfl) ?_
    refine At.gy (t := 61) rfl (by first | rfl | (simp; done)) rfl rfl ?_
    refine At.p (some 62) (P_move rfl rfl) ?_
    refine At.gy (t := 61) rfl (by first | rfl | (simp; done)) rfl rfl ?_
    refine At.p (some 63) (P_cmp rfl rfl rfl rfl rfl rfl) ?_
    refine At.gy (t := 61) rfl (by first | rfl | (simp; done)) rfl rfl ?_
    refine At.p (some 64) (P_move rfl rfl) ?_
    refine At.gn (some 65) (t := 64) rfl (by first | rfl | (simp; done)) rfl rfl ?_
    refine At.gn (some 66) (t := 64) rfl (by first | rfl | (simp; done)) rfl rfl ?_
    refine At.gy (t := 61) rfl (by first | rfl | (simp; done)) rfl rfl ?_
    refine At.p (some 67) (P_pick_t rfl rfl (by first | rfl | (simp; done)) rfl) ?_
    refine At.p (some 68) (P_pick_t rfl rfl (by first | rfl | (simp; done)) rfl) ?_
    refine At.p (some 69) (P_move rfl rfl) ?_
    refine At.gy (t := 69) rfl rfl rfl rfl ?_
    refine At.p (some 70) (P_move rfl rfl) ?_
    refine At.gy (t := 69) rfl rfl rfl rfl ?_
    refine At.q (some 71) (Q_strA (l := (labS key (a.take (min a.length 260)) (b.take ((min b.length 260) - 0)) n)) (n := n) (k := 43) LN rfl Try.underlying22 Try.underlying5 Try.underlying9 rfl g43a (fun _ => ⟨rfl, rfl, rfl⟩)) ?_
    refine At.gy (t := 69) rfl rfl rfl rfl ?_
    refine At.p (some 72) (P_move rfl rfl) ?_
    refine At.gy (t := 69) rfl rfl rfl rfl ?_
    refine At.q (some 73) (Q_strA (l := (labS key (a.take (min a.length 260)) (b.take ((min b.length 260) - 0)) n)) (n := n) (k := 51) LN rfl Try.underlying22 Try.underlying5 Try.underlying9 rfl g51a (fun _ => ⟨rfl, rfl, rfl⟩)) ?_
    refine At.gy (t := 69) rfl rfl rfl rfl ?_
    refine At.p (some 74) (P_eql_str (a := (labS key (a.take (min a.length 260)) (b.take ((min b.length 260) - 0)) n)) (b := (labS key (a.take (min a.length 260)) (b.take ((min b.length 260) - 0)) n)) rfl rfl rfl) ?_
    refine At.p (some 75) (P_pick_t rfl rfl rfl rfl) ?_
    refine At.p (some 6) (P_assign rfl rfl) ?_
    refine At.nil ?_
    refine At.next ?_
    refine At.ret ?_
    have hq0 : (decide ((labS key (a.take (min a.length 260)) (b.take ((min b.length 260) - 0)) n) = (labS key (a.take (min a.length 260)) (b.take ((min b.length 260) - 0)) n))) = true := (by first | rfl | (simp; done))
    refine At.give (.inl rfl) [] (rows' := []) (vs := [_]) rfl ⟨rfl, trivial⟩ rfl (by simp) (by simp) ⟨(by first | (rw [hq0]; try rfl; done) | (rw [← hq0]; try rfl; done) | (simp only [hq0]; try rfl; done) | (simp only [← hq0]; try rfl; done) | rfl), (by first | (rw [hq0]; try rfl; done) | (rw [← hq0]; try rfl; done) | (simp only [hq0]; try rfl; done) | (simp only [← hq0]; try rfl; done) | rfl)⟩

set_option maxHeartbeats 2000000 in
theorem l_Labels_f {key : List (BitVec 8)} {a : List (BitVec 8)} {b : List (BitVec 8)} {n : Int} (hkey : key.length = 32) (hbad : ¬ (0 ≤ n ∧ n ≤ 8160 ∧ 0 < a.length ∧ a.length ≤ 249 ∧ b.length ≤ 255)) :
    Con Try.prog 12 [aggK key, .agg ([strV a, strV b]).toArray, iV n] [] (fun v rs => v = .bool true ∧ rs = []) := by
  refine Con.enter Try.func12 Try.ntmps12 (Nat.le_of_ble_eq_true rfl) rfl fun w => ?_
  refine At.seq ?_
  refine At.region ?_
  refine At.s (S_box (some 3) 3 (zs := (key).map u8V) rfl rfl rfl (fun b3 => ?_))
  refine At.s (S_box (some 4) 4 (zs := [strV a, strV b]) rfl rfl rfl (fun b4 => ?_))
  refine At.p (some 6) (P_assign rfl rfl) ?_
  refine At.nil ?_
  refine At.next ?_
  refine At.seq ?_
  refine At.region ?_
  refine At.p (some 14) (P_move rfl rfl) ?_
  refine At.p (some 7) (P_assign rfl rfl) ?_
  refine At.nil ?_
  refine At.next ?_
  refine At.seq ?_
  refine At.draws 6 [] [.q false [0, 1, 2, 3, 5], .e false 4] (by kernel_rfl) (by kernel_rfl) ?_
  refine At.wp (some 15) (P_indexAddr_arr1 (j := 0) rfl Try.underlying39 sz9 rfl rfl rfl (by decide)) ?_
  refine At.wq (some 16) (Q_loadO (k := 4) rfl rfl Try.underlying9 rfl rfl rfl) ?_
  refine At.wp (some 17) (P_indexAddr_arr1 (j := 1) rfl Try.underlying39 sz9 rfl rfl rfl (by decide)) ?_
  refine At.wq (some 18) (Q_loadO (k := 4) rfl rfl Try.underlying9 rfl rfl rfl) ?_
  refine At.wp (some 8) (P_assign rfl rfl) ?_
  refine At.wqn ?_
  refine At.we ?_
  refine S_convSB (some 19) 19 (l := b) rfl Try.underlying9 Try.underlying22 Try.underlying5 rfl (fun A19 b19 c19 g19a g19b => ?_)
  refine At.wt rfl ?_
  refine At.p (some 9) (P_assign rfl rfl) ?_
  refine At.nil ?_
  refine At.next ?_
  refine At.seq ?_
  refine At.seq ?_
  refine At.region ?_
  refine At.p (some 20) (P_move rfl rfl) ?_
  refine At.p (some 21) (P_cmp rfl rfl rfl rfl rfl rfl) ?_
  refine At.p (some 22) (P_move rfl rfl) ?_
  refine At.gsplit (t := 22) (want := true) rfl (fun g1 => ?_) (fun g1 => ?_)
  ·
    have eg1 : n > 100 := of_decide_eq_true g1
    refine At.gy (t := 22) rfl g1 rfl rfl ?_
    refine At.p (some 23) (P_move rfl rfl) ?_
    refine At.gy (t := 22) rfl g1 rfl rfl ?_
    refine At.p (some 24) (P_cmp rfl rfl rfl rfl rfl rfl) ?_
    refine At.p (some 25) (P_pick_t rfl rfl g1 rfl) ?_
    refine At.nil ?_
    refine At.next ?_
    refine At.cond rfl (fun h25 => ?_) (fun h25 => ?_)
    · -- cond 25 t
      have e25 : n ≤ 8160 := of_decide_eq_true h25
      refine At.region ?_
      refine At.p (some 26) (P_move rfl rfl) ?_
      refine At.p (some 27) (P_rem_i rfl rfl rfl (by omega) (by decide)) ?_
      refine At.p (some 7) (P_assign rfl rfl) ?_
      refine At.nil ?_
      refine At.next ?_
      refine At.seq ?_
      refine At.draws 11 [] [.q false [0, 1, 2, 3, 4, 5, 6, 7, 8, 9, 10]] (by kernel_rfl) (by kernel_rfl) ?_
      refine At.wp (some 28) (P_move rfl rfl) ?_
      refine At.wp (some 29) (P_move rfl rfl) ?_
      refine At.wp (some 30) (P_len_strV rfl rfl Try.underlying9 rfl) ?_
      refine At.wp (some 31) (P_min2 rfl rfl rfl rfl) ?_
      refine At.wp (some 32) (P_slice_strV (a := a) (h := (min a.length 260)) rfl Try.underlying9 rfl ⟨_, _, rfl, by omega⟩ LN) ?_
      refine At.wp (some 33) (P_move rfl rfl) ?_
      refine At.wp (some 34) (P_move rfl rfl) ?_
      refine At.wp (some 35) (P_len_sl rfl rfl ⟨_, Try.underlying22⟩ rfl) ?_
      refine At.wp (some 36) (P_min2 rfl rfl rfl rfl) ?_
      refine At.wp (some 37) (P_slice_sl (l := 0) (h := (min b.length 260)) (m := c19) rfl Try.underlying22 sz5 rfl rfl ⟨_, _, rfl, by omega⟩ rfl DO DO DO) ?_
      refine At.wp (some 8) (P_assign rfl rfl) ?_
      refine At.wqn ?_
      refine At.wt rfl ?_
      refine At.p (some 9) (P_assign rfl rfl) ?_
      refine At.nil ?_
      refine At.next ?_
      refine At.seq ?_
      have hl1 := List.length_take (l := a) (i := min a.length 260)
      have hl2 := List.length_take (l := b) (i := min b.length 260)
      refine At.region ?_
      refine At.q (some 39) (Q_loadA (k := 3) rfl rfl Try.underlying25 rfl sz25 LN rfl) ?_
      refine At.p (some 40) (P_move rfl rfl) ?_
      refine At.p (some 41) (P_move rfl rfl) ?_
      refine At.p (some 42) (P_move rfl rfl) ?_
      refine At.s (S_callV (some 43) [(19, _)] [43] (vs := [_, _, _, _]) rfl en24 rfl (VN (by simp) rfl (View.sub (j := 0) (m := ((min b.length 260) - 0)) RO rfl) V0) (by simp) (c_LabelX (key := key) (lb := (a.take (min a.length 260))) (cx := (b.take ((min b.length 260) - 0))) (ncx := ((min b.length 260) - 0)) (Acx := (cut A19 0 c19 1)) (ccx := (c19 - 0)) (bcx := b19) (qcx := 0) (k := (n % 100)) LN LN (fun h => cut_zero ((fun h => g19a (by omega)) (by omega))) (by omega)) (by rintro _ _ ⟨A43, b43, c43, g43a, g43b, rfl, rfl⟩; rfl) ?_)
      rintro _ _ ⟨A43, b43, c43, g43a, g43b, rfl, rfl⟩
      refine At.p (some 38) (P_move rfl rfl) ?_
      refine At.p (some 44) (P_extract rfl rfl rfl) ?_
      refine At.p (some 45) (P_extract rfl rfl rfl) ?_
      refine At.p (some 10) (P_assign rfl rfl) ?_
      refine At.p (some 11) (P_assign rfl rfl) ?_
      refine At.nil ?_
      refine At.next ?_
      refine At.seq ?_
      refine At.region ?_
      refine At.q (some 47) (Q_loadA (k := 3) rfl rfl Try.underlying25 rfl sz25 LN rfl) ?_
      refine At.p (some 48) (P_move rfl rfl) ?_
      refine At.p (some 49) (P_move rfl rfl) ?_
      refine At.p (some 50) (P_move rfl rfl) ?_
      refine At.s (S_callV (some 51) [(19, _)] [51] (vs := [_, _, _, _]) rfl en25 rfl (VN (by simp) rfl (View.sub (j := 0) (m := ((min b.length 260) - 0)) RO rfl) V0) (by simp) (r_LabelX (key := key) (lb := (a.take (min a.length 260))) (cx := (b.take ((min b.length 260) - 0))) (ncx := ((min b.length 260) - 0)) (Acx := (cut A19 0 c19 1)) (ccx := (c19 - 0)) (bcx := b19) (qcx := 0) (k := (n % 100)) LN LN (fun h => cut_zero ((fun h => g19a (by omega)) (by omega))) (by omega)) (by rintro _ _ ⟨A51, b51, c51, g51a, g51b, rfl, rfl⟩; rfl) ?_)
      rintro _ _ ⟨A51, b51, c51, g51a, g51b, rfl, rfl⟩
      refine At.p (some 46) (P_move rfl rfl) ?_
      refine At.p (some 52) (P_extract rfl rfl rfl) ?_
      refine At.p (some 53) (P_extract rfl rfl rfl) ?_
      refine At.p (some 12) (P_assign rfl rfl) ?_
      refine At.p (some 13) (P_assign rfl rfl) ?_
      refine At.nil ?_
      refine At.next ?_
      refine At.seq ?_
      refine At.region ?_
      refine At.s (S_callV (some 54) [] [] (vs := []) rfl en22 rfl V0 (by simp) (c_keys) (by rintro _ _ ⟨rfl, rfl⟩; rfl) ?_)
      rintro _ _ ⟨rfl, rfl⟩
      refine At.p (some 55) (P_move rfl rfl) ?_
      refine At.gy (t := 55) rfl (by first | rfl | (simp; done)) rfl rfl ?_
      refine At.p (some 56) (P_move rfl rfl) ?_
      refine At.gy (t := 55) rfl (by first | rfl | (simp; done)) rfl rfl ?_
      refine At.p (some 57) (P_cmp rfl rfl rfl rfl rfl rfl) ?_
      refine At.gy (t := 55) rfl (by first | rfl | (simp; done)) rfl rfl ?_
      refine At.p (some 58) (P_move rfl rfl) ?_
      refine At.gy (t := 55) rfl (by first | rfl | (simp; done)) rfl rfl ?_
      refine At.p (some 59) (P_eql_bool rfl Try.underlying4 rfl rfl) ?_
      refine At.p (some 60) (P_pick_t rfl rfl (by first | rfl | (simp; done)) rfl) ?_
      refine At.p (some 61) (P_move rfl rfl) ?_
      refine At.gy (t := 61) rfl (by first | rfl | (simp; done)) rfl rfl ?_
      refine At.p (some 62) (P_move rfl rfl) ?_
      refine At.gy (t := 61) rfl (by first | rfl | (simp; done)) rfl rfl ?_
      refine At.p (some 63) (P_cmp rfl rfl rfl rfl rfl rfl) ?_
      refine At.gy (t := 61) rfl (by first | rfl | (simp; done)) rfl rfl ?_
      refine At.p (some 64) (P_move rfl rfl) ?_
      refine At.gy (t := 64) rfl (by first | rfl | (simp; done)) rfl rfl ?_
      refine At.p (some 65) (P_move rfl rfl) ?_
      refine At.gy (t := 64) rfl (by first | rfl | (simp; done)) rfl rfl ?_
      refine At.p (some 66) (P_cmp rfl rfl rfl rfl rfl rfl) ?_
      refine At.gy (t := 61) rfl (by first | rfl | (simp; done)) rfl rfl ?_
      refine At.p (some 67) (P_pick_f rfl rfl (by first | rfl | (simp; done)) rfl) ?_
      refine At.p (some 68) (P_pick_t rfl rfl (by first | rfl | (simp; done)) rfl) ?_
      refine At.p (some 69) (P_move rfl rfl) ?_
      refine At.gy (t := 69) rfl (by first | rfl | (simp; done)) rfl rfl ?_
      refine At.p (some 70) (P_move rfl rfl) ?_
      refine At.gy (t := 69) rfl (by first | rfl | (simp; done)) rfl rfl ?_
      refine At.q (some 71) (Q_strA (l := ([] : List (BitVec 8))) (n := (([] : List (BitVec 8)).length)) (k := 43) LN rfl Try.underlying22 Try.underlying5 Try.underlying9 rfl (fun h => g43a (by omega)) (fun _ => ⟨rfl, rfl, rfl⟩)) ?_
      refine At.gy (t := 69) rfl (by first | rfl | (simp; done)) rfl rfl ?_
      refine At.p (some 72) (P_move rfl rfl) ?_
      refine At.gy (t := 69) rfl (by first | rfl | (simp; done)) rfl rfl ?_
      refine At.q (some 73) (Q_strA (l := ([] : List (BitVec 8))) (n := (([] : List (BitVec 8)).length)) (k := 51) LN rfl Try.underlying22 Try.underlying5 Try.underlying9 rfl (fun h => g51a (by omega)) (fun _ => ⟨rfl, rfl, rfl⟩)) ?_
      refine At.gy (t := 69) rfl (by first | rfl | (simp; done)) rfl rfl ?_
      refine At.p (some 74) (P_eql_str (a := ([] : List (BitVec 8))) (b := ([] : List (BitVec 8))) rfl rfl rfl) ?_
      refine At.p (some 75) (P_pick_t rfl rfl (by first | rfl | (simp; done)) rfl) ?_
      refine At.p (some 6) (P_assign rfl rfl) ?_
      refine At.nil ?_
      refine At.next ?_
      refine At.ret ?_
      have hq0 : (decide (([] : List (BitVec 8)) = ([] : List (BitVec 8)))) = true := (by first | rfl | (simp; done))
      refine At.give (.inl rfl) [] (rows' := []) (vs := [_]) rfl ⟨rfl, trivial⟩ rfl (by simp) (by simp) ⟨(by first | (rw [hq0]; try rfl; done) | (rw [← hq0]; try rfl; done) | (simp only [hq0]; try rfl; done) | (simp only [← hq0]; try rfl; done) | rfl), (by first | (rw [hq0]; try rfl; done) | (rw [← hq0]; try rfl; done) | (simp only [hq0]; try rfl; done) | (simp only [← hq0]; try rfl; done) | rfl)⟩
    · -- cond 25 f
      have e25 : ¬ n ≤ 8160 := of_decide_eq_false h25
      refine At.skip ?_
      refine At.next ?_
      refine At.seq ?_
      refine At.draws 11 [] [.q false [0, 1, 2, 3, 4, 5, 6, 7, 8, 9, 10]] (by kernel_rfl) (by kernel_rfl) ?_
      refine At.wp (some 28) (P_move rfl rfl) ?_
      refine At.wp (some 29) (P_move rfl rfl) ?_
      refine At.wp (some 30) (P_len_strV rfl rfl Try.underlying9 rfl) ?_
      refine At.wp (some 31) (P_min2 rfl rfl rfl rfl) ?_
      refine At.wp (some 32) (P_slice_strV (a := a) (h := (min a.length 260)) rfl Try.underlying9 rfl ⟨_, _, rfl, by omega⟩ LN) ?_
      refine At.wp (some 33) (P_move rfl rfl) ?_
      refine At.wp (some 34) (P_move rfl rfl) ?_
      refine At.wp (some 35) (P_len_sl rfl rfl ⟨_, Try.underlying22⟩ rfl) ?_
      refine At.wp (some 36) (P_min2 rfl rfl rfl rfl) ?_
      refine At.wp (some 37) (P_slice_sl (l := 0) (h := (min b.length 260)) (m := c19) rfl Try.underlying22 sz5 rfl rfl ⟨_, _, rfl, by omega⟩ rfl DO DO DO) ?_
      refine At.wp (some 8) (P_assign rfl rfl) ?_
      refine At.wqn ?_
      refine At.wt rfl ?_
      refine At.p (some 9) (P_assign rfl rfl) ?_
      refine At.nil ?_
      refine At.next ?_
      refine At.seq ?_
      have hl1 := List.length_take (l := a) (i := min a.length 260)
      have hl2 := List.length_take (l := b) (i := min b.length 260)
      refine At.region ?_
      refine At.q (some 39) (Q_loadA (k := 3) rfl rfl Try.underlying25 rfl sz25 LN rfl) ?_
      refine At.p (some 40) (P_move rfl rfl) ?_
      refine At.p (some 41) (P_move rfl rfl) ?_
      refine At.p (some 42) (P_move rfl rfl) ?_
      refine At.s (S_callV (some 43) [(19, _)] [43] (vs := [_, _, _, _]) rfl en24 rfl (VN (by simp) rfl (View.sub (j := 0) (m := ((min b.length 260) - 0)) RO rfl) V0) (by simp) (c_LabelX (key := key) (lb := (a.take (min a.length 260))) (cx := (b.take ((min b.length 260) - 0))) (ncx := ((min b.length 260) - 0)) (Acx := (cut A19 0 c19 1)) (ccx := (c19 - 0)) (bcx := b19) (qcx := 0) (k := n) LN LN (fun h => cut_zero ((fun h => g19a (by omega)) (by omega))) (by omega)) (by rintro _ _ ⟨A43, b43, c43, g43a, g43b, rfl, rfl⟩; rfl) ?_)
      rintro _ _ ⟨A43, b43, c43, g43a, g43b, rfl, rfl⟩
      refine At.p (some 38) (P_move rfl rfl) ?_
      refine At.p (some 44) (P_extract rfl rfl rfl) ?_
      refine At.p (some 45) (P_extract rfl rfl rfl) ?_
      refine At.p (some 10) (P_assign rfl rfl) ?_
      refine At.p (some 11) (P_assign rfl rfl) ?_
      refine At.nil ?_
      refine At.next ?_
      refine At.seq ?_
      refine At.region ?_
      refine At.q (some 47) (Q_loadA (k := 3) rfl rfl Try.underlying25 rfl sz25 LN rfl) ?_
      refine At.p (some 48) (P_move rfl rfl) ?_
      refine At.p (some 49) (P_move rfl rfl) ?_
      refine At.p (some 50) (P_move rfl rfl) ?_
      refine At.s (S_callV (some 51) [(19, _)] [51] (vs := [_, _, _, _]) rfl en25 rfl (VN (by simp) rfl (View.sub (j := 0) (m := ((min b.length 260) - 0)) RO rfl) V0) (by simp) (r_LabelX (key := key) (lb := (a.take (min a.length 260))) (cx := (b.take ((min b.length 260) - 0))) (ncx := ((min b.length 260) - 0)) (Acx := (cut A19 0 c19 1)) (ccx := (c19 - 0)) (bcx := b19) (qcx := 0) (k := n) LN LN (fun h => cut_zero ((fun h => g19a (by omega)) (by omega))) (by omega)) (by rintro _ _ ⟨A51, b51, c51, g51a, g51b, rfl, rfl⟩; rfl) ?_)
      rintro _ _ ⟨A51, b51, c51, g51a, g51b, rfl, rfl⟩
      refine At.p (some 46) (P_move rfl rfl) ?_
      refine At.p (some 52) (P_extract rfl rfl rfl) ?_
      refine At.p (some 53) (P_extract rfl rfl rfl) ?_
      refine At.p (some 12) (P_assign rfl rfl) ?_
      refine At.p (some 13) (P_assign rfl rfl) ?_
      refine At.nil ?_
      refine At.next ?_
      refine At.seq ?_
      refine At.region ?_
      refine At.s (S_callV (some 54) [] [] (vs := []) rfl en22 rfl V0 (by simp) (c_keys) (by rintro _ _ ⟨rfl, rfl⟩; rfl) ?_)
      rintro _ _ ⟨rfl, rfl⟩
      refine At.p (some 55) (P_move rfl rfl) ?_
      refine At.gy (t := 55) rfl (by first | rfl | (simp; done)) rfl rfl ?_
      refine At.p (some 56) (P_move rfl rfl) ?_
      refine At.gy (t := 55) rfl (by first | rfl | (simp; done)) rfl rfl ?_
      refine At.p (some 57) (P_cmp rfl rfl rfl rfl rfl rfl) ?_
      refine At.gy (t := 55) rfl (by first | rfl | (simp; done)) rfl rfl ?_
      refine At.p (some 58) (P_move rfl rfl) ?_
      refine At.gy (t := 55) rfl (by first | rfl | (simp; done)) rfl rfl ?_
      refine At.p (some 59) (P_eql_bool rfl Try.underlying4 rfl rfl) ?_
      refine At.p (some 60) (P_pick_t rfl rfl (by first | rfl | (simp; done)) rfl) ?_
      refine At.p (some 61) (P_move rfl rfl) ?_
      refine At.gy (t := 61) rfl (by first | rfl | (simp; done)) rfl rfl ?_
      refine At.p (some 62) (P_move rfl rfl) ?_
      refine At.gy (t := 61) rfl (by first | rfl | (simp; done)) rfl rfl ?_
      refine At.p (some 63) (P_cmp rfl rfl rfl rfl rfl rfl) ?_
      refine At.gy (t := 61) rfl (by first | rfl | (simp; done)) rfl rfl ?_
      refine At.p (some 64) (P_move rfl rfl) ?_
      refine At.gy (t := 64) rfl (by first | rfl | (simp; done)) rfl rfl ?_
      refine At.p (some 65) (P_move rfl rfl) ?_
      refine At.gy (t := 64) rfl (by first | rfl | (simp; done)) rfl rfl ?_
      refine At.p (some 66) (P_cmp rfl rfl rfl rfl rfl rfl) ?_
      refine At.gy (t := 61) rfl (by first | rfl | (simp; done)) rfl rfl ?_
      refine At.p (some 67) (P_pick_f rfl rfl (by first | rfl | (simp; done)) rfl) ?_
      refine At.p (some 68) (P_pick_t rfl rfl (by first | rfl | (simp; done)) rfl) ?_
      refine At.p (some 69) (P_move rfl rfl) ?_
      refine At.gy (t := 69) rfl (by first | rfl | (simp; done)) rfl rfl ?_
      refine At.p (some 70) (P_move rfl rfl) ?_
      refine At.gy (t := 69) rfl (by first | rfl | (simp; done)) rfl rfl ?_
      refine At.q (some 71) (Q_strA (l := ([] : List (BitVec 8))) (n := (([] : List (BitVec 8)).length)) (k := 43) LN rfl Try.underlying22 Try.underlying5 Try.underlying9 rfl (fun h => g43a (by omega)) (fun _ => ⟨rfl, rfl, rfl⟩)) ?_
      refine At.gy (t := 69) rfl (by first | rfl | (simp; done)) rfl rfl ?_
      refine At.p (some 72) (P_move rfl rfl) ?_
      refine At.gy (t := 69) rfl (by first | rfl | (simp; done)) rfl rfl ?_
      refine At.q (some 73) (Q_strA (l := ([] : List (BitVec 8))) (n := (([] : List (BitVec 8)).length)) (k := 51) LN rfl Try.underlying22 Try.underlying5 Try.underlying9 rfl (fun h => g51a (by omega)) (fun _ => ⟨rfl, rfl, rfl⟩)) ?_
      refine At.gy (t := 69) rfl (by first | rfl | (simp; done)) rfl rfl ?_
      refine At.p (some 74) (P_eql_str (a := ([] : List (BitVec 8))) (b := ([] : List (BitVec 8))) rfl rfl rfl) ?_
      refine At.p (some 75) (P_pick_t rfl rfl (by first | rfl | (simp; done)) rfl) ?_
      refine At.p (some 6) (P_assign rfl rfl) ?_
      refine At.nil ?_
      refine At.next ?_
      refine At.ret ?_
      have hq0 : (decide (([] : List (BitVec 8)) = ([] : List (BitVec 8)))) = true := (by first | rfl | (simp; done))
      refine At.give (.inl rfl) [] (rows' := []) (vs := [_]) rfl ⟨rfl, trivial⟩ rfl (by simp) (by simp) ⟨(by first | (rw [hq0]; try rfl; done) | (rw [← hq0]; try rfl; done) | (simp only [hq0]; try rfl; done) | (simp only [← hq0]; try rfl; done) | rfl), (by first | (rw [hq0]; try rfl; done) | (rw [← hq0]; try rfl; done) | (simp only [hq0]; try rfl; done) | (simp only [← hq0]; try rfl; done) | rfl)⟩
  ·
    have eg1 : ¬ n > 100 := of_decide_eq_false g1
    refine At.gn (some 23) (t := 22) rfl g1 rfl rfl ?_
    refine At.gn (some 24) (t := 22) rfl g1 rfl rfl ?_
    refine At.p (some 25) (P_pick_f rfl rfl g1 rfl) ?_
    refine At.nil ?_
    refine At.next ?_
    refine At.cond rfl (fun h => absurd (h.symm.trans rfl) (by decide)) (fun _ => ?_)
    refine At.skip ?_
    refine At.next ?_
    refine At.seq ?_
    refine At.draws 11 [] [.q false [0, 1, 2, 3, 4, 5, 6, 7, 8, 9, 10]] (by kernel_rfl) (by kernel_rfl) ?_
    refine At.wp (some 28) (P_move rfl rfl) ?_
    refine At.wp (some 29) (P_move rfl rfl) ?_
    refine At.wp (some 30) (P_len_strV rfl rfl Try.underlying9 rfl) ?_
    refine At.wp (some 31) (P_min2 rfl rfl rfl rfl) ?_
    refine At.wp (some 32) (P_slice_strV (a := a) (h := (min a.length 260)) rfl Try.underlying9 rfl ⟨_, _, rfl, by omega⟩ LN) ?_
    refine At.wp (some 33) (P_move rfl rfl) ?_
    refine At.wp (some 34) (P_move rfl rfl) ?_
    refine At.wp (some 35) (P_len_sl rfl rfl ⟨_, Try.underlying22⟩ rfl) ?_
    refine At.wp (some 36) (P_min2 rfl rfl rfl rfl) ?_
    refine At.wp (some 37) (P_slice_sl (l := 0) (h := (min b.length 260)) (m := c19) rfl Try.underlying22 sz5 rfl rfl ⟨_, _, rfl, by omega⟩ rfl DO DO DO) ?_
    refine At.wp (some 8) (P_assign rfl rfl) ?_
    refine At.wqn ?_
    refine At.wt rfl ?_
    refine At.p (some 9) (P_assign rfl rfl) ?_
    refine At.nil ?_
    refine At.next ?_
    refine At.seq ?_
    have hl1 := List.length_take (l := a) (i := min a.length 260)
    have hl2 := List.length_take (l := b) (i := min b.length 260)
    refine At.region ?_
    refine At.q (some 39) (Q_loadA (k := 3) rfl rfl Try.underlying25 rfl sz25 LN rfl) ?_
    refine At.p (some 40) (P_move rfl rfl) ?_
    refine At.p (some 41) (P_move rfl rfl) ?_
    refine At.p (some 42) (P_move rfl rfl) ?_
    refine At.s (S_callV (some 43) [(19, _)] [43] (vs := [_, _, _, _]) rfl en24 rfl (VN (by simp) rfl (View.sub (j := 0) (m := ((min b.length 260) - 0)) RO rfl) V0) (by simp) (c_LabelX (key := key) (lb := (a.take (min a.length 260))) (cx := (b.take ((min b.length 260) - 0))) (ncx := ((min b.length 260) - 0)) (Acx := (cut A19 0 c19 1)) (ccx := (c19 - 0)) (bcx := b19) (qcx := 0) (k := n) LN LN (fun h => cut_zero ((fun h => g19a (by omega)) (by omega))) (by omega)) (by rintro _ _ ⟨A43, b43, c43, g43a, g43b, rfl, rfl⟩; rfl) ?_)
    rintro _ _ ⟨A43, b43, c43, g43a, g43b, rfl, rfl⟩
    refine At.p (some 38) (P_move rfl rfl) ?_
    refine At.p (some 44) (P_extract rfl rfl rfl) ?_
    refine At.p (some 45) (P_extract rfl rfl rfl) ?_
    refine At.p (some 10) (P_assign rfl rfl) ?_
    refine At.p (some 11) (P_assign rfl rfl) ?_
    refine At.nil ?_
    refine At.next ?_
    refine At.seq ?_
    refine At.region ?_
    refine At.q (some 47) (Q_loadA (k := 3) rfl rfl Try.underlying25 rfl sz25 LN rfl) ?_
    refine At.p (some 48) (P_move rfl rfl) ?_
    refine At.p (some 49) (P_move rfl rfl) ?_
    refine At.p (some 50) (P_move rfl rfl) ?_
    refine At.s (S_callV (some 51) [(19, _)] [51] (vs := [_, _, _, _]) rfl en25 rfl (VN (by simp) rfl (View.sub (j := 0) (m := ((min b.length 260) - 0)) RO rfl) V0) (by simp) (r_LabelX (key := key) (lb := (a.take (min a.length 260))) (cx := (b.take ((min b.length 260) - 0))) (ncx := ((min b.length 260) - 0)) (Acx := (cut A19 0 c19 1)) (ccx := (c19 - 0)) (bcx := b19) (qcx := 0) (k := n) LN LN (fun h => cut_zero ((fun h => g19a (by omega)) (by omega))) (by omega)) (by rintro _ _ ⟨A51, b51, c51, g51a, g51b, rfl, rfl⟩; rfl) ?_)
    rintro _ _ ⟨A51, b51, c51, g51a, g51b, rfl, rfl⟩
    refine At.p (some 46) (P_move rfl rfl) ?_
    refine At.p (some 52) (P_extract rfl rfl rfl) ?_
    refine At.p (some 53) (P_extract rfl rfl rfl) ?_
    refine At.p (some 12) (P_assign rfl rfl) ?_
    refine At.p (some 13) (P_assign rfl rfl) ?_
    refine At.nil ?_
    refine At.next ?_
    refine At.seq ?_
    refine At.region ?_
    refine At.s (S_callV (some 54) [] [] (vs := []) rfl en22 rfl V0 (by simp) (c_keys) (by rintro _ _ ⟨rfl, rfl⟩; rfl) ?_)
    rintro _ _ ⟨rfl, rfl⟩
    refine At.p (some 55) (P_move rfl rfl) ?_
    refine At.gy (t := 55) rfl (by first | rfl | (simp; done)) rfl rfl ?_
    refine At.p (some 56) (P_move rfl rfl) ?_
    refine At.gy (t := 55) rfl (by first | rfl | (simp; done)) rfl rfl ?_
    refine At.p (some 57) (P_cmp rfl rfl rfl rfl rfl rfl) ?_
    refine At.gy (t := 55) rfl (by first | rfl | (simp; done)) rfl rfl ?_
    refine At.p (some 58) (P_move rfl rfl) ?_
    refine At.gy (t := 55) rfl (by first | rfl | (simp; done)) rfl rfl ?_
    refine At.p (some 59) (P_eql_bool rfl Try.underlying4 rfl rfl) ?_
    refine At.p (some 60) (P_pick_t rfl rfl (by first | rfl | (simp; done)) rfl) ?_
    refine At.p (some 61) (P_move rfl rfl) ?_
    refine At.gy (t := 61) rfl (by first | rfl | (simp; done)) rfl rfl ?_
    refine At.p (some 62) (P_move rfl rfl) ?_
    refine At.gy (t := 61) rfl (by first | rfl | (simp; done)) rfl rfl ?_
    refine At.p (some 63) (P_cmp rfl rfl rfl rfl rfl rfl) ?_
    refine At.gy (t := 61) rfl (by first | rfl | (simp; done)) rfl rfl ?_
    refine At.p (some 64) (P_move rfl rfl) ?_
    refine At.gy (t := 64) rfl (by first | rfl | (simp; done)) rfl rfl ?_
    refine At.p (some 65) (P_move rfl rfl) ?_
    refine At.gy (t := 64) rfl (by first | rfl | (simp; done)) rfl rfl ?_
    refine At.p (some 66) (P_cmp rfl rfl rfl rfl rfl rfl) ?_
    refine At.gy (t := 61) rfl (by first | rfl | (simp; done)) rfl rfl ?_
    refine At.p (some 67) (P_pick_f rfl rfl (by first | rfl | (simp; done)) rfl) ?_
    refine At.p (some 68) (P_pick_t rfl rfl (by first | rfl | (simp; done)) rfl) ?_
    refine At.p (some 69) (P_move rfl rfl) ?_
    refine At.gy (t := 69) rfl (by first | rfl | (simp; done)) rfl rfl ?_
    refine At.p (some 70) (P_move rfl rfl) ?_
    refine At.gy (t := 69) rfl (by first | rfl | (simp; done)) rfl rfl ?_
    refine At.q (some 71) (Q_strA (l := ([] : List (BitVec 8))) (n := (([] : List (BitVec 8)).length)) (k := 43) LN rfl Try.underlying22 Try.underlying5 Try.underlying9 rfl (fun h => g43a (by omega)) (fun _ => ⟨rfl, rfl, rfl⟩)) ?_
    refine At.gy (t := 69) rfl (by first | rfl | (simp; done)) rfl rfl ?_
    refine At.p (some 72) (P_move rfl rfl) ?_
    refine At.gy (t := 69) rfl (by first | rfl | (simp; done)) rfl rfl ?_
    refine At.q (some 73) (Q_strA (l := ([] : List (BitVec 8))) (n := (([] : List (BitVec 8)).length)) (k := 51) LN rfl Try.underlying22 Try.underlying5 Try.underlying9 rfl (fun h => g51a (by omega)) (fun _ => ⟨rfl, rfl, rfl⟩)) ?_
    refine At.gy (t := 69) rfl (by first | rfl | (simp; done)) rfl rfl ?_
    refine At.p (some 74) (P_eql_str (a := ([] : List (BitVec 8))) (b := ([] : List (BitVec 8))) rfl rfl rfl) ?_
    refine At.p (some 75) (P_pick_t rfl rfl (by first | rfl | (simp; done)) rfl) ?_
    refine At.p (some 6) (P_assign rfl rfl) ?_
    refine At.nil ?_
    refine At.next ?_
    refine At.ret ?_
    have hq0 : (decide (([] : List (BitVec 8)) = ([] : List (BitVec 8)))) = true := (by first | rfl | (simp; done))
    refine At.give (.inl rfl) [] (rows' := []) (vs := [_]) rfl ⟨rfl, trivial⟩ rfl (by simp) (by simp) ⟨(by first | (rw [hq0]; try rfl; done) | (rw [← hq0]; try rfl; done) | (simp only [hq0]; try rfl; done) | (simp only [← hq0]; try rfl; done) | rfl), (by first | (rw [hq0]; try rfl; done) | (rw [← hq0]; try rfl; done) | (simp only [hq0]; try rfl; done) | (simp only [← hq0]; try rfl; done) | rfl)⟩

theorem l_Labels {key : List (BitVec 8)} {a : List (BitVec 8)} {b : List (BitVec 8)} {n : Int} (hkey : key.length = 32) :
    Con Try.prog 12 [aggK key, .agg ([strV a, strV b]).toArray, iV n] [] (fun v rs => v = .bool true ∧ rs = []) := by
  by_cases h : 0 ≤ n ∧ n ≤ 8160 ∧ 0 < a.length ∧ a.length ≤ 249 ∧ b.length ≤ 255
  · obtain ⟨m, rfl⟩ := Int.eq_ofNat_of_zero_le h.1
    exact l_Labels_t hkey (by omega) h.2.2
  · exact l_Labels_f hkey h

end Go.Proofs.Ytdkeadfhejkidaa
