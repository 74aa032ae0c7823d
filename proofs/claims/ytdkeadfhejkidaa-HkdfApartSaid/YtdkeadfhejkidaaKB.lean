import Derived.Test.YtdkeadfhejkidaaKA
namespace Go.Proofs.Ytdkeadfhejkidaa
set_option maxRecDepth 20000
set_option linter.unusedVariables false
set_option linter.unusedSimpArgs false
open Go.SE Go.RowKit
theorem c_Expand {key info : List (BitVec 8)} {ni : Nat} (n : Nat) {A : Option Addr} {ca bq q : Nat} (hni : info.length = ni) (hkey : key.length = 32) (hn : n ≤ 8160) (hA : 0 < ni → A = some ⟨bq, q, none⟩) (hl : ni ≤ 100000) :
    Con Try.prog 20 [aggK key, .slice A ni ca, iV (n : Int)] [pRow bq q info] (fun v rs => ∃ A b c r more, (0 < n → A = some ⟨b, 0, none⟩) ∧ n ≤ c ∧ v = .tuple #[.slice A n c, iV 0] ∧ rs = [⟨true, b, 0, 5, (expS key info n ++ more).map u8V, r⟩]) := by
  subst hni
  by_cases h : info = []
  · exact c_Expand0 key info n A ca bq q hkey hn hA h hl
  · exact c_Expand1 key info n A ca bq q hkey hn hA (List.length_pos_iff.2 h) hl

theorem c_ExpandE (key : List (BitVec 8)) (z : Int) (A : Option Addr) (ni ca : Nat) (hkey : key.length = 32) (hz : z < 0 ∨ 8160 < z) :
    Con Try.prog 20 [aggK key, .slice A ni ca, iV z] [] (fun v rs => v = .tuple #[.slice none 0 0, iV 1] ∧ rs = []) := by
  refine Con.enter Try.func20 Try.ntmps20 (Nat.le_of_ble_eq_true rfl) rfl fun w => ?_
  refine At.seq ?_
  have hk32 : key.length = 32 := hkey
  refine At.region ?_
  refine At.s (S_box (some 3) 3 (zs := key.map u8V) rfl rfl rfl (fun b3 => ?_))
  refine At.p (some 6) (P_assign rfl rfl) ?_
  refine At.p (some 7) (P_assign rfl rfl) ?_
  refine At.nil ?_
  refine At.next ?_
  refine At.seq ?_
  refine At.seq ?_
  refine At.region ?_
  refine At.p (some 12) (P_move rfl rfl) ?_
  refine At.p (some 13) (P_cmp rfl rfl rfl rfl rfl rfl) ?_
  refine At.p (some 14) (P_move rfl rfl) ?_
  refine At.gsplit (t := 14) (want := false) rfl (fun g1 => ?_) (fun g1 => ?_)
  ·
    refine At.gy (t := 14) rfl g1 rfl rfl ?_
    refine At.p (some 15) (P_move rfl rfl) ?_
    refine At.gy (t := 14) rfl g1 rfl rfl ?_
    refine At.p (some 16) (P_cmp rfl rfl rfl rfl rfl rfl) ?_
    refine At.p (some 17) (P_pick_f rfl rfl g1 rfl) ?_
    refine At.nil ?_
    refine At.next ?_
    refine At.cond rfl (fun h17 => ?_) (fun h17 => by first | (simp at h17; done) | (simp at h17; omega) | (simp_all; omega))
    refine At.seq ?_
    refine At.region ?_
    refine At.p (some 6) (P_assign rfl rfl) ?_
    refine At.p (some 7) (P_assign rfl rfl) ?_
    refine At.nil ?_
    refine At.next ?_
    refine At.ret ?_
    refine At.thn_r ?_
    refine At.give (.inl rfl) [] (rows' := []) (vs := [_, _]) rfl ⟨rfl, rfl, trivial⟩ rfl (by simp) (by simp) ⟨rfl, rfl⟩
  ·
    refine At.gn (some 15) (t := 14) rfl g1 rfl rfl ?_
    refine At.gn (some 16) (t := 14) rfl g1 rfl rfl ?_
    refine At.p (some 17) (P_pick_t rfl rfl g1 rfl) ?_
    refine At.nil ?_
    refine At.next ?_
    refine At.cond rfl (fun h17 => ?_) (fun h17 => by first | (simp at h17; done) | (simp at h17; omega) | (simp_all; omega))
    refine At.seq ?_
    refine At.region ?_
    refine At.p (some 6) (P_assign rfl rfl) ?_
    refine At.p (some 7) (P_assign rfl rfl) ?_
    refine At.nil ?_
    refine At.next ?_
    refine At.ret ?_
    refine At.thn_r ?_
    refine At.give (.inl rfl) [] (rows' := []) (vs := [_, _]) rfl ⟨rfl, rfl, trivial⟩ rfl (by simp) (by simp) ⟨rfl, rfl⟩

theorem r_ExpandE (key : List (BitVec 8)) (z : Int) (A : Option Addr) (ni ca : Nat) (hkey : key.length = 32) (hz : z < 0 ∨ 8160 < z) :
    Con Try.prog 21 [aggK key, .slice A ni ca, iV z] [] (fun v rs => v = .tuple #[.slice none 0 0, .bool false] ∧ rs = []) := by
  refine Con.enter Try.func21 Try.ntmps21 (Nat.le_of_ble_eq_true rfl) rfl fun w => ?_
  refine At.seq ?_
  have hk32 : key.length = 32 := hkey
  refine At.region ?_
  refine At.s (S_box (some 3) 3 (zs := key.map u8V) rfl rfl rfl (fun b3 => ?_))
  refine At.p (some 6) (P_assign rfl rfl) ?_
  refine At.p (some 7) (P_assign rfl rfl) ?_
  refine At.nil ?_
  refine At.next ?_
  refine At.seq ?_
  refine At.seq ?_
  refine At.region ?_
  refine At.p (some 13) (P_move rfl rfl) ?_
  refine At.p (some 14) (P_cmp rfl rfl rfl rfl rfl rfl) ?_
  refine At.p (some 15) (P_move rfl rfl) ?_
  refine At.gsplit (t := 15) (want := false) rfl (fun g1 => ?_) (fun g1 => ?_)
  ·
    refine At.gy (t := 15) rfl g1 rfl rfl ?_
    refine At.p (some 16) (P_move rfl rfl) ?_
    refine At.gy (t := 15) rfl g1 rfl rfl ?_
    refine At.p (some 17) (P_cmp rfl rfl rfl rfl rfl rfl) ?_
    refine At.p (some 18) (P_pick_f rfl rfl g1 rfl) ?_
    refine At.nil ?_
    refine At.next ?_
    refine At.cond rfl (fun h18 => ?_) (fun h18 => by first | (simp at h18; done) | (simp at h18; omega) | (simp_all; omega))
    refine At.seq ?_
    refine At.region ?_
    refine At.p (some 6) (P_assign rfl rfl) ?_
    refine At.p (some 7) (P_assign rfl rfl) ?_
    refine At.nil ?_
    refine At.next ?_
    refine At.ret ?_
    refine At.thn_r ?_
    refine At.give (.inl rfl) [] (rows' := []) (vs := [_, _]) rfl ⟨rfl, rfl, trivial⟩ rfl (by simp) (by simp) ⟨rfl, rfl⟩
  ·
    refine At.gn (some 16) (t := 15) rfl g1 rfl rfl ?_
    refine At.gn (some 17) (t := 15) rfl g1 rfl rfl ?_
    refine At.p (some 18) (P_pick_t rfl rfl g1 rfl) ?_
    refine At.nil ?_
    refine At.next ?_
    refine At.cond rfl (fun h18 => ?_) (fun h18 => by first | (simp at h18; done) | (simp at h18; omega) | (simp_all; omega))
    refine At.seq ?_
    refine At.region ?_
    refine At.p (some 6) (P_assign rfl rfl) ?_
    refine At.p (some 7) (P_assign rfl rfl) ?_
    refine At.nil ?_
    refine At.next ?_
    refine At.ret ?_
    refine At.thn_r ?_
    refine At.give (.inl rfl) [] (rows' := []) (vs := [_, _]) rfl ⟨rfl, rfl, trivial⟩ rfl (by simp) (by simp) ⟨rfl, rfl⟩

set_option maxHeartbeats 1000000 in
theorem r_Expand_ (key info : List (BitVec 8)) (n : Nat) (A : Option Addr) (ca bq q : Nat) (hkey : key.length = 32) (hn : n ≤ 8160) (hA : 0 < info.length → A = some ⟨bq, q, none⟩) (hl : info.length ≤ 100000) :
    Con Try.prog 21 [aggK key, .slice A info.length ca, iV (n : Int)] [pRow bq q info] (fun v rs => ∃ A b c r more, (0 < n → A = some ⟨b, 0, none⟩) ∧ n ≤ c ∧ v = .tuple #[.slice A n c, .bool true] ∧ rs = [⟨true, b, 0, 5, (expS key info n ++ more).map u8V, r⟩]) := by
  refine Con.enter Try.func21 Try.ntmps21 (Nat.le_of_ble_eq_true rfl) rfl fun w => ?_
  refine At.seq ?_
  have hk32 : key.length = 32 := hkey
  refine At.region ?_
  refine At.s (S_box (some 3) 3 (zs := key.map u8V) rfl rfl rfl (fun b3 => ?_))
  refine At.p (some 6) (P_assign rfl rfl) ?_
  refine At.p (some 7) (P_assign rfl rfl) ?_
  refine At.nil ?_
  refine At.next ?_
  refine At.seq ?_
  refine At.seq ?_
  refine At.region ?_
  refine At.p (some 13) (P_move rfl rfl) ?_
  refine At.p (some 14) (P_cmp rfl rfl rfl rfl rfl rfl) ?_
  refine At.p (some 15) (P_move rfl rfl) ?_
  refine At.gy (t := 15) rfl (by simp) rfl rfl ?_
  refine At.p (some 16) (P_move rfl rfl) ?_
  refine At.gy (t := 15) rfl (by simp) rfl rfl ?_
  refine At.p (some 17) (P_cmp rfl rfl rfl rfl rfl rfl) ?_
  refine At.p (some 18) (P_pick_f rfl rfl (by simp) rfl) ?_
  refine At.nil ?_
  refine At.next ?_
  refine At.cond rfl (fun h18 => by simp at h18; omega) (fun h18 => ?_)
  refine At.skip ?_
  refine At.next ?_
  refine At.seq ?_
  refine At.region ?_
  refine At.p (some 8) (P_assign rfl rfl) ?_
  refine At.p (some 9) (P_assign rfl rfl) ?_
  refine At.nil ?_
  refine At.next ?_
  refine At.seq ?_
  refine At.seq ?_
  refine At.empty 8 0 5 ?_
  refine At.empty 9 0 5 ?_
  refine At.region ?_
  refine At.p (some 10) (P_assign rfl rfl) ?_
  refine At.nil ?_
  refine At.next ?_
  refine At.block ?_
  refine At.loopx (I := fun m fr H => ∃ (i b8 c8 b9 c9 : Nat) (A8 A9 : Option Addr), m = n + 32 - 32 * i ∧ fr = frOf [(1, .slice A info.length ca), (2, iV (n : Int)), (3, ptr b3 0), (8, .slice A8 (oK key info i).length c8), (9, .slice A9 (tK key info i).length c9), (10, iV ((i + 1 : Nat) : Int))] ∧ H = hOf [(0, pRow bq q info), (3, ⟨true, b3, 0, 25, key.map u8V, 0⟩), (8, ⟨true, b8, 0, 5, (oK key info i).map u8V, c8 - (oK key info i).length⟩), (9, ⟨true, b9, 0, 5, (tK key info i).map u8V, c9 - (tK key info i).length⟩)] ∧ 32 * i < n + 32 ∧ (0 < c8 → A8 = some ⟨b8, 0, none⟩) ∧ (oK key info i).length ≤ c8 ∧ (0 < c9 → A9 = some ⟨b9, 0, none⟩) ∧ (tK key info i).length ≤ c9) ?_ ?_
  · intro Kc0 hKc0
    refine At.to [(1, _), (2, _), (3, _), (8, _), (9, _), (10, iV ((0 + 1 : Nat) : Int))] [(0, _), (3, _), (8, ⟨true, 0, 0, 5, (oK key info 0).map u8V, 0 - (oK key info 0).length⟩), (9, ⟨true, 0, 0, 5, (tK key info 0).map u8V, 0 - (tK key info 0).length⟩)] (AllL.cons_ (rfl) (AllL.cons_ (rfl) (AllL.cons_ (rfl) (AllL.cons_ (rfl) (AllL.cons_ (rfl) (AllL.cons_ (rfl) trivial)))))) (AllL.cons_ (rfl) (AllL.cons_ (rfl) (AllL.cons_ (rfl) (AllL.cons_ (rfl) trivial)))) ?_
    exact hKc0 _ _ _ ⟨0, 0, 0, 0, 0, none, none, rfl, rfl, rfl, by omega, fun h => absurd h (by decide), by simp [oK], fun h => absurd h (by decide), by simp [tK]⟩
  · rintro m fr H ⟨i, b8, c8, b9, c9, A8, A9, rfl, rfl, rfl, hi, hA8, hc8, hA9, hc9⟩ Kc0 hKc0
    refine At.seq ?_
    refine At.seq ?_
    refine At.region ?_
    refine At.p (some 19) (P_move rfl rfl) ?_
    refine At.p (some 20) (P_len_sl rfl rfl ⟨_, Try.underlying22⟩ rfl) ?_
    refine At.p (some 21) (P_move rfl rfl) ?_
    refine At.p (some 22) (P_cmp rfl rfl rfl rfl rfl rfl) ?_
    refine At.nil ?_
    refine At.next ?_
    refine At.cond rfl (fun h22 => ?_) (fun h22 => ?_)
    · -- cond 22 t
      have hol := oK_len key info i
      have hlt : 32 * i < n := by simp at h22; omega
      have htl := tK_len key info i
      have htl0 : (tK key info i).length ≤ 32 := by rw [htl]; split <;> omega
      have hB1 : ((tK key info i) ++ info).length = (tK key info i).length + info.length := by simp
      obtain ⟨B, hBe⟩ : ∃ z, z = (tK key info i) ++ info ++ [BitVec.ofNat 8 (i + 1)] := ⟨_, rfl⟩
      have hB2 : B.length = (tK key info i).length + info.length + 1 := by rw [hBe]; simp; omega
      have hml := macS_len key B
      have hT : tK key info (i + 1) = macS key B := by rw [tK, ← hBe]
      have htl1 : (tK key info (i + 1)).length = 32 := by rw [hT, hml]
      refine At.skip ?_
      refine At.next ?_
      refine At.seq ?_
      refine At.block ?_
      refine At.seq ?_
      refine At.region ?_
      refine At.s (S_buildSlice0 (some 25) 25 rfl Try.underlying22 sz5 (fun b25 => ?_))
      refine At.p (some 26) (P_move rfl rfl) ?_
      refine At.s (S_appendM (some 27) 25 ((tK key info i)) (f := u8V) (l := []) (L := (tK key info i)) rfl Try.underlying22 Try.underlying22 (.inr ⟨_, rfl⟩) sz5 by5 ze5 rfl rfl (fun h => ⟨absurd h (by omega), rfl⟩) rfl rfl (Src.row (k := 9) (j := 0) rfl (fun h => hA9 (by omega)) (fun _ => ⟨rfl, rfl, rfl⟩) (by simp [List.take_of_length_le]) (by simp)) (fun _ => rfl) (by omega) (by omega) rfl rfl ?_)
      intro A27 b27 c27 g27a g27b
      refine At.p (some 28) (P_move rfl rfl) ?_
      refine At.s (S_appendM (some 29) 25 (((tK key info i) ++ info)) (f := u8V) (l := (tK key info i)) (L := info) rfl Try.underlying22 Try.underlying22 (.inr ⟨_, rfl⟩) sz5 by5 ze5 rfl rfl (fun h => ⟨g27a h, rfl⟩) rfl (by omega) (Src.row (k := 0) (j := 0) rfl hA (fun _ => ⟨rfl, rfl, rfl⟩) (by simp [pRow, List.take_of_length_le]) (by simp)) (fun _ => rfl) (by omega) (by omega) rfl rfl ?_)
      intro A29 b29 c29 g29a g29b
      refine At.p (some 30) (P_move rfl rfl) ?_
      refine At.p (some 31) (P_conv_iwE (b := BitVec.ofNat 8 (i + 1)) (BitVec.ofInt_natCast _ _) UK.u8 rfl Try.underlying3 Try.underlying5 rfl) ?_
      refine At.s (S_buildSliceV (some 32) 32 ([BitVec.ofNat 8 (i + 1)].map u8V) rfl Try.underlying22 sz5 ze5 rfl rfl (by decide) (by decide) rfl rfl (fun b32 => ?_))
      refine At.s (S_appendM (some 33) 25 (B) (f := u8V) (l := ((tK key info i) ++ info)) (L := [BitVec.ofNat 8 (i + 1)]) rfl Try.underlying22 Try.underlying22 (.inr ⟨_, rfl⟩) sz5 by5 ze5 rfl rfl (fun h => ⟨g29a h, rfl⟩) rfl (by omega) (Src.row (k := 32) (j := 0) rfl (fun _ => rfl) (fun _ => ⟨rfl, rfl, rfl⟩) rfl rfl) (fun _ => rfl) (by omega) (by omega) hBe.symm rfl ?_)
      intro A33 b33 c33 g33a g33b
      refine At.p (some 11) (P_assign rfl rfl) ?_
      refine At.nil ?_
      refine At.next ?_
      refine At.seq ?_
      refine At.region ?_
      refine At.s (S_buildSlice0 (some 34) 34 rfl Try.underlying22 sz5 (fun b34 => ?_))
      refine At.p (some 35) (P_slice_arr1 rfl Try.underlying25 sz5 rfl rfl rfl rfl (by omega) (by omega) (by omega) (by omega)) ?_
      refine At.s (S_appendM (some 36) 34 (key) (f := u8V) (l := []) (L := key) rfl Try.underlying22 Try.underlying22 (.inr ⟨_, rfl⟩) sz5 by5 ze5 rfl rfl (fun h => ⟨absurd h (by omega), rfl⟩) rfl rfl (Src.row (k := 3) (j := 0) rfl (fun _ => rfl) (fun _ => ⟨rfl, rfl, rfl⟩) (by rw [List.drop_zero, List.take_of_length_le (by rw [List.length_map, hkey]; decide)]) (by rw [List.length_map, hkey])) (fun _ => rfl) (by omega) (by omega) rfl hkey ?_)
      intro A36 b36 c36 g36a g36b
      refine At.p (some 37) (P_move rfl rfl) ?_
      refine At.s (S_callV (some 38) [(34, _), (25, _)] [] (vs := [_, _]) rfl en19 rfl (VN (by simp) rfl View.all (VN (by simp) rfl View.all V0)) (by simp) (r_MacN (key := key) (b := B) (n := key.length) (nb := B.length) rfl rfl (fun h => g36a (by omega)) (fun h => g33a (by omega)) (by omega) (by omega)) (by rintro _ _ ⟨rfl, rfl⟩; rfl) ?_)
      rintro _ _ ⟨rfl, rfl⟩
      refine At.s (S_alloc (some 12) 12 (zs := (List.replicate 32 0#8).map u8V) rfl ze25 rfl (fun b12 => ?_))
      refine At.s (S_storeA none (k := 12) (vs := _) rfl rfl rfl (by first | (rw [sz25]; simp <;> omega) | exact sz25) rfl (by first | (intro u hu; obtain ⟨z, _, rfl⟩ := List.mem_map.1 hu; rfl) | simp [Value.oneCell']) (by first | (simp; done) | (intro h; have h2 := congrArg List.length h; simp only [List.length_map, List.length_nil] at h2; omega) | (intro h; cases h)) rfl (by first | omega | (simp <;> omega) | rfl | (simp [*]; done)) ?_)
      refine At.nil ?_
      refine At.next ?_
      refine At.seq ?_
      refine At.region ?_
      refine At.s (S_buildSlice0 (some 39) 39 rfl Try.underlying22 sz5 (fun b39 => ?_))
      refine At.p (some 40) (P_slice_arr1 rfl Try.underlying25 sz5 rfl rfl rfl rfl (by omega) (by omega) (by omega) (by omega)) ?_
      refine At.s (S_appendM (some 41) 39 (tK key info (i + 1)) (f := u8V) (l := []) (L := tK key info (i + 1)) rfl Try.underlying22 Try.underlying22 (.inr ⟨_, rfl⟩) sz5 by5 ze5 rfl rfl (fun h => ⟨absurd h (by omega), rfl⟩) rfl rfl (Src.row (k := 12) (j := 0) rfl (fun _ => rfl) (fun _ => ⟨rfl, rfl, rfl⟩) (by rw [List.drop_zero, hT, List.take_of_length_le (by rw [List.length_map, hml]; decide)]) (by rw [List.length_map, htl1])) (fun _ => rfl) (by omega) (by omega) rfl htl1 ?_)
      intro A41 b41 c41 g41a g41b
      refine At.p (some 9) (P_assign rfl rfl) ?_
      refine At.nil ?_
      refine At.next ?_
      refine At.swap 9 39 ?_
      refine At.region ?_
      refine At.p (some 42) (P_move rfl rfl) ?_
      refine At.p (some 43) (P_move rfl rfl) ?_
      refine At.s (S_appendM (some 44) 8 (oK key info (i + 1)) (f := u8V) (l := oK key info i) (L := tK key info (i + 1)) rfl Try.underlying22 Try.underlying22 (.inr ⟨_, rfl⟩) sz5 by5 ze5 rfl rfl (fun h => ⟨hA8 h, rfl⟩) rfl (by omega) (Src.row (k := 9) (j := 0) rfl (fun h => g41a (by omega)) (fun _ => ⟨rfl, rfl, rfl⟩) (by rw [List.drop_zero, List.take_of_length_le (by rw [List.length_map]; exact Nat.le_refl _)]) (by rw [List.length_map, Nat.mul_one])) (fun _ => rfl) (by omega) (by omega) rfl rfl ?_)
      intro A8 b8 c8 g1 g2
      refine At.p (some 8) (P_assign rfl rfl) ?_
      refine At.nil ?_
      refine At.inb_n ?_
      refine At.next ?_
      refine At.region ?_
      refine At.p (some 23) (P_move rfl rfl) ?_
      refine At.p (some 24) (P_add_i rfl rfl rfl (by omega)) ?_
      refine At.p (some 10) (P_assign rfl rfl) ?_
      refine At.nil ?_
      refine At.next ?_
      refine At.to [(1, _), (2, _), (3, _), (8, _), (9, _), (10, iV ((i + 1 + 1 : Nat) : Int))] [(0, _), (3, _), (8, _), (9, _)] (AllL.cons_ (rfl) (AllL.cons_ (rfl) (AllL.cons_ (rfl) (AllL.cons_ (rfl) (AllL.cons_ (rfl) (AllL.cons_ (congrArg (fun z => some (iV z)) (by omega)) trivial)))))) (AllL.cons_ (rfl) (AllL.cons_ (rfl) (AllL.cons_ (rfl) (AllL.cons_ (rfl) trivial)))) ?_
      exact hKc0 _ _ _ (by omega) ⟨i + 1, _, _, _, _, _, _, rfl, rfl, rfl, by omega, g1, g2, g41a, g41b⟩
    · -- cond 22 f
      have hol := oK_len key info i
      have hge : n ≤ 32 * i := by simp at h22; omega
      refine At.exit ?_
      refine At.thn_e ?_
      refine At.thn_e ?_
      refine At.inb_hit ?_
      refine At.next ?_
      refine At.seq ?_
      refine At.region ?_
      refine At.p (some 45) (P_move rfl rfl) ?_
      refine At.p (some 46) (P_move rfl rfl) ?_
      refine At.p (some 47) (P_slice_sl (h := n) rfl Try.underlying22 sz5 rfl rfl ⟨_, _, rfl, by omega⟩ rfl (by omega) (by omega) (by omega)) ?_
      refine At.p (some 6) (P_assign rfl rfl) ?_
      refine At.p (some 7) (P_assign rfl rfl) ?_
      refine At.nil ?_
      refine At.next ?_
      refine At.ret ?_
      refine At.give (.inl rfl) [8] (rows' := [_]) (vs := [_, _]) rfl ⟨rfl, rfl, trivial⟩ rfl (by simp) (by simp) ⟨_, b8, _, _, (oK key info i).drop n, fun h => cut_zero (hA8 (by omega)), by omega, rfl, by rw [← oK_split key info hge hi]⟩

theorem r_Expand {key info : List (BitVec 8)} {ni : Nat} (n : Nat) {A : Option Addr} {ca bq q : Nat} (hni : info.length = ni) (hkey : key.length = 32) (hn : n ≤ 8160) (hA : 0 < ni → A = some ⟨bq, q, none⟩) (hl : ni ≤ 100000) :
    Con Try.prog 21 [aggK key, .slice A ni ca, iV (n : Int)] [pRow bq q info] (fun v rs => ∃ A b c r more, (0 < n → A = some ⟨b, 0, none⟩) ∧ n ≤ c ∧ v = .tuple #[.slice A n c, .bool true] ∧ rs = [⟨true, b, 0, 5, (expS key info n ++ more).map u8V, r⟩]) := by
  subst hni
  exact r_Expand_ key info n A ca bq q hkey hn hA hl
end Go.Proofs.Ytdkeadfhejkidaa
