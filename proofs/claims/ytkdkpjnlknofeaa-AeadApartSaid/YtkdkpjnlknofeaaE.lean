import Derived.Test.YtkdkpjnlknofeaaD
namespace Go.Proofs.Ytkdkpjnlknofeaa
set_option maxRecDepth 20000
set_option linter.unusedVariables false
set_option linter.unusedSimpArgs false
open Go.SE Go.RowKit
theorem c_StreamN {key nonce l : List (BitVec 8)} {count : BitVec 32} {A : Option Addr} {n ca bq q : Nat} (hn : l.length = n) (hkey : key.length = 32) (hnonce : nonce.length = 12) (hA : 0 < n → A = some ⟨bq, q, none⟩) (hl : n ≤ 1000000) :
    Con Try.prog 18 [aggB key, u32V count, aggB nonce, .slice A n ca] [bytesRow bq q l] (fun v rs => ∃ A2 b2 c2, (0 < c2 → A2 = some ⟨b2, 0, none⟩) ∧ n ≤ c2 ∧ v = .slice A2 n c2 ∧ rs = [⟨true, b2, 0, 5, (streamS key count nonce l).map u8V, c2 - n⟩]) := by
  subst hn
  exact c_Stream key nonce l count A ca bq q hkey hnonce hA hl
theorem r_StreamN {key nonce l : List (BitVec 8)} {count : BitVec 32} {A : Option Addr} {n ca bq q : Nat} (hn : l.length = n) (hkey : key.length = 32) (hnonce : nonce.length = 12) (hA : 0 < n → A = some ⟨bq, q, none⟩) (hl : n ≤ 1000000) :
    Con Try.prog 19 [aggB key, u32V count, aggB nonce, .slice A n ca] [bytesRow bq q l] (fun v rs => ∃ A2 b2 c2, (0 < c2 → A2 = some ⟨b2, 0, none⟩) ∧ n ≤ c2 ∧ v = .slice A2 n c2 ∧ rs = [⟨true, b2, 0, 5, (streamS key count nonce l).map u8V, c2 - n⟩]) := by
  subst hn
  exact r_Stream key nonce l count A ca bq q hkey hnonce hA hl
theorem stream_twice (key : List (BitVec 8)) (count : BitVec 32) (nonce l : List (BitVec 8)) : streamS key count nonce (streamS key count nonce l) = l := by
  apply List.ext_getElem (by simp [streamS_len])
  intro i h1 h2
  have h3 : i < (streamS key count nonce l).length := by simpa [streamS_len] using h2
  simp [streamS, h2]
  rw [BitVec.xor_assoc, BitVec.xor_self, BitVec.xor_zero]
theorem keyAt_later (key : List (BitVec 8)) (count : BitVec 32) (nonce : List (BitVec 8)) (k j : Nat) : keyAt key count nonce (64 * k + j) = keyAt key (count + BitVec.ofNat 32 k) nonce j := by
  unfold keyAt
  rw [show (64 * k + j) / 64 = k + j / 64 by omega, show (64 * k + j) % 64 = j % 64 by omega, BitVec.ofNat_add, BitVec.add_assoc]
theorem stream_later (key : List (BitVec 8)) (count : BitVec 32) (nonce l : List (BitVec 8)) (k : Nat) : (streamS key count nonce l).drop (64 * k) = streamS key (count + BitVec.ofNat 32 k) nonce (l.drop (64 * k)) := by
  apply List.ext_getElem (by simp [streamS])
  intro i h1 h2
  have h3 : i < (l.drop (64 * k)).length := by simpa [streamS] using h2
  simp at h3
  simp only [List.getElem_drop, streamS, List.getElem_map, List.getElem_range, keyAt_later]
  congr 1
  simp [List.getD_eq_getElem?_getD, List.getElem?_drop]
theorem umod_nat (x m : BitVec 64) (h0 : 0 < m.toNat) (h1 : m.toNat ≤ 4611686018427387904) : ∃ k : Nat, k < m.toNat ∧ (x % m).toInt = (k : Int) := by
  refine ⟨(x % m).toNat, ?_, ?_⟩
  · rw [BitVec.toNat_umod]; exact Nat.mod_lt _ h0
  · have h2 : (x % m).toNat < m.toNat := by rw [BitVec.toNat_umod]; exact Nat.mod_lt _ h0
    rw [BitVec.toInt_eq_toNat_cond, if_pos (by omega)]
def nonceS (c : BitVec 32) : List (BitVec 8) := [c.setWidth 8, 5#8, 0#8, 0#8, 0#8, 0#8, 0#8, 0#8, 0#8, 0#8, 0#8, 0#8]

theorem l_Streams (key l : List (BitVec 8)) (count : BitVec 32) (A : Option Addr) (ca bq q : Nat) (hkey : key.length = 32) (hA : 0 < l.length → A = some ⟨bq, q, none⟩) (hca : l.length ≤ ca) :
    Con Try.prog 5 [aggB key, u32V count, .slice A l.length ca] [bytesRow bq q l] (fun v rs => v = .bool true ∧ rs = []) := by
  refine Con.enter Try.func5 Try.ntmps5 (Nat.le_of_ble_eq_true rfl) rfl fun w => ?_
  refine At.seq ?_
  obtain ⟨n, hn⟩ : ∃ n, n = min l.length 300 := ⟨_, rfl⟩
  have hn2 : (l.take n).length = n := by simp; omega
  have hn3 : n ≤ 1000000 := by omega
  have hs2 : (streamS key count (nonceS count) (l.take n)).length = n := by rw [streamS_len, hn2]
  have hs3 : (streamS key count (nonceS count) (streamS key count (nonceS count) (l.take n))).length = n := by rw [streamS_len, hs2]
  have hk32 : key.length = 32 := hkey
  have hnl : (nonceS count).length = 12 := rfl
  refine At.region ?_
  refine At.s (S_box (some 3) 3 (zs := key.map u8V) rfl rfl rfl (fun b3 => ?_))
  refine At.p (some 6) (P_assign rfl rfl) ?_
  refine At.nil ?_
  refine At.next ?_
  refine At.seq ?_
  refine At.region ?_
  refine At.p (some 10) (P_move rfl rfl) ?_
  refine At.p (some 11) (P_move rfl rfl) ?_
  refine At.p (some 12) (P_len_sl rfl rfl ⟨_, Try.underlying31⟩ rfl) ?_
  refine At.p (some 13) (P_min2 rfl rfl rfl rfl) ?_
  refine At.p (some 14) (P_slice_sl (h := n) rfl Try.underlying31 sz5 rfl rfl ⟨_, _, rfl, by omega⟩ rfl (by omega) (by omega) (by omega)) ?_
  refine At.p (some 2) (P_assign rfl rfl) ?_
  refine At.nil ?_
  refine At.next ?_
  refine At.seq ?_
  refine At.region ?_
  refine At.p (some 15) (P_move rfl rfl) ?_
  refine At.p (some 16) (P_conv_ww UK.u8 (m := 32) rfl Try.underlying23 Try.underlying5 rfl) ?_
  refine At.p (some 17) (P_build_arr (cs := ((nonceS count).map u8V).toArray) (parts := _) (vs := [(0, _), (1, _)]) rfl Try.underlying24 sz5 ze24 rfl rfl) ?_
  refine At.s (S_alloc (some 7) 7 (zs := (List.replicate 12 0#8).map u8V) rfl ze24 rfl (fun b7 => ?_))
  refine At.s (S_storeA none (k := 7) (vs := _) rfl rfl rfl (by first | (rw [sz24]; simp <;> omega) | exact sz24) rfl (by first | (intro u hu; obtain ⟨z, _, rfl⟩ := List.mem_map.1 hu; rfl) | simp [Value.oneCell']) (by first | (simp; done) | (intro h; have h2 := congrArg List.length h; simp only [List.length_map, List.length_nil] at h2; omega) | (intro h; cases h)) rfl (by first | omega | (simp <;> omega) | rfl | (simp [*]; done)) ?_)
  refine At.nil ?_
  refine At.next ?_
  refine At.seq ?_
  refine At.region ?_
  refine At.p (some 18) (P_move rfl rfl) ?_
  refine At.q (some 19) (Q_strN (l := l.take n) (n := n) (k := 0) (j := 0) (r := bytesRow bq q l) hn2 rfl Try.underlying31 Try.underlying5 Try.underlying9 rfl (fun h => cut_zero (hA (by omega))) (by exact fun _ => ⟨rfl, rfl, rfl⟩) (by simp [List.take_of_length_le, hs2, hs3, hn2, List.map_take, bytesRow])) ?_
  refine At.p (some 8) (P_assign rfl rfl) ?_
  refine At.nil ?_
  refine At.next ?_
  refine At.seq ?_
  refine At.region ?_
  refine At.q (some 20) (Q_loadA (k := 3) rfl rfl Try.underlying22 rfl sz22 (by first | omega | (simp <;> omega)) rfl) ?_
  refine At.p (some 21) (P_move rfl rfl) ?_
  refine At.q (some 22) (Q_loadA (k := 7) rfl rfl Try.underlying24 rfl sz24 (by first | omega | (simp <;> omega)) rfl) ?_
  refine At.p (some 23) (P_move rfl rfl) ?_
  refine At.s (S_callV (some 24) [(0, _)] [9] (vs := [_, _, _, _]) rfl en18 rfl (VN (by simp) rfl (View.sub (j := 0) (m := n) rfl rfl) V0) (by simp) (c_StreamN (l := l.take n) (n := n) hn2 hkey rfl (fun h => cut_zero (hA (by omega))) hn3) (by rintro _ _ ⟨A9, b9, c9, g9a, g9b, rfl, rfl⟩; rfl) ?_)
  rintro _ _ ⟨A9, b9, c9, g9a, g9b, rfl, rfl⟩
  refine At.p (some 9) (P_assign rfl rfl) ?_
  refine At.nil ?_
  refine At.next ?_
  refine At.seq ?_
  refine At.draws 26 [] [.q false [0, 1, 2, 3, 4, 5, 6, 7], .e false 8, .q false [9, 10, 11, 12, 13, 14, 15, 16, 19], .e false 17, .q false [18, 20, 21, 22, 23, 24, 25]] (by kernel_rfl) (by kernel_rfl) ?_
  refine At.wcV (some 25) [] (vs := []) rfl en15 rfl V0 (c_streams) ?_
  refine At.wp (some 26) (P_move rfl rfl) ?_
  refine At.wgy (some 27) (t := 26) rfl rfl rfl rfl (P_move rfl rfl) ?_
  refine At.wgyq (some 28) (t := 26) rfl rfl rfl rfl (Q_strN (l := streamS key count (nonceS count) (l.take n)) (n := n) (k := 9) (j := 0) (r := ⟨true, b9, 0, 5, (streamS key count (nonceS count) (l.take n)).map u8V, c9 - n⟩) hs2 rfl Try.underlying31 Try.underlying5 Try.underlying9 rfl (fun h => g9a (by omega)) (by exact fun _ => ⟨rfl, rfl, rfl⟩) (by simp [List.take_of_length_le, hs2, hs3, hn2, List.map_take, bytesRow])) ?_
  refine At.wgyq (some 29) (t := 26) rfl rfl rfl rfl (Q_loadA (k := 3) rfl rfl Try.underlying22 rfl sz22 (by first | omega | (simp <;> omega)) rfl) ?_
  refine At.wgy (some 30) (t := 26) rfl rfl rfl rfl (P_move rfl rfl) ?_
  refine At.wgyq (some 31) (t := 26) rfl rfl rfl rfl (Q_loadA (k := 7) rfl rfl Try.underlying24 rfl sz24 (by first | omega | (simp <;> omega)) rfl) ?_
  refine At.wgy (some 32) (t := 26) rfl rfl rfl rfl (P_move rfl rfl) ?_
  refine At.wqn ?_
  refine At.wey (t := 26) rfl rfl rfl rfl ?_
  refine SStep.up (S_callV (some 33) [(0, _)] [20] (vs := [_, _, _, _]) rfl en19 rfl (VN (by simp) rfl (View.sub (j := 0) (m := n) rfl rfl) V0) (by simp) (r_StreamN (l := l.take n) (n := n) hn2 hkey rfl (fun h => cut_zero (hA (by omega))) hn3) (by rintro _ _ ⟨A20, b20, c20, g20a, g20b, rfl, rfl⟩; rfl) ?_)
  rintro _ _ ⟨A20, b20, c20, g20a, g20b, rfl, rfl⟩
  refine At.wgyq (some 34) (t := 26) rfl rfl rfl rfl (Q_strN (l := streamS key count (nonceS count) (l.take n)) (n := n) (k := 20) (j := 0) (r := ⟨true, b20, 0, 5, (streamS key count (nonceS count) (l.take n)).map u8V, c20 - n⟩) hs2 rfl Try.underlying31 Try.underlying5 Try.underlying9 rfl (fun h => g20a (by omega)) (by exact fun _ => ⟨rfl, rfl, rfl⟩) (by simp [List.take_of_length_le, hs2, hs3, hn2, List.map_take, bytesRow])) ?_
  refine At.wgy (some 35) (t := 26) rfl rfl rfl rfl (P_eql_str rfl rfl rfl) ?_
  refine At.wp (some 36) (P_pick_t rfl rfl rfl rfl) ?_
  refine At.wp (some 37) (P_move rfl rfl) ?_
  refine At.wgyq (some 38) (t := 37) rfl (by simp) rfl rfl (Q_loadA (k := 3) rfl rfl Try.underlying22 rfl sz22 (by first | omega | (simp <;> omega)) rfl) ?_
  refine At.wgy (some 39) (t := 37) rfl (by simp) rfl rfl (P_move rfl rfl) ?_
  refine At.wgyq (some 40) (t := 37) rfl (by simp) rfl rfl (Q_loadA (k := 7) rfl rfl Try.underlying24 rfl sz24 (by first | omega | (simp <;> omega)) rfl) ?_
  refine At.wgy (some 41) (t := 37) rfl (by simp) rfl rfl (P_move rfl rfl) ?_
  refine At.wgy (some 44) (t := 37) rfl (by simp) rfl rfl (P_move rfl rfl) ?_
  refine At.wqn ?_
  refine At.wey (t := 37) rfl (by simp) rfl rfl ?_
  refine SStep.up (S_callV (some 42) [(9, _)] [21] (vs := [_, _, _, _]) rfl en18 rfl (VN (by simp) rfl View.all V0) (by simp) (c_StreamN (l := streamS key count (nonceS count) (l.take n)) (n := n) hs2 hkey rfl (fun h => g9a (by omega)) hn3) (by rintro _ _ ⟨A21, b21, c21, g21a, g21b, rfl, rfl⟩; rfl) ?_)
  rintro _ _ ⟨A21, b21, c21, g21a, g21b, rfl, rfl⟩
  refine At.wgyq (some 43) (t := 37) rfl (by simp) rfl rfl (Q_strN (l := streamS key count (nonceS count) (streamS key count (nonceS count) (l.take n))) (n := n) (k := 21) (j := 0) (r := ⟨true, b21, 0, 5, (streamS key count (nonceS count) (streamS key count (nonceS count) (l.take n))).map u8V, c21 - n⟩) hs3 rfl Try.underlying31 Try.underlying5 Try.underlying9 rfl (fun h => g21a (by omega)) (by exact fun _ => ⟨rfl, rfl, rfl⟩) (by simp [List.take_of_length_le, hs2, hs3, hn2, List.map_take, bytesRow])) ?_
  refine At.wgy (some 45) (t := 37) rfl (by simp) rfl rfl (P_eql_str rfl rfl rfl) ?_
  refine At.wp (some 46) (P_pick_t rfl rfl (by simp) rfl) ?_
  refine At.wp (some 47) (P_move rfl rfl) ?_
  refine At.wgy (some 48) (t := 47) rfl (by simp [stream_twice]) rfl rfl (P_move rfl rfl) ?_
  refine At.wgyq (some 49) (t := 47) rfl (by simp [stream_twice]) rfl rfl (Q_strN (l := l.take n) (n := n) (k := 0) (j := 0) (r := bytesRow bq q l) hn2 rfl Try.underlying31 Try.underlying5 Try.underlying9 rfl (fun h => cut_zero (hA (by omega))) (by exact fun _ => ⟨rfl, rfl, rfl⟩) (by simp [List.take_of_length_le, hs2, hs3, hn2, List.map_take, bytesRow])) ?_
  refine At.wgy (some 50) (t := 47) rfl (by simp [stream_twice]) rfl rfl (P_move rfl rfl) ?_
  refine At.wqn ?_
  refine At.wt rfl ?_
  refine At.gy (t := 47) rfl (by simp [stream_twice]) rfl rfl ?_
  refine At.p (some 51) (P_eql_str rfl rfl rfl) ?_
  refine At.p (some 52) (P_pick_t rfl rfl (by simp [stream_twice]) rfl) ?_
  refine At.p (some 6) (P_assign rfl rfl) ?_
  refine At.nil ?_
  refine At.next ?_
  refine At.ret ?_
  refine At.give (.inl rfl) [] (rows' := []) (vs := [_]) rfl ⟨rfl, trivial⟩ rfl (by simp) (by simp) ⟨congrArg Value.bool (by simp), rfl⟩

theorem l_Counts (key : List (BitVec 8)) (count : BitVec 32) (i : Int) (hkey : key.length = 32) :
    Con Try.prog 6 [aggB key, u32V count, iV i] [] (fun v rs => v = .bool true ∧ rs = []) := by
  refine Con.enter Try.func6 Try.ntmps6 (Nat.le_of_ble_eq_true rfl) rfl fun w => ?_
  refine At.seq ?_
  refine At.region ?_
  refine At.s (S_box (some 3) 3 (zs := key.map u8V) rfl rfl rfl (fun b3 => ?_))
  refine At.p (some 6) (P_assign rfl rfl) ?_
  refine At.nil ?_
  refine At.next ?_
  refine At.seq ?_
  obtain ⟨k, hk, hke⟩ := umod_nat (BitVec.ofInt 64 i) 4#64 (by decide) (by decide)
  have hk : k < 4 := hk
  obtain ⟨n, hn⟩ : ∃ n, n = 64 * k + 70 := ⟨_, rfl⟩
  have hk32 : key.length = 32 := hkey
  refine At.region ?_
  refine At.p (some 11) (P_move rfl rfl) ?_
  refine At.p (some 12) (P_conv_iw UK.u64 rfl Try.underlying3 Try.underlying29 rfl) ?_
  refine At.p (some 13) (P_rem_w UK.u64 (b := 4#64) rfl rfl rfl (by decide)) ?_
  refine At.p (some 14) (P_conv_WiE hke rfl Try.underlying29 Try.underlying3 rfl) ?_
  refine At.p (some 7) (P_assign rfl rfl) ?_
  refine At.nil ?_
  refine At.next ?_
  refine At.seq ?_
  refine At.region ?_
  refine At.p (some 15) (P_move rfl rfl) ?_
  refine At.p (some 16) (P_mul_i rfl rfl rfl (by omega)) ?_
  refine At.p (some 17) (P_add_i rfl rfl rfl (by omega)) ?_
  refine At.s (S_makeN (some 18) 8 (n := n) (cs := (List.replicate (n) 0#8).map u8V) rfl Try.underlying31 sz5 by5 ze5 rfl rfl (by omega) (by omega) (by omega) (by omega) ((made_one (n := n) (by omega)).trans (by rw [List.map_replicate]; rfl)) (fun b8 => ?_))
  refine At.p (some 8) (P_assign rfl rfl) ?_
  refine At.nil ?_
  refine At.next ?_
  refine At.seq ?_
  refine At.region ?_
  refine At.q (some 19) (Q_loadA (k := 3) rfl rfl Try.underlying22 rfl sz22 (by first | omega | (simp <;> omega)) rfl) ?_
  refine At.p (some 20) (P_move rfl rfl) ?_
  refine At.p (some 21) (P_build_arr (cs := ((List.replicate 12 0#8).map u8V).toArray) (parts := _) (vs := []) rfl Try.underlying24 sz5 ze24 rfl rfl) ?_
  refine At.p (some 22) (P_move rfl rfl) ?_
  refine At.s (S_callV (some 23) [(8, _)] [9] (vs := [_, _, _, _]) rfl en18 rfl (VN (by simp) rfl View.all V0) (by simp) (c_StreamN (l := (List.replicate n 0#8)) (n := n) (by simp) hkey rfl (fun _ => rfl) (by omega)) (by rintro _ _ ⟨A9, b9, c9, g9a, g9b, rfl, rfl⟩; rfl) ?_)
  rintro _ _ ⟨A9, b9, c9, g9a, g9b, rfl, rfl⟩
  refine At.p (some 9) (P_assign rfl rfl) ?_
  refine At.nil ?_
  refine At.next ?_
  refine At.seq ?_
  refine At.draws 10 [] [.q false [0, 1, 2, 3, 4, 5, 6, 7, 8, 9]] (by kernel_rfl) (by kernel_rfl) ?_
  refine At.wq (some 24) (Q_loadA (k := 3) rfl rfl Try.underlying22 rfl sz22 (by first | omega | (simp <;> omega)) rfl) ?_
  refine At.wp (some 25) (P_move rfl rfl) ?_
  refine At.wp (some 26) (P_move rfl rfl) ?_
  refine At.wp (some 27) (P_conv_iwE (b := BitVec.ofNat 32 k) (BitVec.ofInt_natCast _ _) UK.u32 rfl Try.underlying3 Try.underlying23 rfl) ?_
  refine At.wp (some 28) (P_add_w UK.u32 rfl rfl rfl) ?_
  refine At.wp (some 29) (P_build_arr (cs := ((List.replicate 12 0#8).map u8V).toArray) (parts := _) (vs := []) rfl Try.underlying24 sz5 ze24 rfl rfl) ?_
  refine At.wp (some 30) (P_move rfl rfl) ?_
  refine At.wp (some 31) (P_move rfl rfl) ?_
  refine At.wp (some 32) (P_mul_i rfl rfl rfl (by omega)) ?_
  refine At.wp (some 33) (P_slice_sl (l := 64 * k) rfl Try.underlying31 sz5 rfl ⟨_, _, rfl, by omega⟩ rfl rfl (by omega) (by omega) (by omega)) ?_
  refine At.wqn ?_
  refine At.wt rfl ?_
  refine At.s (S_callV (some 34) [(8, _)] [10] (vs := [_, _, _, _]) rfl en18 rfl (VN (by simp) rfl (View.sub (j := 64 * k) (m := n - 64 * k) (by omega) (by rw [List.take_of_length_le (by simp)])) V0) (by simp) (c_StreamN (l := (List.replicate n 0#8).drop (64 * k)) (n := n - 64 * k) (q := 64 * k) (by simp) hkey rfl (fun _ => by rw [cut_addr1 rfl (by omega), Nat.zero_add]) (by omega)) (by rintro _ _ ⟨A10, b10, c10, g10a, g10b, rfl, rfl⟩; rfl) ?_)
  rintro _ _ ⟨A10, b10, c10, g10a, g10b, rfl, rfl⟩
  refine At.p (some 10) (P_assign rfl rfl) ?_
  refine At.nil ?_
  refine At.next ?_
  refine At.seq ?_
  refine At.draws 16 [] [.q false [0, 1, 2, 3, 4, 5, 6, 7, 8, 9, 10, 11, 12, 13, 14, 15]] (by kernel_rfl) (by kernel_rfl) ?_
  refine At.wcV (some 35) [] (vs := []) rfl en15 rfl V0 (c_streams) ?_
  refine At.wp (some 36) (P_move rfl rfl) ?_
  refine At.wgy (some 37) (t := 36) rfl rfl rfl rfl (P_move rfl rfl) ?_
  refine At.wgy (some 38) (t := 36) rfl rfl rfl rfl (P_len_sl rfl rfl ⟨_, Try.underlying31⟩ rfl) ?_
  refine At.wgy (some 39) (t := 36) rfl rfl rfl rfl (P_move rfl rfl) ?_
  refine At.wgy (some 40) (t := 36) rfl rfl rfl rfl (P_len_sl rfl rfl ⟨_, Try.underlying31⟩ rfl) ?_
  refine At.wgy (some 41) (t := 36) rfl rfl rfl rfl (P_cmp rfl rfl rfl rfl rfl rfl) ?_
  refine At.wp (some 42) (P_pick_t rfl rfl rfl rfl) ?_
  refine At.wp (some 43) (P_move rfl rfl) ?_
  refine At.wgy (some 44) (t := 43) rfl (by simp) rfl rfl (P_move rfl rfl) ?_
  refine At.wgy (some 45) (t := 43) rfl (by simp) rfl rfl (P_move rfl rfl) ?_
  refine At.wgy (some 46) (t := 43) rfl (by simp) rfl rfl (P_mul_i rfl rfl rfl (by omega)) ?_
  refine At.wgy (some 47) (t := 43) rfl (by simp) rfl rfl (P_slice_sl (l := 64 * k) rfl Try.underlying31 sz5 rfl ⟨_, _, rfl, by omega⟩ rfl rfl (by omega) (by omega) (by omega)) ?_
  refine At.wgyq (some 48) (t := 43) rfl (by simp) rfl rfl (Q_strN (l := (streamS key count (List.replicate 12 0#8) (List.replicate n 0#8)).drop (64 * k)) (n := n - 64 * k) (k := 9) (j := 64 * k) (by simp [streamS_len]) rfl Try.underlying31 Try.underlying5 Try.underlying9 rfl (fun h => cut_addr1 (g9a (by omega)) (by omega)) (fun _ => ⟨rfl, rfl, rfl⟩) (by rw [← List.map_drop, List.take_of_length_le (by simp [streamS_len])])) ?_
  refine At.wgy (some 49) (t := 43) rfl (by simp) rfl rfl (P_move rfl rfl) ?_
  refine At.wgyq (some 50) (t := 43) rfl (by simp) rfl rfl (Q_strN (l := streamS key (count + BitVec.ofNat 32 k) (List.replicate 12 0#8) ((List.replicate n 0#8).drop (64 * k))) (n := n - 64 * k) (k := 10) (j := 0) (by simp [streamS_len]) rfl Try.underlying31 Try.underlying5 Try.underlying9 rfl (fun h => g10a (by omega)) (fun _ => ⟨rfl, rfl, rfl⟩) (by rw [List.drop_zero, List.take_of_length_le (by simp [streamS_len])])) ?_
  refine At.wqn ?_
  refine At.wt rfl ?_
  refine At.gy (t := 43) rfl (by simp) rfl rfl ?_
  refine At.p (some 51) (P_eql_str rfl rfl rfl) ?_
  refine At.p (some 52) (P_pick_t rfl rfl (by simp) rfl) ?_
  refine At.p (some 6) (P_assign rfl rfl) ?_
  refine At.nil ?_
  refine At.next ?_
  refine At.ret ?_
  refine At.give (.inl rfl) [] (rows' := []) (vs := [_]) rfl ⟨rfl, trivial⟩ rfl (by simp) (by simp) ⟨congrArg Value.bool (by simp [stream_later]), rfl⟩
end Go.Proofs.Ytkdkpjnlknofeaa
