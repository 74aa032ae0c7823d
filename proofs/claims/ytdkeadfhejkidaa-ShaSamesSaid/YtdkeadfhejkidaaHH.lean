import Derived.Test.YtdkeadfhejkidaaHG
import Derived.Test.YtdkeadfhejkidaaSE15
namespace Go.Proofs.Ytdkeadfhejkidaa
set_option maxRecDepth 20000
set_option linter.unusedVariables false
set_option linter.unusedSimpArgs false
open Go.SE Go.RowKit

theorem umod_nat (x m : BitVec 64) (h0 : 0 < m.toNat) (h1 : m.toNat ≤ 4611686018427387904) : ∃ k : Nat, k < m.toNat ∧ (x % m).toInt = (k : Int) := by
  refine ⟨(x % m).toNat, ?_, ?_⟩
  · rw [BitVec.toNat_umod]; exact Nat.mod_lt _ h0
  · have h2 : (x % m).toNat < m.toNat := by rw [BitVec.toNat_umod]; exact Nat.mod_lt _ h0
    rw [BitVec.toInt_eq_toNat_cond, if_pos (by omega)]
theorem c_MacN {A A2 : Option Addr} {key b : List (BitVec 8)} {n nb ca cb bq q br r : Nat} (hn : key.length = n) (hnb : b.length = nb) (hA : 0 < n → A = some ⟨bq, q, none⟩) (hB : 0 < nb → A2 = some ⟨br, r, none⟩) (hl : n ≤ 1000000) (hlb : nb ≤ 900000) :
    Con Try.prog 18 [.slice A n ca, .slice A2 nb cb] [pRow bq q key, pRow br r b] (fun v rs => v = aggK (macS key b) ∧ rs = []) := by
  subst hn hnb
  exact c_Mac A A2 key b ca cb bq q br r hA hB hl hlb
theorem r_MacN {A A2 : Option Addr} {key b : List (BitVec 8)} {n nb ca cb bq q br r : Nat} (hn : key.length = n) (hnb : b.length = nb) (hA : 0 < n → A = some ⟨bq, q, none⟩) (hB : 0 < nb → A2 = some ⟨br, r, none⟩) (hl : n ≤ 1000000) (hlb : nb ≤ 900000) :
    Con Try.prog 19 [.slice A n ca, .slice A2 nb cb] [pRow bq q key, pRow br r b] (fun v rs => v = aggK (macS key b) ∧ rs = []) := by
  subst hn hnb
  exact r_Mac A A2 key b ca cb bq q br r hA hB hl hlb
theorem mac_long {k b : List (BitVec 8)} (h : 64 < k.length) : macS k b = macS (sumS k) b := by
  have h1 : keyS k = sumS k := by rw [keyS, if_pos h]
  have h2 : keyS (sumS k) = sumS k := by rw [keyS, if_neg (by rw [sumS_len]; decide)]
  rw [macS, macS, h1, h2]
theorem keyB_more {k : List (BitVec 8)} {n : Nat} (h : k.length + n ≤ 64) : keyB (k ++ List.replicate n 0#8) = keyB k := by
  unfold keyB
  rw [List.append_assoc, List.replicate_append_replicate, List.length_append, List.length_replicate, show n + (64 - (k.length + n)) = 64 - k.length by omega]
theorem mac_more {k b : List (BitVec 8)} {n : Nat} (h : k.length + n ≤ 64) : macS (k ++ List.replicate n 0#8) b = macS k b := by
  have h1 : keyS (k ++ List.replicate n 0#8) = k ++ List.replicate n 0#8 := by rw [keyS, if_neg (by rw [List.length_append, List.length_replicate]; omega)]
  have h2 : keyS k = k := by rw [keyS, if_neg (by omega)]
  have h3 : ∀ x, keyedS (k ++ List.replicate n 0#8) x = keyedS k x := fun x => by rw [keyedS, keyedS, keyB_more h]
  rw [macS, macS, h1, h2, h3, h3]

theorem l_Sums (l : List (BitVec 8)) (z : Int) (A : Option Addr) (ca bq q : Nat) (hA : 0 < l.length → A = some ⟨bq, q, none⟩) (hca : l.length ≤ ca) :
    Con Try.prog 3 [.slice A l.length ca, iV z] [pRow bq q l] (fun v rs => v = .bool true ∧ rs = []) := by
  refine Con.enter Try.func3 Try.ntmps3 (Nat.le_of_ble_eq_true rfl) rfl fun w => ?_
  refine At.seq ?_
  obtain ⟨n, hn⟩ : ∃ n, n = min l.length 200 := ⟨_, rfl⟩
  have hn2 : (l.take n).length = n := by simp; omega
  obtain ⟨k, hk, hke⟩ := umod_nat (BitVec.ofInt 64 z) 130#64 (by decide) (by decide)
  have hk : k < 130 := hk
  have hB : (l.take n ++ List.replicate k 0#8).length = n + k := by simp; omega
  refine At.region ?_
  refine At.p (some 4) (P_assign rfl rfl) ?_
  refine At.nil ?_
  refine At.next ?_
  refine At.seq ?_
  refine At.region ?_
  refine At.s (S_buildSlice0 (some 6) 6 rfl Try.underlying22 sz5 (fun b6 => ?_))
  refine At.p (some 7) (P_move rfl rfl) ?_
  refine At.p (some 8) (P_move rfl rfl) ?_
  refine At.p (some 9) (P_len_sl rfl rfl ⟨_, Try.underlying22⟩ rfl) ?_
  refine At.p (some 10) (P_min2 rfl rfl rfl rfl) ?_
  refine At.p (some 11) (P_slice_sl (h := n) rfl Try.underlying22 sz5 rfl rfl ⟨_, _, rfl, by omega⟩ rfl (by omega) (by omega) (by omega)) ?_
  refine At.s (S_appendM (some 12) 6 (l.take n) (f := u8V) (l := []) (L := l.take n) rfl Try.underlying22 Try.underlying22 (.inr ⟨_, rfl⟩) sz5 by5 ze5 rfl rfl (fun h => ⟨absurd h (by omega), rfl⟩) rfl rfl (Src.row (k := 0) (j := 0) rfl (fun h => cut_zero (hA (by omega))) (fun _ => ⟨rfl, rfl, rfl⟩) (by simp [pRow, List.map_take]) (by simp; omega)) (fun _ => rfl) (by omega) (by omega) rfl hn2 ?_)
  intro A12 b12 c12 g12a g12b
  refine At.p (some 13) (P_move rfl rfl) ?_
  refine At.p (some 14) (P_conv_iw UK.u64 rfl Try.underlying3 Try.underlying23 rfl) ?_
  refine At.p (some 15) (P_rem_w UK.u64 (b := 130#64) rfl rfl rfl (by decide)) ?_
  refine At.p (some 16) (P_conv_Wi rfl Try.underlying23 Try.underlying3 rfl) ?_
  refine At.s (S_appendZ (some 17) 6 ((l.take n ++ List.replicate k 0#8)) (0#8) (f := u8V) (l := l.take n) (m := k) rfl Try.underlying22 Try.underlying3 sz5 by5 ze5 rfl rfl (fun h => ⟨g12a h, rfl⟩) rfl (by omega) rfl hke (fun _ => rfl) (by omega) (by omega) rfl ?_)
  intro A17 b17 c17 g17a g17b
  refine At.p (some 0) (P_assign rfl rfl) ?_
  refine At.nil ?_
  refine At.next ?_
  refine At.seq ?_
  refine At.region ?_
  refine At.p (some 18) (P_move rfl rfl) ?_
  refine At.q (some 19) (Q_strN (l := (l.take n ++ List.replicate k 0#8)) (n := (l.take n ++ List.replicate k 0#8).length) (k := 6) (j := 0) rfl rfl Try.underlying22 Try.underlying5 Try.underlying9 rfl (fun h => g17a (by omega)) (fun _ => ⟨rfl, rfl, rfl⟩) (by rw [List.drop_zero, List.take_of_length_le (by rw [List.length_map]; exact Nat.le_refl _)])) ?_
  refine At.p (some 5) (P_assign rfl rfl) ?_
  refine At.nil ?_
  refine At.next ?_
  refine At.seq ?_
  refine At.region ?_
  refine At.s (S_callV (some 20) [] [] (vs := []) rfl en14 rfl V0 (by simp) (c_sums) (by rintro _ _ ⟨rfl, rfl⟩; rfl) ?_)
  rintro _ _ ⟨rfl, rfl⟩
  refine At.p (some 21) (P_move rfl rfl) ?_
  refine At.gy (t := 21) rfl rfl rfl rfl ?_
  refine At.p (some 22) (P_move rfl rfl) ?_
  refine At.gy (t := 21) rfl rfl rfl rfl ?_
  refine At.s (S_callV (some 23) [(6, _)] [] (vs := [_]) rfl en15 rfl (VN (by simp) rfl View.all V0) (by simp) (c_SumN (l := (l.take n ++ List.replicate k 0#8)) (n := (l.take n ++ List.replicate k 0#8).length) rfl (fun h => g17a (by omega)) (by omega)) (by rintro _ _ ⟨rfl, rfl⟩; rfl) ?_)
  rintro _ _ ⟨rfl, rfl⟩
  refine At.gy (t := 21) rfl rfl rfl rfl ?_
  refine At.p (some 24) (P_move rfl rfl) ?_
  refine At.gy (t := 21) rfl rfl rfl rfl ?_
  refine At.s (S_callV (some 25) [(6, _)] [] (vs := [_]) rfl en16 rfl (VN (by simp) rfl View.all V0) (by simp) (r_SumN (l := (l.take n ++ List.replicate k 0#8)) (n := (l.take n ++ List.replicate k 0#8).length) rfl (fun h => g17a (by omega)) (by omega)) (by rintro _ _ ⟨rfl, rfl⟩; rfl) ?_)
  rintro _ _ ⟨rfl, rfl⟩
  refine At.gy (t := 21) rfl rfl rfl rfl ?_
  refine At.p (some 26) (P_eql_arr rfl Try.underlying25 Try.underlying5 sz5 Try.eqGuardType25 rfl rfl (sumS_len _) (sumS_len _)) ?_
  refine At.p (some 27) (P_pick_t rfl rfl rfl rfl) ?_
  refine At.p (some 28) (P_move rfl rfl) ?_
  refine At.gy (t := 28) rfl (by simp) rfl rfl ?_
  refine At.p (some 29) (P_move rfl rfl) ?_
  refine At.gy (t := 28) rfl (by simp) rfl rfl ?_
  refine At.q (some 30) (Q_strN (l := (l.take n ++ List.replicate k 0#8)) (n := (l.take n ++ List.replicate k 0#8).length) (k := 6) (j := 0) rfl rfl Try.underlying22 Try.underlying5 Try.underlying9 rfl (fun h => g17a (by omega)) (fun _ => ⟨rfl, rfl, rfl⟩) (by rw [List.drop_zero, List.take_of_length_le (by rw [List.length_map]; exact Nat.le_refl _)])) ?_
  refine At.gy (t := 28) rfl (by simp) rfl rfl ?_
  refine At.p (some 31) (P_move rfl rfl) ?_
  refine At.gy (t := 28) rfl (by simp) rfl rfl ?_
  refine At.p (some 32) (P_eql_str rfl rfl rfl) ?_
  refine At.p (some 33) (P_pick_t rfl rfl (by simp) rfl) ?_
  refine At.p (some 4) (P_assign rfl rfl) ?_
  refine At.nil ?_
  refine At.next ?_
  refine At.ret ?_
  refine At.give (.inl rfl) [] (rows' := []) (vs := [_]) rfl ⟨rfl, trivial⟩ rfl (by simp) (by simp) ⟨congrArg Value.bool (by simp), rfl⟩

theorem l_Macs (key b : List (BitVec 8)) (A A2 : Option Addr) (ca cb bq q br r : Nat) (hA : 0 < key.length → A = some ⟨bq, q, none⟩) (hca : key.length ≤ ca) (hB : 0 < b.length → A2 = some ⟨br, r, none⟩) (hcb : b.length ≤ cb) :
    Con Try.prog 6 [.slice A key.length ca, .slice A2 b.length cb] [pRow bq q key, pRow br r b] (fun v rs => v = .bool true ∧ rs = []) := by
  refine Con.enter Try.func6 Try.ntmps6 (Nat.le_of_ble_eq_true rfl) rfl fun w => ?_
  refine At.seq ?_
  obtain ⟨n, hn⟩ : ∃ n, n = min key.length 150 := ⟨_, rfl⟩
  have hn2 : (key.take n).length = n := by simp; omega
  obtain ⟨nb, hnb⟩ : ∃ n, n = min b.length 150 := ⟨_, rfl⟩
  have hnb2 : (b.take nb).length = nb := by simp; omega
  refine At.region ?_
  refine At.p (some 4) (P_assign rfl rfl) ?_
  refine At.nil ?_
  refine At.next ?_
  refine At.seq ?_
  refine At.draws 11 [] [.q false [0, 1, 2, 3, 4, 5, 6, 7, 8, 9, 10]] (by kernel_rfl) (by kernel_rfl) ?_
  refine At.wp (some 5) (P_move rfl rfl) ?_
  refine At.wp (some 6) (P_move rfl rfl) ?_
  refine At.wp (some 7) (P_len_sl rfl rfl ⟨_, Try.underlying22⟩ rfl) ?_
  refine At.wp (some 8) (P_min2 rfl rfl rfl rfl) ?_
  refine At.wp (some 9) (P_slice_sl (h := n) rfl Try.underlying22 sz5 rfl rfl ⟨_, _, rfl, by omega⟩ rfl (by omega) (by omega) (by omega)) ?_
  refine At.wp (some 10) (P_move rfl rfl) ?_
  refine At.wp (some 11) (P_move rfl rfl) ?_
  refine At.wp (some 12) (P_len_sl rfl rfl ⟨_, Try.underlying22⟩ rfl) ?_
  refine At.wp (some 13) (P_min2 rfl rfl rfl rfl) ?_
  refine At.wp (some 14) (P_slice_sl (h := nb) rfl Try.underlying22 sz5 rfl rfl ⟨_, _, rfl, by omega⟩ rfl (by omega) (by omega) (by omega)) ?_
  refine At.wp (some 0) (P_assign rfl rfl) ?_
  refine At.wqn ?_
  refine At.wt rfl ?_
  refine At.p (some 1) (P_assign rfl rfl) ?_
  refine At.nil ?_
  refine At.next ?_
  refine At.seq ?_
  refine At.region ?_
  refine At.s (S_callV (some 15) [] [] (vs := []) rfl en14 rfl V0 (by simp) (c_sums) (by rintro _ _ ⟨rfl, rfl⟩; rfl) ?_)
  rintro _ _ ⟨rfl, rfl⟩
  refine At.p (some 16) (P_move rfl rfl) ?_
  refine At.gy (t := 16) rfl rfl rfl rfl ?_
  refine At.p (some 17) (P_move rfl rfl) ?_
  refine At.gy (t := 16) rfl rfl rfl rfl ?_
  refine At.p (some 18) (P_move rfl rfl) ?_
  refine At.gy (t := 16) rfl rfl rfl rfl ?_
  refine At.s (S_callV (some 19) [(0, _), (1, _)] [] (vs := [_, _]) rfl en18 rfl (VN (by simp) rfl (View.sub (j := 0) (m := n) rfl rfl) (VN (by simp) rfl (View.sub (j := 0) (m := nb) rfl rfl) V0)) (by simp) (c_MacN (key := key.take n) (b := b.take nb) (n := n) (nb := nb) hn2 hnb2 (fun h => cut_zero (hA (by omega))) (fun h => cut_zero (hB (by omega))) (by omega) (by omega)) (by rintro _ _ ⟨rfl, rfl⟩; rfl) ?_)
  rintro _ _ ⟨rfl, rfl⟩
  refine At.gy (t := 16) rfl rfl rfl rfl ?_
  refine At.p (some 20) (P_move rfl rfl) ?_
  refine At.gy (t := 16) rfl rfl rfl rfl ?_
  refine At.p (some 21) (P_move rfl rfl) ?_
  refine At.gy (t := 16) rfl rfl rfl rfl ?_
  refine At.s (S_callV (some 22) [(0, _), (1, _)] [] (vs := [_, _]) rfl en19 rfl (VN (by simp) rfl (View.sub (j := 0) (m := n) rfl rfl) (VN (by simp) rfl (View.sub (j := 0) (m := nb) rfl rfl) V0)) (by simp) (r_MacN (key := key.take n) (b := b.take nb) (n := n) (nb := nb) hn2 hnb2 (fun h => cut_zero (hA (by omega))) (fun h => cut_zero (hB (by omega))) (by omega) (by omega)) (by rintro _ _ ⟨rfl, rfl⟩; rfl) ?_)
  rintro _ _ ⟨rfl, rfl⟩
  refine At.gy (t := 16) rfl rfl rfl rfl ?_
  refine At.p (some 23) (P_eql_arr rfl Try.underlying25 Try.underlying5 sz5 Try.eqGuardType25 rfl rfl (macS_len _ _) (macS_len _ _)) ?_
  refine At.p (some 24) (P_pick_t rfl rfl rfl rfl) ?_
  refine At.p (some 4) (P_assign rfl rfl) ?_
  refine At.nil ?_
  refine At.next ?_
  refine At.ret ?_
  refine At.give (.inl rfl) [] (rows' := []) (vs := [_]) rfl ⟨rfl, trivial⟩ rfl (by simp) (by simp) ⟨congrArg Value.bool (by simp), rfl⟩

set_option maxHeartbeats 1000000 in
theorem l_Bits (l : List (BitVec 8)) (z : Int) (A : Option Addr) (ca bq q : Nat) (hA : 0 < l.length → A = some ⟨bq, q, none⟩) (hca : l.length ≤ ca) :
    Con Try.prog 7 [.slice A l.length ca, iV z] [pRow bq q l] (fun v rs => v = .bool true ∧ rs = []) := by
  refine Con.enter Try.func7 Try.ntmps7 (Nat.le_of_ble_eq_true rfl) rfl fun w => ?_
  refine At.seq ?_
  obtain ⟨n, hn⟩ : ∃ n, n = min l.length 150 := ⟨_, rfl⟩
  have hn2 : (l.take n).length = n := by simp; omega
  have hB : (l.take n ++ [7#8]).length = n + 1 := by simp; omega
  have hmt : (BitVec.ofInt 64 (8 * ((l.take n ++ [7#8]).length : Int))).toNat = 8 * (l.take n ++ [7#8]).length := by rw [BitVec.toNat_ofInt]; omega
  have hm0 : BitVec.ofInt 64 (8 * ((l.take n ++ [7#8]).length : Int)) ≠ 0#64 := fun h => by rw [h] at hmt; simp at hmt
  obtain ⟨k, hk, hke⟩ := umod_nat (BitVec.ofInt 64 z) (BitVec.ofInt 64 (8 * ((l.take n ++ [7#8]).length : Int))) (by omega) (by omega)
  rw [hmt] at hk
  refine At.region ?_
  refine At.p (some 4) (P_assign rfl rfl) ?_
  refine At.nil ?_
  refine At.next ?_
  refine At.seq ?_
  refine At.region ?_
  refine At.p (some 7) (P_move rfl rfl) ?_
  refine At.p (some 8) (P_move rfl rfl) ?_
  refine At.p (some 9) (P_len_sl rfl rfl ⟨_, Try.underlying22⟩ rfl) ?_
  refine At.p (some 10) (P_min2 rfl rfl rfl rfl) ?_
  refine At.p (some 11) (P_move rfl rfl) ?_
  refine At.p (some 12) (P_len_sl rfl rfl ⟨_, Try.underlying22⟩ rfl) ?_
  refine At.p (some 13) (P_min2 rfl rfl rfl rfl) ?_
  refine At.p (some 14) (P_slice_sl (h := n) (m := n) rfl Try.underlying22 sz5 rfl rfl ⟨_, _, rfl, by omega⟩ ⟨_, _, rfl, by omega⟩ (by omega) (by omega) (by omega)) ?_
  refine At.s (S_buildSliceV (some 15) 15 ([7#8].map u8V) rfl Try.underlying22 sz5 ze5 rfl rfl (by decide) (by decide) rfl rfl (fun b15 => ?_))
  refine At.s (S_appendV (some 16) 7 (l.take n ++ [7#8]) (f := u8V) (l := l.take n) (L := [7#8]) rfl Try.underlying22 Try.underlying22 (.inr ⟨_, rfl⟩) sz5 by5 ze5 rfl rfl (Src.row (k := 0) (j := 0) rfl (fun h => cut_zero (hA (by omega))) (fun _ => ⟨rfl, rfl, rfl⟩) (by simp [pRow, List.map_take]) (by simp; omega)) (by omega) (Src.row (k := 15) (j := 0) rfl (fun _ => rfl) (fun _ => ⟨rfl, rfl, rfl⟩) rfl rfl) (by omega) (by omega) rfl ?_)
  intro b16 c16 g16b
  refine At.p (some 0) (P_assign rfl rfl) ?_
  refine At.nil ?_
  refine At.next ?_
  refine At.seq ?_
  refine At.region ?_
  refine At.s (S_buildSlice0 (some 17) 17 rfl Try.underlying22 sz5 (fun b17 => ?_))
  refine At.p (some 18) (P_move rfl rfl) ?_
  refine At.s (S_appendM (some 19) 17 ((l.take n ++ [7#8])) (f := u8V) (l := []) (L := (l.take n ++ [7#8])) rfl Try.underlying22 Try.underlying22 (.inr ⟨_, rfl⟩) sz5 by5 ze5 rfl rfl (fun h => ⟨absurd h (by omega), rfl⟩) rfl rfl (Src.row (k := 7) (j := 0) rfl (fun _ => rfl) (fun _ => ⟨rfl, rfl, rfl⟩) (by simp [List.take_of_length_le]) (by simp)) (fun _ => rfl) (by omega) (by omega) rfl rfl ?_)
  intro A19 b19 c19 g19a g19b
  refine At.p (some 5) (P_assign rfl rfl) ?_
  refine At.nil ?_
  refine At.next ?_
  refine At.seq ?_
  refine At.region ?_
  refine At.p (some 20) (P_move rfl rfl) ?_
  refine At.p (some 21) (P_conv_iw UK.u64 rfl Try.underlying3 Try.underlying23 rfl) ?_
  refine At.p (some 22) (P_move rfl rfl) ?_
  refine At.p (some 23) (P_len_sl rfl rfl ⟨_, Try.underlying22⟩ rfl) ?_
  refine At.p (some 24) (P_mul_i rfl rfl rfl (by omega)) ?_
  refine At.p (some 25) (P_conv_iw UK.u64 rfl Try.underlying3 Try.underlying23 rfl) ?_
  refine At.p (some 26) (P_rem_w UK.u64 rfl rfl rfl hm0) ?_
  refine At.p (some 27) (P_conv_WiE hke rfl Try.underlying23 Try.underlying3 rfl) ?_
  refine At.p (some 6) (P_assign rfl rfl) ?_
  refine At.nil ?_
  refine At.next ?_
  refine At.seq ?_
  refine At.draws 8 [] [.q false [0, 1, 2, 3, 4, 5, 6, 7]] (by kernel_rfl) (by kernel_rfl) ?_
  refine At.wp (some 28) (P_move rfl rfl) ?_
  refine At.wp (some 29) (P_move rfl rfl) ?_
  refine At.wp (some 30) (P_quo_i rfl rfl rfl (by omega) (by omega) (by first | decide | omega)) ?_
  refine At.wp (some 31) (P_indexAddr_slz (j := k / 8) rfl Try.underlying22 sz5 rfl (g19a (by omega)) rfl (by omega) (by omega)) ?_
  refine At.wq (some 32) (Q_loadM (k := 17) (0#8) rfl rfl Try.underlying5 rfl rfl (by first | omega | (simp <;> omega))) ?_
  refine At.wp (some 33) (P_move rfl rfl) ?_
  refine At.wp (some 34) (P_rem_i rfl rfl rfl (by omega) (by first | decide | omega)) ?_
  refine At.wp (some 35) (P_shl_w UK.u8 (n := 8) (a := 1#8) rfl rfl rfl (by first | decide | omega)) ?_
  refine At.wqn ?_
  refine At.wt rfl ?_
  refine At.p (some 36) (P_xor_w UK.u8 rfl rfl rfl) ?_
  refine At.p (some 37) (P_indexAddr_slz (j := k / 8) rfl Try.underlying22 sz5 rfl (g19a (by omega)) rfl (by omega) (by omega)) ?_
  refine At.s (S_storeM none (f := u8V) (k := 17) rfl rfl rfl sz5 rfl rfl rfl (by first | omega | (simp <;> omega)) ?_)
  refine At.nil ?_
  refine At.next ?_
  refine At.seq ?_
  generalize hCe : (l.take n ++ [7#8]).set (k / 8) _ = C
  have hCl : C.length = (l.take n ++ [7#8]).length := by rw [← hCe, List.length_set]
  refine At.draws 38 [] [.q false [0, 1, 2, 3, 4, 5, 6, 7, 8, 9, 10, 11, 12, 13, 14, 15, 16, 17, 18, 19, 20, 21, 22, 23, 24, 25, 26, 27, 28, 29, 30, 31, 32, 33, 34, 35, 36, 37]] (by kernel_rfl) (by kernel_rfl) ?_
  refine At.wcV (some 38) [] (vs := []) rfl en14 rfl V0 (c_sums) ?_
  refine At.wp (some 39) (P_move rfl rfl) ?_
  refine At.wgy (some 40) (t := 39) rfl rfl rfl rfl (P_move rfl rfl) ?_
  refine At.wcVg (some 41) [(7, _)] (tt := 39) rfl rfl rfl rfl (vs := [_]) rfl en15 rfl (VN (by simp) rfl View.all V0) (c_SumN (l := (l.take n ++ [7#8])) (n := (l.take n ++ [7#8]).length) rfl (fun _ => rfl) (by omega)) ?_
  refine At.wgy (some 42) (t := 39) rfl rfl rfl rfl (P_move rfl rfl) ?_
  refine At.wcVg (some 43) [(17, _)] (tt := 39) rfl rfl rfl rfl (vs := [_]) rfl en15 rfl (VN (by simp) rfl View.all V0) (c_SumN (l := C) (n := (l.take n ++ [7#8]).length) hCl (fun h => g19a (by omega)) (by omega)) ?_
  refine At.wgy (some 44) (t := 39) rfl rfl rfl rfl (P_eql_arr rfl Try.underlying25 Try.underlying5 sz5 Try.eqGuardType25 rfl rfl (sumS_len _) (sumS_len _)) ?_
  refine At.wgy (some 45) (t := 39) rfl rfl rfl rfl (P_move rfl rfl) ?_
  refine At.wcVg (some 46) [(7, _)] (tt := 39) rfl rfl rfl rfl (vs := [_]) rfl en16 rfl (VN (by simp) rfl View.all V0) (r_SumN (l := (l.take n ++ [7#8])) (n := (l.take n ++ [7#8]).length) rfl (fun _ => rfl) (by omega)) ?_
  refine At.wgy (some 47) (t := 39) rfl rfl rfl rfl (P_move rfl rfl) ?_
  refine At.wcVg (some 48) [(17, _)] (tt := 39) rfl rfl rfl rfl (vs := [_]) rfl en16 rfl (VN (by simp) rfl View.all V0) (r_SumN (l := C) (n := (l.take n ++ [7#8]).length) hCl (fun h => g19a (by omega)) (by omega)) ?_
  refine At.wgy (some 49) (t := 39) rfl rfl rfl rfl (P_eql_arr rfl Try.underlying25 Try.underlying5 sz5 Try.eqGuardType25 rfl rfl (sumS_len _) (sumS_len _)) ?_
  refine At.wgy (some 50) (t := 39) rfl rfl rfl rfl (P_eql_bool rfl Try.underlying4 rfl rfl) ?_
  refine At.wp (some 51) (P_pick_t rfl rfl rfl rfl) ?_
  refine At.wp (some 52) (P_move rfl rfl) ?_
  refine At.wgy (some 53) (t := 52) rfl (by simp) rfl rfl (P_move rfl rfl) ?_
  refine At.wcVg (some 54) [(7, _), (99, _)] (tt := 52) rfl (by simp) rfl rfl (vs := [_, _]) rfl en18 rfl (VN (by simp) rfl View.all (VE rfl rfl V0)) (c_MacN (key := (l.take n ++ [7#8])) (b := []) (n := (l.take n ++ [7#8]).length) (nb := 0) (br := 0) (r := 0) rfl rfl (fun _ => rfl) (fun h => absurd h (by decide)) (by omega) (by decide)) ?_
  refine At.wgy (some 55) (t := 52) rfl (by simp) rfl rfl (P_move rfl rfl) ?_
  refine At.wcVg (some 56) [(17, _), (99, _)] (tt := 52) rfl (by simp) rfl rfl (vs := [_, _]) rfl en18 rfl (VN (by simp) rfl View.all (VE rfl rfl V0)) (c_MacN (key := C) (b := []) (n := (l.take n ++ [7#8]).length) (nb := 0) (br := 0) (r := 0) hCl rfl (fun h => g19a (by omega)) (fun h => absurd h (by decide)) (by omega) (by decide)) ?_
  refine At.wgy (some 57) (t := 52) rfl (by simp) rfl rfl (P_eql_arr rfl Try.underlying25 Try.underlying5 sz5 Try.eqGuardType25 rfl rfl (macS_len _ _) (macS_len _ _)) ?_
  refine At.wgy (some 58) (t := 52) rfl (by simp) rfl rfl (P_move rfl rfl) ?_
  refine At.wcVg (some 59) [(7, _), (99, _)] (tt := 52) rfl (by simp) rfl rfl (vs := [_, _]) rfl en19 rfl (VN (by simp) rfl View.all (VE rfl rfl V0)) (r_MacN (key := (l.take n ++ [7#8])) (b := []) (n := (l.take n ++ [7#8]).length) (nb := 0) (br := 0) (r := 0) rfl rfl (fun _ => rfl) (fun h => absurd h (by decide)) (by omega) (by decide)) ?_
  refine At.wgy (some 60) (t := 52) rfl (by simp) rfl rfl (P_move rfl rfl) ?_
  refine At.wcVg (some 61) [(17, _), (99, _)] (tt := 52) rfl (by simp) rfl rfl (vs := [_, _]) rfl en19 rfl (VN (by simp) rfl View.all (VE rfl rfl V0)) (r_MacN (key := C) (b := []) (n := (l.take n ++ [7#8]).length) (nb := 0) (br := 0) (r := 0) hCl rfl (fun h => g19a (by omega)) (fun h => absurd h (by decide)) (by omega) (by decide)) ?_
  refine At.wgy (some 62) (t := 52) rfl (by simp) rfl rfl (P_eql_arr rfl Try.underlying25 Try.underlying5 sz5 Try.eqGuardType25 rfl rfl (macS_len _ _) (macS_len _ _)) ?_
  refine At.wgy (some 63) (t := 52) rfl (by simp) rfl rfl (P_eql_bool rfl Try.underlying4 rfl rfl) ?_
  refine At.wp (some 64) (P_pick_t rfl rfl (by simp) rfl) ?_
  refine At.wp (some 65) (P_move rfl rfl) ?_
  refine At.wgy (some 66) (t := 65) rfl (by simp) rfl rfl (P_move rfl rfl) ?_
  refine At.wcVg (some 67) [(99, _), (7, _)] (tt := 65) rfl (by simp) rfl rfl (vs := [_, _]) rfl en18 rfl (VE rfl rfl (VN (by simp) rfl View.all V0)) (c_MacN (key := []) (b := (l.take n ++ [7#8])) (n := 0) (nb := (l.take n ++ [7#8]).length) (bq := 0) (q := 0) rfl rfl (fun h => absurd h (by decide)) (fun _ => rfl) (by decide) (by omega)) ?_
  refine At.wgy (some 68) (t := 65) rfl (by simp) rfl rfl (P_move rfl rfl) ?_
  refine At.wcVg (some 69) [(99, _), (17, _)] (tt := 65) rfl (by simp) rfl rfl (vs := [_, _]) rfl en18 rfl (VE rfl rfl (VN (by simp) rfl View.all V0)) (c_MacN (key := []) (b := C) (n := 0) (nb := (l.take n ++ [7#8]).length) (bq := 0) (q := 0) rfl hCl (fun h => absurd h (by decide)) (fun h => g19a (by omega)) (by decide) (by omega)) ?_
  refine At.wgy (some 70) (t := 65) rfl (by simp) rfl rfl (P_eql_arr rfl Try.underlying25 Try.underlying5 sz5 Try.eqGuardType25 rfl rfl (macS_len _ _) (macS_len _ _)) ?_
  refine At.wgy (some 71) (t := 65) rfl (by simp) rfl rfl (P_move rfl rfl) ?_
  refine At.wcVg (some 72) [(99, _), (7, _)] (tt := 65) rfl (by simp) rfl rfl (vs := [_, _]) rfl en19 rfl (VE rfl rfl (VN (by simp) rfl View.all V0)) (r_MacN (key := []) (b := (l.take n ++ [7#8])) (n := 0) (nb := (l.take n ++ [7#8]).length) (bq := 0) (q := 0) rfl rfl (fun h => absurd h (by decide)) (fun _ => rfl) (by decide) (by omega)) ?_
  refine At.wgy (some 73) (t := 65) rfl (by simp) rfl rfl (P_move rfl rfl) ?_
  refine At.wcVg (some 74) [(99, _), (17, _)] (tt := 65) rfl (by simp) rfl rfl (vs := [_, _]) rfl en19 rfl (VE rfl rfl (VN (by simp) rfl View.all V0)) (r_MacN (key := []) (b := C) (n := 0) (nb := (l.take n ++ [7#8]).length) (bq := 0) (q := 0) rfl hCl (fun h => absurd h (by decide)) (fun h => g19a (by omega)) (by decide) (by omega)) ?_
  refine At.wgy (some 75) (t := 65) rfl (by simp) rfl rfl (P_eql_arr rfl Try.underlying25 Try.underlying5 sz5 Try.eqGuardType25 rfl rfl (macS_len _ _) (macS_len _ _)) ?_
  refine At.wqn ?_
  refine At.wt rfl ?_
  refine At.gy (t := 65) rfl (by simp) rfl rfl ?_
  refine At.p (some 76) (P_eql_bool rfl Try.underlying4 rfl rfl) ?_
  refine At.p (some 77) (P_pick_t rfl rfl (by simp) rfl) ?_
  refine At.p (some 4) (P_assign rfl rfl) ?_
  refine At.nil ?_
  refine At.next ?_
  refine At.ret ?_
  refine At.give (.inl rfl) [] (rows' := []) (vs := [_]) rfl ⟨rfl, trivial⟩ rfl (by simp) (by simp) ⟨congrArg Value.bool (by simp), rfl⟩
end Go.Proofs.Ytdkeadfhejkidaa
