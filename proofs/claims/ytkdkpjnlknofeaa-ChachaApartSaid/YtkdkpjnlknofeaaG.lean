import Derived.Test.YtkdkpjnlknofeaaE
namespace Go.Proofs.Ytkdkpjnlknofeaa
set_option maxRecDepth 20000
set_option linter.unusedVariables false
set_option linter.unusedSimpArgs false
open Go.SE Go.RowKit
theorem sum_xor {key nonce l l' : List (BitVec 8)} {c : BitVec 32} {n i : Nat} (h : i < n) (hl : n ≤ l.length) (hl' : n ≤ l'.length) :
    (streamS key c nonce (l.take n)).getD i 0#8 ^^^ (streamS key c nonce (l'.take n)).getD i 0#8 = l.getD i 0#8 ^^^ l'.getD i 0#8 := by
  have h1 : (streamS key c nonce (l.take n)).getD i 0#8 = l.getD i 0#8 ^^^ keyAt key c nonce i := by
    simp [streamS, List.getD_eq_getElem?_getD, List.getElem?_take, h, show i < l.length by omega, List.getElem?_range (show i < min n l.length by omega)]
  have h2 : (streamS key c nonce (l'.take n)).getD i 0#8 = l'.getD i 0#8 ^^^ keyAt key c nonce i := by
    simp [streamS, List.getD_eq_getElem?_getD, List.getElem?_take, h, show i < l'.length by omega, List.getElem?_range (show i < min n l'.length by omega)]
  rw [h1, h2, BitVec.xor_assoc, BitVec.xor_comm (keyAt key c nonce i), BitVec.xor_assoc, BitVec.xor_self, BitVec.xor_zero]

theorem l_Sums (key l l' : List (BitVec 8)) (A A' : Option Addr) (ca bq q ca' bq' q' : Nat) (hkey : key.length = 32) (hA : 0 < l.length → A = some ⟨bq, q, none⟩) (hca : l.length ≤ ca) (hA' : 0 < l'.length → A' = some ⟨bq', q', none⟩) (hca' : l'.length ≤ ca') :
    Con Try.prog 7 [aggB key, .slice A l.length ca, .slice A' l'.length ca'] [bytesRow bq q l, bytesRow bq' q' l'] (fun v rs => v = .bool true ∧ rs = []) := by
  refine Con.enter Try.func7 Try.ntmps7 (Nat.le_of_ble_eq_true rfl) rfl fun w => ?_
  refine At.seq ?_
  obtain ⟨n, hn⟩ : ∃ n, n = min (min l.length l'.length) 200 := ⟨_, rfl⟩
  have hn3 : min (min (l.length : Int) (l'.length : Int)) 200 = (n : Int) := by omega
  have hk32 : key.length = 32 := hkey
  refine At.region ?_
  refine At.s (S_box (some 3) 3 (zs := key.map u8V) rfl rfl rfl (fun b3 => ?_))
  refine At.p (some 6) (P_assign rfl rfl) ?_
  refine At.nil ?_
  refine At.next ?_
  refine At.seq ?_
  refine At.region ?_
  refine At.p (some 11) (P_move rfl rfl) ?_
  refine At.p (some 12) (P_len_sl rfl rfl ⟨_, Try.underlying31⟩ rfl) ?_
  refine At.p (some 13) (P_move rfl rfl) ?_
  refine At.p (some 14) (P_len_sl rfl rfl ⟨_, Try.underlying31⟩ rfl) ?_
  refine At.p (some 15) (P_min3 rfl rfl rfl rfl rfl (hn3 : _ = (n : Int))) ?_
  refine At.p (some 7) (P_assign rfl rfl) ?_
  refine At.nil ?_
  refine At.next ?_
  refine At.seq ?_
  refine At.draws 11 [] [.q false [0, 1, 2, 3, 4, 6, 7, 8, 9, 10], .e false 5] (by kernel_rfl) (by kernel_rfl) ?_
  refine At.wq (some 16) (Q_loadA (k := 3) rfl rfl Try.underlying22 rfl sz22 (by first | omega | (simp <;> omega)) rfl) ?_
  refine At.wp (some 17) (P_build_arr (cs := ((List.replicate 12 0#8).map u8V).toArray) (parts := _) (vs := []) rfl Try.underlying24 sz5 ze24 rfl rfl) ?_
  refine At.wp (some 18) (P_move rfl rfl) ?_
  refine At.wp (some 19) (P_move rfl rfl) ?_
  refine At.wp (some 20) (P_slice_sl (h := n) rfl Try.underlying31 sz5 rfl rfl ⟨_, _, rfl, by omega⟩ rfl (by omega) (by omega) (by omega)) ?_
  refine At.wq (some 22) (Q_loadA (k := 3) rfl rfl Try.underlying22 rfl sz22 (by first | omega | (simp <;> omega)) rfl) ?_
  refine At.wp (some 23) (P_build_arr (cs := ((List.replicate 12 0#8).map u8V).toArray) (parts := _) (vs := []) rfl Try.underlying24 sz5 ze24 rfl rfl) ?_
  refine At.wp (some 24) (P_move rfl rfl) ?_
  refine At.wp (some 25) (P_move rfl rfl) ?_
  refine At.wp (some 26) (P_slice_sl (h := n) rfl Try.underlying31 sz5 rfl rfl ⟨_, _, rfl, by omega⟩ rfl (by omega) (by omega) (by omega)) ?_
  refine At.wqn ?_
  refine At.we ?_
  refine SStep.up (S_callV (some 21) [(0, _)] [8] (vs := [_, _, _, _]) rfl en18 rfl (VN (by simp) rfl (View.sub (j := 0) (m := n) rfl rfl) V0) (by simp) (c_StreamN (count := 1#32) (nonce := List.replicate 12 0#8) (l := l.take n) (n := n) (by simp; omega) hkey rfl (fun h => cut_zero (hA (by omega))) (by omega)) (by rintro _ _ ⟨A8, b8, c8, g8a, g8b, rfl, rfl⟩; rfl) ?_)
  rintro _ _ ⟨A8, b8, c8, g8a, g8b, rfl, rfl⟩
  refine At.wt rfl ?_
  refine At.s (S_callV (some 27) [(1, _)] [9] (vs := [_, _, _, _]) rfl en18 rfl (VN (by simp) rfl (View.sub (j := 0) (m := n) rfl rfl) V0) (by simp) (c_StreamN (count := 1#32) (nonce := List.replicate 12 0#8) (l := l'.take n) (n := n) (by simp; omega) hkey rfl (fun h => cut_zero (hA' (by omega))) (by omega)) (by rintro _ _ ⟨A9, b9, c9, g9a, g9b, rfl, rfl⟩; rfl) ?_)
  rintro _ _ ⟨A9, b9, c9, g9a, g9b, rfl, rfl⟩
  refine At.p (some 8) (P_assign rfl rfl) ?_
  refine At.p (some 9) (P_assign rfl rfl) ?_
  refine At.nil ?_
  refine At.next ?_
  refine At.seq ?_
  refine At.seq ?_
  refine At.region ?_
  refine At.s (S_callV (some 28) [] [] (vs := []) rfl en15 rfl V0 (by simp) (c_streams) (by rintro _ _ ⟨rfl, rfl⟩; rfl) ?_)
  rintro _ _ ⟨rfl, rfl⟩
  refine At.p (some 29) (P_not rfl rfl) ?_
  refine At.p (some 30) (P_move rfl rfl) ?_
  refine At.gy (t := 30) rfl rfl rfl rfl ?_
  refine At.p (some 31) (P_move rfl rfl) ?_
  refine At.gy (t := 30) rfl rfl rfl rfl ?_
  refine At.p (some 32) (P_len_sl rfl rfl ⟨_, Try.underlying31⟩ rfl) ?_
  refine At.gy (t := 30) rfl rfl rfl rfl ?_
  refine At.p (some 33) (P_move rfl rfl) ?_
  refine At.gy (t := 30) rfl rfl rfl rfl ?_
  refine At.p (some 34) (P_cmp rfl rfl rfl rfl rfl rfl) ?_
  refine At.p (some 35) (P_pick_f rfl rfl rfl rfl) ?_
  refine At.p (some 36) (P_move rfl rfl) ?_
  refine At.gy (t := 36) rfl (by simp) rfl rfl ?_
  refine At.p (some 37) (P_move rfl rfl) ?_
  refine At.gy (t := 36) rfl (by simp) rfl rfl ?_
  refine At.p (some 38) (P_len_sl rfl rfl ⟨_, Try.underlying31⟩ rfl) ?_
  refine At.gy (t := 36) rfl (by simp) rfl rfl ?_
  refine At.p (some 39) (P_move rfl rfl) ?_
  refine At.gy (t := 36) rfl (by simp) rfl rfl ?_
  refine At.p (some 40) (P_cmp rfl rfl rfl rfl rfl rfl) ?_
  refine At.p (some 41) (P_pick_f rfl rfl (by simp) rfl) ?_
  refine At.nil ?_
  refine At.next ?_
  refine At.cond rfl (fun h41 => by simp at h41) (fun h41 => ?_)
  refine At.skip ?_
  refine At.next ?_
  refine At.seq ?_
  refine At.seq ?_
  refine At.region ?_
  refine At.p (some 10) (P_assign rfl rfl) ?_
  refine At.nil ?_
  refine At.next ?_
  refine At.block ?_
  refine At.loopx (I := fun m fr H => ∃ i, m = n - i ∧ fr = frOf [(1, .slice A l.length ca), (2, .slice A' l'.length ca'), (7, iV (n : Int)), (8, .slice A8 n c8), (9, .slice A9 n c9), (10, iV (i : Int))] ∧ H = hOf [(0, bytesRow bq q l), (1, bytesRow bq' q' l'), (8, ⟨true, b8, 0, 5, (streamS key 1#32 (List.replicate 12 0#8) (l.take n)).map u8V, c8 - n⟩), (9, ⟨true, b9, 0, 5, (streamS key 1#32 (List.replicate 12 0#8) (l'.take n)).map u8V, c9 - n⟩)] ∧ i ≤ n) ?_ ?_
  · intro Kc0 hKc0
    refine At.to [(1, _), (2, _), (7, _), (8, _), (9, _), (10, _)] [(0, _), (1, _), (8, _), (9, _)] (AllL.cons_ (rfl) (AllL.cons_ (rfl) (AllL.cons_ (rfl) (AllL.cons_ (rfl) (AllL.cons_ (rfl) (AllL.cons_ (rfl) trivial)))))) (AllL.cons_ (rfl) (AllL.cons_ (rfl) (AllL.cons_ (rfl) (AllL.cons_ (rfl) trivial)))) ?_
    exact hKc0 _ _ _ ⟨0, rfl, rfl, rfl, by omega⟩
  · rintro m fr H ⟨i, rfl, rfl, rfl, hi⟩ Kc0 hKc0
    refine At.seq ?_
    refine At.seq ?_
    refine At.region ?_
    refine At.p (some 42) (P_move rfl rfl) ?_
    refine At.p (some 43) (P_move rfl rfl) ?_
    refine At.p (some 44) (P_cmp rfl rfl rfl rfl rfl rfl) ?_
    refine At.nil ?_
    refine At.next ?_
    refine At.cond rfl (fun h44 => ?_) (fun h44 => ?_)
    · -- cond 44 t
      have hlt : i < n := by simp at h44; omega
      have e1 : (streamS key 1#32 (List.replicate 12 0#8) (l.take n)).length = n := by rw [streamS_len]; simp; omega
      have e2 : (streamS key 1#32 (List.replicate 12 0#8) (l'.take n)).length = n := by rw [streamS_len]; simp; omega
      refine At.skip ?_
      refine At.next ?_
      refine At.seq ?_
      refine At.block ?_
      refine At.seq ?_
      refine At.draws 18 [] [.q false [0, 1, 2, 3, 4, 5, 6, 7, 8, 9, 10, 11, 12, 13, 14, 15, 16, 17]] (by kernel_rfl) (by kernel_rfl) ?_
      refine At.wp (some 47) (P_move rfl rfl) ?_
      refine At.wp (some 48) (P_move rfl rfl) ?_
      refine At.wp (some 49) (P_indexAddr_slz rfl Try.underlying31 sz5 rfl (g8a (by omega)) rfl rfl (by omega)) ?_
      refine At.wq (some 50) (Q_loadM (k := 8) (0#8) rfl rfl Try.underlying5 rfl rfl (by first | omega | (simp <;> omega))) ?_
      refine At.wp (some 51) (P_move rfl rfl) ?_
      refine At.wp (some 52) (P_move rfl rfl) ?_
      refine At.wp (some 53) (P_indexAddr_slz rfl Try.underlying31 sz5 rfl (g9a (by omega)) rfl rfl (by omega)) ?_
      refine At.wq (some 54) (Q_loadM (k := 9) (0#8) rfl rfl Try.underlying5 rfl rfl (by first | omega | (simp <;> omega))) ?_
      refine At.wp (some 55) (P_xor_w UK.u8 rfl rfl rfl) ?_
      refine At.wp (some 56) (P_move rfl rfl) ?_
      refine At.wp (some 57) (P_move rfl rfl) ?_
      refine At.wp (some 58) (P_indexAddr_sl1 rfl Try.underlying31 sz5 rfl (hA (by omega)) rfl rfl (by omega)) ?_
      refine At.wq (some 59) (Q_loadR (l := l) (k := 0) (j := i) (0#8) rfl rfl Try.underlying5 rfl rfl rfl (by omega)) ?_
      refine At.wp (some 60) (P_move rfl rfl) ?_
      refine At.wp (some 61) (P_move rfl rfl) ?_
      refine At.wp (some 62) (P_indexAddr_sl1 rfl Try.underlying31 sz5 rfl (hA' (by omega)) rfl rfl (by omega)) ?_
      refine At.wq (some 63) (Q_loadR (l := l') (k := 1) (j := i) (0#8) rfl rfl Try.underlying5 rfl rfl rfl (by omega)) ?_
      refine At.wp (some 64) (P_xor_w UK.u8 rfl rfl rfl) ?_
      refine At.wqn ?_
      refine At.wt rfl ?_
      refine At.p (some 65) (P_neq_w (n := 8) rfl rfl rfl) ?_
      refine At.nil ?_
      refine At.next ?_
      refine At.cond rfl (fun h65 => absurd h65 (by rw [sum_xor hlt (by omega) (by omega)]; simp)) (fun h65 => ?_)
      refine At.skip ?_
      refine At.inb_n ?_
      refine At.next ?_
      refine At.region ?_
      refine At.p (some 45) (P_move rfl rfl) ?_
      refine At.p (some 46) (P_add_i rfl rfl rfl (by omega)) ?_
      refine At.p (some 10) (P_assign rfl rfl) ?_
      refine At.nil ?_
      refine At.next ?_
      refine At.to [(1, _), (2, _), (7, _), (8, _), (9, _), (10, _)] [(0, _), (1, _), (8, _), (9, _)] (AllL.cons_ (rfl) (AllL.cons_ (rfl) (AllL.cons_ (rfl) (AllL.cons_ (rfl) (AllL.cons_ (rfl) (AllL.cons_ (rfl) trivial)))))) (AllL.cons_ (rfl) (AllL.cons_ (rfl) (AllL.cons_ (rfl) (AllL.cons_ (rfl) trivial)))) ?_
      exact hKc0 _ _ _ (by omega) ⟨i + 1, rfl, rfl, rfl, by omega⟩
    · -- cond 44 f
      refine At.exit ?_
      refine At.thn_e ?_
      refine At.thn_e ?_
      refine At.inb_hit ?_
      refine At.next ?_
      refine At.seq ?_
      refine At.region ?_
      refine At.p (some 6) (P_assign rfl rfl) ?_
      refine At.nil ?_
      refine At.next ?_
      refine At.ret ?_
      refine At.give (.inl rfl) [] (rows' := []) (vs := [_]) rfl ⟨rfl, trivial⟩ rfl (by simp) (by simp) ⟨rfl, rfl⟩

theorem l_Apart (key nonce : List (BitVec 8)) (i : Int) (hkey : key.length = 32) (hnonce : nonce.length = 12) :
    Con Try.prog 4 [aggB key, aggB nonce, iV i] [] (fun v rs => v = .bool true ∧ rs = []) := by
  refine Con.enter Try.func4 Try.ntmps4 (Nat.le_of_ble_eq_true rfl) rfl fun w => ?_
  refine At.seq ?_
  obtain ⟨a, ha, hae⟩ := umod_nat (BitVec.ofInt 64 i) 32#64 (by decide) (by decide)
  have ha : a < 32 := ha
  obtain ⟨b, hb, hbe⟩ := umod_nat (BitVec.ofInt 64 i) 12#64 (by decide) (by decide)
  have hb : b < 12 := hb
  have hk32 : key.length = 32 := hkey
  have hbl := blockS_len key 3#32 nonce
  refine At.region ?_
  refine At.s (S_box (some 3) 3 (zs := key.map u8V) rfl rfl rfl (fun b3 => ?_))
  refine At.s (S_box (some 4) 4 (zs := nonce.map u8V) rfl rfl rfl (fun b4 => ?_))
  refine At.p (some 6) (P_assign rfl rfl) ?_
  refine At.nil ?_
  refine At.next ?_
  refine At.seq ?_
  refine At.region ?_
  refine At.q (some 11) (Q_loadA (k := 3) rfl rfl Try.underlying22 rfl sz22 (by first | omega | (simp <;> omega)) rfl) ?_
  refine At.q (some 12) (Q_loadA (k := 4) rfl rfl Try.underlying24 rfl sz24 (by first | omega | (simp <;> omega)) rfl) ?_
  refine At.s (S_callV (some 13) [] [] (vs := [_, _, _]) rfl en16 rfl V0 (by simp) (c_Block key nonce 3#32 hkey hnonce) (by rintro _ _ ⟨rfl, rfl⟩; rfl) ?_)
  rintro _ _ ⟨rfl, rfl⟩
  refine At.s (S_alloc (some 7) 7 (zs := (List.replicate 64 0#8).map u8V) rfl ze26 rfl (fun b7 => ?_))
  refine At.s (S_storeA none (k := 7) (vs := _) rfl rfl rfl (by rw [sz26]; simp <;> omega) rfl (by simp [Value.oneCell']) (by first | (simp; done) | (intro h; have h2 := congrArg List.length h; simp only [List.length_map, List.length_nil] at h2; omega)) rfl (by first | omega | (simp <;> omega)) ?_)
  refine At.nil ?_
  refine At.next ?_
  refine At.seq ?_
  refine At.brute (fun fr H => ∃ b8 b9, fr = frOf [(2, iV i), (3, ptr b3 0), (4, ptr b4 0), (7, ptr b7 0), (8, ptr b8 0), (9, ptr b9 0)] ∧ H = hOf [(3, ⟨true, b3, 0, 22, key.map u8V, 0⟩), (4, ⟨true, b4, 0, 24, nonce.map u8V, 0⟩), (7, ⟨true, b7, 0, 26, (blockS key 3#32 nonce).map u8V, 0⟩), (8, ⟨true, b8, 0, 22, key.map u8V, 0⟩), (9, ⟨true, b9, 0, 24, nonce.map u8V, 0⟩)]) (by kernel_rfl) ?_ ?_
  · intro Kb hKb
    refine At.anyStep [0, 1, 2, 3] (by kernel_rfl) (by simp) ?_
    refine ⟨?_, ?_, ?_, ?_⟩
    ·
      refine At.anyQ (some 14) (Q_loadA (k := 3) rfl rfl Try.underlying22 rfl sz22 (by first | omega | (simp <;> omega)) rfl) ?_
      refine At.anyStep [1, 2, 3] (by kernel_rfl) (by simp) ?_
      refine ⟨?_, ?_, ?_⟩
      ·
        refine At.anyQ (some 15) (Q_loadA (k := 4) rfl rfl Try.underlying24 rfl sz24 (by first | omega | (simp <;> omega)) rfl) ?_
        refine At.anyStep [2, 3] (by kernel_rfl) (by simp) ?_
        refine ⟨?_, ?_⟩
        ·
          refine At.anyS (S_alloc (some 8) 8 (zs := (List.replicate 32 0#8).map u8V) rfl ze22 rfl (fun b8 => ?_))
          refine At.anyStep [3] (by kernel_rfl) (by simp) ?_
          refine At.anyS (S_alloc (some 9) 9 (zs := (List.replicate 12 0#8).map u8V) rfl ze24 rfl (fun b9 => ?_))
          refine At.anyStep [4] (by kernel_rfl) (by simp) ?_
          refine At.anyS (S_storeA none (k := 8) (vs := _) rfl rfl rfl (by rw [sz22]; simp <;> omega) rfl (by simp [Value.oneCell']) (by first | (simp; done) | (intro h; have h2 := congrArg List.length h; simp only [List.length_map, List.length_nil] at h2; omega)) rfl (by first | omega | (simp <;> omega)) ?_)
          refine At.anyStep [5] (by kernel_rfl) (by simp) ?_
          refine At.anyS (S_storeA none (k := 9) (vs := _) rfl rfl rfl (by rw [sz24]; simp <;> omega) rfl (by simp [Value.oneCell']) (by first | (simp; done) | (intro h; have h2 := congrArg List.length h; simp only [List.length_map, List.length_nil] at h2; omega)) rfl (by first | omega | (simp <;> omega)) ?_)
          refine At.anyEnd (by kernel_rfl) ?_
          refine At.next ?_
          refine At.to [(2, _), (3, _), (4, _), (7, _), (8, _), (9, _)] [(3, _), (4, _), (7, _), (8, _), (9, _)] (AllL.cons_ (rfl) (AllL.cons_ (rfl) (AllL.cons_ (rfl) (AllL.cons_ (rfl) (AllL.cons_ (rfl) (AllL.cons_ (rfl) trivial)))))) (AllL.cons_ (rfl) (AllL.cons_ (rfl) (AllL.cons_ (rfl) (AllL.cons_ (rfl) (AllL.cons_ (rfl) trivial))))) ?_
          exact hKb _ _ ⟨b8, b9, rfl, rfl⟩
        ·
          refine At.anyS (S_alloc (some 9) 9 (zs := (List.replicate 12 0#8).map u8V) rfl ze24 rfl (fun b9 => ?_))
          refine At.anyStep [2] (by kernel_rfl) (by simp) ?_
          refine At.anyS (S_alloc (some 8) 8 (zs := (List.replicate 32 0#8).map u8V) rfl ze22 rfl (fun b8 => ?_))
          refine At.anyStep [4] (by kernel_rfl) (by simp) ?_
          refine At.anyS (S_storeA none (k := 8) (vs := _) rfl rfl rfl (by rw [sz22]; simp <;> omega) rfl (by simp [Value.oneCell']) (by first | (simp; done) | (intro h; have h2 := congrArg List.length h; simp only [List.length_map, List.length_nil] at h2; omega)) rfl (by first | omega | (simp <;> omega)) ?_)
          refine At.anyStep [5] (by kernel_rfl) (by simp) ?_
          refine At.anyS (S_storeA none (k := 9) (vs := _) rfl rfl rfl (by rw [sz24]; simp <;> omega) rfl (by simp [Value.oneCell']) (by first | (simp; done) | (intro h; have h2 := congrArg List.length h; simp only [List.length_map, List.length_nil] at h2; omega)) rfl (by first | omega | (simp <;> omega)) ?_)
          refine At.anyEnd (by kernel_rfl) ?_
          refine At.next ?_
          refine At.to [(2, _), (3, _), (4, _), (7, _), (8, _), (9, _)] [(3, _), (4, _), (7, _), (8, _), (9, _)] (AllL.cons_ (rfl) (AllL.cons_ (rfl) (AllL.cons_ (rfl) (AllL.cons_ (rfl) (AllL.cons_ (rfl) (AllL.cons_ (rfl) trivial)))))) (AllL.cons_ (rfl) (AllL.cons_ (rfl) (AllL.cons_ (rfl) (AllL.cons_ (rfl) (AllL.cons_ (rfl) trivial))))) ?_
          exact hKb _ _ ⟨b8, b9, rfl, rfl⟩
      ·
        refine At.anyS (S_alloc (some 8) 8 (zs := (List.replicate 32 0#8).map u8V) rfl ze22 rfl (fun b8 => ?_))
        refine At.anyStep [1, 3] (by kernel_rfl) (by simp) ?_
        refine ⟨?_, ?_⟩
        ·
          refine At.anyQ (some 15) (Q_loadA (k := 4) rfl rfl Try.underlying24 rfl sz24 (by first | omega | (simp <;> omega)) rfl) ?_
          refine At.anyStep [3] (by kernel_rfl) (by simp) ?_
          refine At.anyS (S_alloc (some 9) 9 (zs := (List.replicate 12 0#8).map u8V) rfl ze24 rfl (fun b9 => ?_))
          refine At.anyStep [4] (by kernel_rfl) (by simp) ?_
          refine At.anyS (S_storeA none (k := 8) (vs := _) rfl rfl rfl (by rw [sz22]; simp <;> omega) rfl (by simp [Value.oneCell']) (by first | (simp; done) | (intro h; have h2 := congrArg List.length h; simp only [List.length_map, List.length_nil] at h2; omega)) rfl (by first | omega | (simp <;> omega)) ?_)
          refine At.anyStep [5] (by kernel_rfl) (by simp) ?_
          refine At.anyS (S_storeA none (k := 9) (vs := _) rfl rfl rfl (by rw [sz24]; simp <;> omega) rfl (by simp [Value.oneCell']) (by first | (simp; done) | (intro h; have h2 := congrArg List.length h; simp only [List.length_map, List.length_nil] at h2; omega)) rfl (by first | omega | (simp <;> omega)) ?_)
          refine At.anyEnd (by kernel_rfl) ?_
          refine At.next ?_
          refine At.to [(2, _), (3, _), (4, _), (7, _), (8, _), (9, _)] [(3, _), (4, _), (7, _), (8, _), (9, _)] (AllL.cons_ (rfl) (AllL.cons_ (rfl) (AllL.cons_ (rfl) (AllL.cons_ (rfl) (AllL.cons_ (rfl) (AllL.cons_ (rfl) trivial)))))) (AllL.cons_ (rfl) (AllL.cons_ (rfl) (AllL.cons_ (rfl) (AllL.cons_ (rfl) (AllL.cons_ (rfl) trivial))))) ?_
          exact hKb _ _ ⟨b8, b9, rfl, rfl⟩
        ·
          refine At.anyS (S_alloc (some 9) 9 (zs := (List.replicate 12 0#8).map u8V) rfl ze24 rfl (fun b9 => ?_))
          refine At.anyStep [1, 4] (by kernel_rfl) (by simp) ?_
          refine ⟨?_, ?_⟩
          ·
            refine At.anyQ (some 15) (Q_loadA (k := 4) rfl rfl Try.underlying24 rfl sz24 (by first | omega | (simp <;> omega)) rfl) ?_
            refine At.anyStep [4] (by kernel_rfl) (by simp) ?_
            refine At.anyS (S_storeA none (k := 8) (vs := _) rfl rfl rfl (by rw [sz22]; simp <;> omega) rfl (by simp [Value.oneCell']) (by first | (simp; done) | (intro h; have h2 := congrArg List.length h; simp only [List.length_map, List.length_nil] at h2; omega)) rfl (by first | omega | (simp <;> omega)) ?_)
            refine At.anyStep [5] (by kernel_rfl) (by simp) ?_
            refine At.anyS (S_storeA none (k := 9) (vs := _) rfl rfl rfl (by rw [sz24]; simp <;> omega) rfl (by simp [Value.oneCell']) (by first | (simp; done) | (intro h; have h2 := congrArg List.length h; simp only [List.length_map, List.length_nil] at h2; omega)) rfl (by first | omega | (simp <;> omega)) ?_)
            refine At.anyEnd (by kernel_rfl) ?_
            refine At.next ?_
            refine At.to [(2, _), (3, _), (4, _), (7, _), (8, _), (9, _)] [(3, _), (4, _), (7, _), (8, _), (9, _)] (AllL.cons_ (rfl) (AllL.cons_ (rfl) (AllL.cons_ (rfl) (AllL.cons_ (rfl) (AllL.cons_ (rfl) (AllL.cons_ (rfl) trivial)))))) (AllL.cons_ (rfl) (AllL.cons_ (rfl) (AllL.cons_ (rfl) (AllL.cons_ (rfl) (AllL.cons_ (rfl) trivial))))) ?_
            exact hKb _ _ ⟨b8, b9, rfl, rfl⟩
          ·
            refine At.anyS (S_storeA none (k := 8) (vs := _) rfl rfl rfl (by rw [sz22]; simp <;> omega) rfl (by simp [Value.oneCell']) (by first | (simp; done) | (intro h; have h2 := congrArg List.length h; simp only [List.length_map, List.length_nil] at h2; omega)) rfl (by first | omega | (simp <;> omega)) ?_)
            refine At.anyStep [1] (by kernel_rfl) (by simp) ?_
            refine At.anyQ (some 15) (Q_loadA (k := 4) rfl rfl Try.underlying24 rfl sz24 (by first | omega | (simp <;> omega)) rfl) ?_
            refine At.anyStep [5] (by kernel_rfl) (by simp) ?_
            refine At.anyS (S_storeA none (k := 9) (vs := _) rfl rfl rfl (by rw [sz24]; simp <;> omega) rfl (by simp [Value.oneCell']) (by first | (simp; done) | (intro h; have h2 := congrArg List.length h; simp only [List.length_map, List.length_nil] at h2; omega)) rfl (by first | omega | (simp <;> omega)) ?_)
            refine At.anyEnd (by kernel_rfl) ?_
            refine At.next ?_
            refine At.to [(2, _), (3, _), (4, _), (7, _), (8, _), (9, _)] [(3, _), (4, _), (7, _), (8, _), (9, _)] (AllL.cons_ (rfl) (AllL.cons_ (rfl) (AllL.cons_ (rfl) (AllL.cons_ (rfl) (AllL.cons_ (rfl) (AllL.cons_ (rfl) trivial)))))) (AllL.cons_ (rfl) (AllL.cons_ (rfl) (AllL.cons_ (rfl) (AllL.cons_ (rfl) (AllL.cons_ (rfl) trivial))))) ?_
            exact hKb _ _ ⟨b8, b9, rfl, rfl⟩
      ·
        refine At.anyS (S_alloc (some 9) 9 (zs := (List.replicate 12 0#8).map u8V) rfl ze24 rfl (fun b9 => ?_))
        refine At.anyStep [1, 2] (by kernel_rfl) (by simp) ?_
        refine ⟨?_, ?_⟩
        ·
          refine At.anyQ (some 15) (Q_loadA (k := 4) rfl rfl Try.underlying24 rfl sz24 (by first | omega | (simp <;> omega)) rfl) ?_
          refine At.anyStep [2] (by kernel_rfl) (by simp) ?_
          refine At.anyS (S_alloc (some 8) 8 (zs := (List.replicate 32 0#8).map u8V) rfl ze22 rfl (fun b8 => ?_))
          refine At.anyStep [4] (by kernel_rfl) (by simp) ?_
          refine At.anyS (S_storeA none (k := 8) (vs := _) rfl rfl rfl (by rw [sz22]; simp <;> omega) rfl (by simp [Value.oneCell']) (by first | (simp; done) | (intro h; have h2 := congrArg List.length h; simp only [List.length_map, List.length_nil] at h2; omega)) rfl (by first | omega | (simp <;> omega)) ?_)
          refine At.anyStep [5] (by kernel_rfl) (by simp) ?_
          refine At.anyS (S_storeA none (k := 9) (vs := _) rfl rfl rfl (by rw [sz24]; simp <;> omega) rfl (by simp [Value.oneCell']) (by first | (simp; done) | (intro h; have h2 := congrArg List.length h; simp only [List.length_map, List.length_nil] at h2; omega)) rfl (by first | omega | (simp <;> omega)) ?_)
          refine At.anyEnd (by kernel_rfl) ?_
          refine At.next ?_
          refine At.to [(2, _), (3, _), (4, _), (7, _), (8, _), (9, _)] [(3, _), (4, _), (7, _), (8, _), (9, _)] (AllL.cons_ (rfl) (AllL.cons_ (rfl) (AllL.cons_ (rfl) (AllL.cons_ (rfl) (AllL.cons_ (rfl) (AllL.cons_ (rfl) trivial)))))) (AllL.cons_ (rfl) (AllL.cons_ (rfl) (AllL.cons_ (rfl) (AllL.cons_ (rfl) (AllL.cons_ (rfl) trivial))))) ?_
          exact hKb _ _ ⟨b8, b9, rfl, rfl⟩
        ·
          refine At.anyS (S_alloc (some 8) 8 (zs := (List.replicate 32 0#8).map u8V) rfl ze22 rfl (fun b8 => ?_))
          refine At.anyStep [1, 4] (by kernel_rfl) (by simp) ?_
          refine ⟨?_, ?_⟩
          ·
            refine At.anyQ (some 15) (Q_loadA (k := 4) rfl rfl Try.underlying24 rfl sz24 (by first | omega | (simp <;> omega)) rfl) ?_
            refine At.anyStep [4] (by kernel_rfl) (by simp) ?_
            refine At.anyS (S_storeA none (k := 8) (vs := _) rfl rfl rfl (by rw [sz22]; simp <;> omega) rfl (by simp [Value.oneCell']) (by first | (simp; done) | (intro h; have h2 := congrArg List.length h; simp only [List.length_map, List.length_nil] at h2; omega)) rfl (by first | omega | (simp <;> omega)) ?_)
            refine At.anyStep [5] (by kernel_rfl) (by simp) ?_
            refine At.anyS (S_storeA none (k := 9) (vs := _) rfl rfl rfl (by rw [sz24]; simp <;> omega) rfl (by simp [Value.oneCell']) (by first | (simp; done) | (intro h; have h2 := congrArg List.length h; simp only [List.length_map, List.length_nil] at h2; omega)) rfl (by first | omega | (simp <;> omega)) ?_)
            refine At.anyEnd (by kernel_rfl) ?_
            refine At.next ?_
            refine At.to [(2, _), (3, _), (4, _), (7, _), (8, _), (9, _)] [(3, _), (4, _), (7, _), (8, _), (9, _)] (AllL.cons_ (rfl) (AllL.cons_ (rfl) (AllL.cons_ (rfl) (AllL.cons_ (rfl) (AllL.cons_ (rfl) (AllL.cons_ (rfl) trivial)))))) (AllL.cons_ (rfl) (AllL.cons_ (rfl) (AllL.cons_ (rfl) (AllL.cons_ (rfl) (AllL.cons_ (rfl) trivial))))) ?_
            exact hKb _ _ ⟨b8, b9, rfl, rfl⟩
          ·
            refine At.anyS (S_storeA none (k := 8) (vs := _) rfl rfl rfl (by rw [sz22]; simp <;> omega) rfl (by simp [Value.oneCell']) (by first | (simp; done) | (intro h; have h2 := congrArg List.length h; simp only [List.length_map, List.length_nil] at h2; omega)) rfl (by first | omega | (simp <;> omega)) ?_)
            refine At.anyStep [1] (by kernel_rfl) (by simp) ?_
            refine At.anyQ (some 15) (Q_loadA (k := 4) rfl rfl Try.underlying24 rfl sz24 (by first | omega | (simp <;> omega)) rfl) ?_
            refine At.anyStep [5] (by kernel_rfl) (by simp) ?_
            refine At.anyS (S_storeA none (k := 9) (vs := _) rfl rfl rfl (by rw [sz24]; simp <;> omega) rfl (by simp [Value.oneCell']) (by first | (simp; done) | (intro h; have h2 := congrArg List.length h; simp only [List.length_map, List.length_nil] at h2; omega)) rfl (by first | omega | (simp <;> omega)) ?_)
            refine At.anyEnd (by kernel_rfl) ?_
            refine At.next ?_
            refine At.to [(2, _), (3, _), (4, _), (7, _), (8, _), (9, _)] [(3, _), (4, _), (7, _), (8, _), (9, _)] (AllL.cons_ (rfl) (AllL.cons_ (rfl) (AllL.cons_ (rfl) (AllL.cons_ (rfl) (AllL.cons_ (rfl) (AllL.cons_ (rfl) trivial)))))) (AllL.cons_ (rfl) (AllL.cons_ (rfl) (AllL.cons_ (rfl) (AllL.cons_ (rfl) (AllL.cons_ (rfl) trivial))))) ?_
            exact hKb _ _ ⟨b8, b9, rfl, rfl⟩
    ·
      refine At.anyQ (some 15) (Q_loadA (k := 4) rfl rfl Try.underlying24 rfl sz24 (by first | omega | (simp <;> omega)) rfl) ?_
      refine At.anyStep [0, 2, 3] (by kernel_rfl) (by simp) ?_
      refine ⟨?_, ?_, ?_⟩
      ·
        refine At.anyQ (some 14) (Q_loadA (k := 3) rfl rfl Try.underlying22 rfl sz22 (by first | omega | (simp <;> omega)) rfl) ?_
        refine At.anyStep [2, 3] (by kernel_rfl) (by simp) ?_
        refine ⟨?_, ?_⟩
        ·
          refine At.anyS (S_alloc (some 8) 8 (zs := (List.replicate 32 0#8).map u8V) rfl ze22 rfl (fun b8 => ?_))
          refine At.anyStep [3] (by kernel_rfl) (by simp) ?_
          refine At.anyS (S_alloc (some 9) 9 (zs := (List.replicate 12 0#8).map u8V) rfl ze24 rfl (fun b9 => ?_))
          refine At.anyStep [4] (by kernel_rfl) (by simp) ?_
          refine At.anyS (S_storeA none (k := 8) (vs := _) rfl rfl rfl (by rw [sz22]; simp <;> omega) rfl (by simp [Value.oneCell']) (by first | (simp; done) | (intro h; have h2 := congrArg List.length h; simp only [List.length_map, List.length_nil] at h2; omega)) rfl (by first | omega | (simp <;> omega)) ?_)
          refine At.anyStep [5] (by kernel_rfl) (by simp) ?_
          refine At.anyS (S_storeA none (k := 9) (vs := _) rfl rfl rfl (by rw [sz24]; simp <;> omega) rfl (by simp [Value.oneCell']) (by first | (simp; done) | (intro h; have h2 := congrArg List.length h; simp only [List.length_map, List.length_nil] at h2; omega)) rfl (by first | omega | (simp <;> omega)) ?_)
          refine At.anyEnd (by kernel_rfl) ?_
          refine At.next ?_
          refine At.to [(2, _), (3, _), (4, _), (7, _), (8, _), (9, _)] [(3, _), (4, _), (7, _), (8, _), (9, _)] (AllL.cons_ (rfl) (AllL.cons_ (rfl) (AllL.cons_ (rfl) (AllL.cons_ (rfl) (AllL.cons_ (rfl) (AllL.cons_ (rfl) trivial)))))) (AllL.cons_ (rfl) (AllL.cons_ (rfl) (AllL.cons_ (rfl) (AllL.cons_ (rfl) (AllL.cons_ (rfl) trivial))))) ?_
          exact hKb _ _ ⟨b8, b9, rfl, rfl⟩
        ·
          refine At.anyS (S_alloc (some 9) 9 (zs := (List.replicate 12 0#8).map u8V) rfl ze24 rfl (fun b9 => ?_))
          refine At.anyStep [2] (by kernel_rfl) (by simp) ?_
          refine At.anyS (S_alloc (some 8) 8 (zs := (List.replicate 32 0#8).map u8V) rfl ze22 rfl (fun b8 => ?_))
          refine At.anyStep [4] (by kernel_rfl) (by simp) ?_
          refine At.anyS (S_storeA none (k := 8) (vs := _) rfl rfl rfl (by rw [sz22]; simp <;> omega) rfl (by simp [Value.oneCell']) (by first | (simp; done) | (intro h; have h2 := congrArg List.length h; simp only [List.length_map, List.length_nil] at h2; omega)) rfl (by first | omega | (simp <;> omega)) ?_)
          refine At.anyStep [5] (by kernel_rfl) (by simp) ?_
          refine At.anyS (S_storeA none (k := 9) (vs := _) rfl rfl rfl (by rw [sz24]; simp <;> omega) rfl (by simp [Value.oneCell']) (by first | (simp; done) | (intro h; have h2 := congrArg List.length h; simp only [List.length_map, List.length_nil] at h2; omega)) rfl (by first | omega | (simp <;> omega)) ?_)
          refine At.anyEnd (by kernel_rfl) ?_
          refine At.next ?_
          refine At.to [(2, _), (3, _), (4, _), (7, _), (8, _), (9, _)] [(3, _), (4, _), (7, _), (8, _), (9, _)] (AllL.cons_ (rfl) (AllL.cons_ (rfl) (AllL.cons_ (rfl) (AllL.cons_ (rfl) (AllL.cons_ (rfl) (AllL.cons_ (rfl) trivial)))))) (AllL.cons_ (rfl) (AllL.cons_ (rfl) (AllL.cons_ (rfl) (AllL.cons_ (rfl) (AllL.cons_ (rfl) trivial))))) ?_
          exact hKb _ _ ⟨b8, b9, rfl, rfl⟩
      ·
        refine At.anyS (S_alloc (some 8) 8 (zs := (List.replicate 32 0#8).map u8V) rfl ze22 rfl (fun b8 => ?_))
        refine At.anyStep [0, 3] (by kernel_rfl) (by simp) ?_
        refine ⟨?_, ?_⟩
        ·
          refine At.anyQ (some 14) (Q_loadA (k := 3) rfl rfl Try.underlying22 rfl sz22 (by first | omega | (simp <;> omega)) rfl) ?_
          refine At.anyStep [3] (by kernel_rfl) (by simp) ?_
          refine At.anyS (S_alloc (some 9) 9 (zs := (List.replicate 12 0#8).map u8V) rfl ze24 rfl (fun b9 => ?_))
          refine At.anyStep [4] (by kernel_rfl) (by simp) ?_
          refine At.anyS (S_storeA none (k := 8) (vs := _) rfl rfl rfl (by rw [sz22]; simp <;> omega) rfl (by simp [Value.oneCell']) (by first | (simp; done) | (intro h; have h2 := congrArg List.length h; simp only [List.length_map, List.length_nil] at h2; omega)) rfl (by first | omega | (simp <;> omega)) ?_)
          refine At.anyStep [5] (by kernel_rfl) (by simp) ?_
          refine At.anyS (S_storeA none (k := 9) (vs := _) rfl rfl rfl (by rw [sz24]; simp <;> omega) rfl (by simp [Value.oneCell']) (by first | (simp; done) | (intro h; have h2 := congrArg List.length h; simp only [List.length_map, List.length_nil] at h2; omega)) rfl (by first | omega | (simp <;> omega)) ?_)
          refine At.anyEnd (by kernel_rfl) ?_
          refine At.next ?_
          refine At.to [(2, _), (3, _), (4, _), (7, _), (8, _), (9, _)] [(3, _), (4, _), (7, _), (8, _), (9, _)] (AllL.cons_ (rfl) (AllL.cons_ (rfl) (AllL.cons_ (rfl) (AllL.cons_ (rfl) (AllL.cons_ (rfl) (AllL.cons_ (rfl) trivial)))))) (AllL.cons_ (rfl) (AllL.cons_ (rfl) (AllL.cons_ (rfl) (AllL.cons_ (rfl) (AllL.cons_ (rfl) trivial))))) ?_
          exact hKb _ _ ⟨b8, b9, rfl, rfl⟩
        ·
          refine At.anyS (S_alloc (some 9) 9 (zs := (List.replicate 12 0#8).map u8V) rfl ze24 rfl (fun b9 => ?_))
          refine At.anyStep [0] (by kernel_rfl) (by simp) ?_
          refine At.anyQ (some 14) (Q_loadA (k := 3) rfl rfl Try.underlying22 rfl sz22 (by first | omega | (simp <;> omega)) rfl) ?_
          refine At.anyStep [4] (by kernel_rfl) (by simp) ?_
          refine At.anyS (S_storeA none (k := 8) (vs := _) rfl rfl rfl (by rw [sz22]; simp <;> omega) rfl (by simp [Value.oneCell']) (by first | (simp; done) | (intro h; have h2 := congrArg List.length h; simp only [List.length_map, List.length_nil] at h2; omega)) rfl (by first | omega | (simp <;> omega)) ?_)
          refine At.anyStep [5] (by kernel_rfl) (by simp) ?_
          refine At.anyS (S_storeA none (k := 9) (vs := _) rfl rfl rfl (by rw [sz24]; simp <;> omega) rfl (by simp [Value.oneCell']) (by first | (simp; done) | (intro h; have h2 := congrArg List.length h; simp only [List.length_map, List.length_nil] at h2; omega)) rfl (by first | omega | (simp <;> omega)) ?_)
          refine At.anyEnd (by kernel_rfl) ?_
          refine At.next ?_
          refine At.to [(2, _), (3, _), (4, _), (7, _), (8, _), (9, _)] [(3, _), (4, _), (7, _), (8, _), (9, _)] (AllL.cons_ (rfl) (AllL.cons_ (rfl) (AllL.cons_ (rfl) (AllL.cons_ (rfl) (AllL.cons_ (rfl) (AllL.cons_ (rfl) trivial)))))) (AllL.cons_ (rfl) (AllL.cons_ (rfl) (AllL.cons_ (rfl) (AllL.cons_ (rfl) (AllL.cons_ (rfl) trivial))))) ?_
          exact hKb _ _ ⟨b8, b9, rfl, rfl⟩
      ·
        refine At.anyS (S_alloc (some 9) 9 (zs := (List.replicate 12 0#8).map u8V) rfl ze24 rfl (fun b9 => ?_))
        refine At.anyStep [0, 2] (by kernel_rfl) (by simp) ?_
        refine ⟨?_, ?_⟩
        ·
          refine At.anyQ (some 14) (Q_loadA (k := 3) rfl rfl Try.underlying22 rfl sz22 (by first | omega | (simp <;> omega)) rfl) ?_
          refine At.anyStep [2] (by kernel_rfl) (by simp) ?_
          refine At.anyS (S_alloc (some 8) 8 (zs := (List.replicate 32 0#8).map u8V) rfl ze22 rfl (fun b8 => ?_))
          refine At.anyStep [4] (by kernel_rfl) (by simp) ?_
          refine At.anyS (S_storeA none (k := 8) (vs := _) rfl rfl rfl (by rw [sz22]; simp <;> omega) rfl (by simp [Value.oneCell']) (by first | (simp; done) | (intro h; have h2 := congrArg List.length h; simp only [List.length_map, List.length_nil] at h2; omega)) rfl (by first | omega | (simp <;> omega)) ?_)
          refine At.anyStep [5] (by kernel_rfl) (by simp) ?_
          refine At.anyS (S_storeA none (k := 9) (vs := _) rfl rfl rfl (by rw [sz24]; simp <;> omega) rfl (by simp [Value.oneCell']) (by first | (simp; done) | (intro h; have h2 := congrArg List.length h; simp only [List.length_map, List.length_nil] at h2; omega)) rfl (by first | omega | (simp <;> omega)) ?_)
          refine At.anyEnd (by kernel_rfl) ?_
          refine At.next ?_
          refine At.to [(2, _), (3, _), (4, _), (7, _), (8, _), (9, _)] [(3, _), (4, _), (7, _), (8, _), (9, _)] (AllL.cons_ (rfl) (AllL.cons_ (rfl) (AllL.cons_ (rfl) (AllL.cons_ (rfl) (AllL.cons_ (rfl) (AllL.cons_ (rfl) trivial)))))) (AllL.cons_ (rfl) (AllL.cons_ (rfl) (AllL.cons_ (rfl) (AllL.cons_ (rfl) (AllL.cons_ (rfl) trivial))))) ?_
          exact hKb _ _ ⟨b8, b9, rfl, rfl⟩
        ·
          refine At.anyS (S_alloc (some 8) 8 (zs := (List.replicate 32 0#8).map u8V) rfl ze22 rfl (fun b8 => ?_))
          refine At.anyStep [0] (by kernel_rfl) (by simp) ?_
          refine At.anyQ (some 14) (Q_loadA (k := 3) rfl rfl Try.underlying22 rfl sz22 (by first | omega | (simp <;> omega)) rfl) ?_
          refine At.anyStep [4] (by kernel_rfl) (by simp) ?_
          refine At.anyS (S_storeA none (k := 8) (vs := _) rfl rfl rfl (by rw [sz22]; simp <;> omega) rfl (by simp [Value.oneCell']) (by first | (simp; done) | (intro h; have h2 := congrArg List.length h; simp only [List.length_map, List.length_nil] at h2; omega)) rfl (by first | omega | (simp <;> omega)) ?_)
          refine At.anyStep [5] (by kernel_rfl) (by simp) ?_
          refine At.anyS (S_storeA none (k := 9) (vs := _) rfl rfl rfl (by rw [sz24]; simp <;> omega) rfl (by simp [Value.oneCell']) (by first | (simp; done) | (intro h; have h2 := congrArg List.length h; simp only [List.length_map, List.length_nil] at h2; omega)) rfl (by first | omega | (simp <;> omega)) ?_)
          refine At.anyEnd (by kernel_rfl) ?_
          refine At.next ?_
          refine At.to [(2, _), (3, _), (4, _), (7, _), (8, _), (9, _)] [(3, _), (4, _), (7, _), (8, _), (9, _)] (AllL.cons_ (rfl) (AllL.cons_ (rfl) (AllL.cons_ (rfl) (AllL.cons_ (rfl) (AllL.cons_ (rfl) (AllL.cons_ (rfl) trivial)))))) (AllL.cons_ (rfl) (AllL.cons_ (rfl) (AllL.cons_ (rfl) (AllL.cons_ (rfl) (AllL.cons_ (rfl) trivial))))) ?_
          exact hKb _ _ ⟨b8, b9, rfl, rfl⟩
    ·
      refine At.anyS (S_alloc (some 8) 8 (zs := (List.replicate 32 0#8).map u8V) rfl ze22 rfl (fun b8 => ?_))
      refine At.anyStep [0, 1, 3] (by kernel_rfl) (by simp) ?_
      refine ⟨?_, ?_, ?_⟩
      ·
        refine At.anyQ (some 14) (Q_loadA (k := 3) rfl rfl Try.underlying22 rfl sz22 (by first | omega | (simp <;> omega)) rfl) ?_
        refine At.anyStep [1, 3] (by kernel_rfl) (by simp) ?_
        refine ⟨?_, ?_⟩
        ·
          refine At.anyQ (some 15) (Q_loadA (k := 4) rfl rfl Try.underlying24 rfl sz24 (by first | omega | (simp <;> omega)) rfl) ?_
          refine At.anyStep [3] (by kernel_rfl) (by simp) ?_
          refine At.anyS (S_alloc (some 9) 9 (zs := (List.replicate 12 0#8).map u8V) rfl ze24 rfl (fun b9 => ?_))
          refine At.anyStep [4] (by kernel_rfl) (by simp) ?_
          refine At.anyS (S_storeA none (k := 8) (vs := _) rfl rfl rfl (by rw [sz22]; simp <;> omega) rfl (by simp [Value.oneCell']) (by first | (simp; done) | (intro h; have h2 := congrArg List.length h; simp only [List.length_map, List.length_nil] at h2; omega)) rfl (by first | omega | (simp <;> omega)) ?_)
          refine At.anyStep [5] (by kernel_rfl) (by simp) ?_
          refine At.anyS (S_storeA none (k := 9) (vs := _) rfl rfl rfl (by rw [sz24]; simp <;> omega) rfl (by simp [Value.oneCell']) (by first | (simp; done) | (intro h; have h2 := congrArg List.length h; simp only [List.length_map, List.length_nil] at h2; omega)) rfl (by first | omega | (simp <;> omega)) ?_)
          refine At.anyEnd (by kernel_rfl) ?_
          refine At.next ?_
          refine At.to [(2, _), (3, _), (4, _), (7, _), (8, _), (9, _)] [(3, _), (4, _), (7, _), (8, _), (9, _)] (AllL.cons_ (rfl) (AllL.cons_ (rfl) (AllL.cons_ (rfl) (AllL.cons_ (rfl) (AllL.cons_ (rfl) (AllL.cons_ (rfl) trivial)))))) (AllL.cons_ (rfl) (AllL.cons_ (rfl) (AllL.cons_ (rfl) (AllL.cons_ (rfl) (AllL.cons_ (rfl) trivial))))) ?_
          exact hKb _ _ ⟨b8, b9, rfl, rfl⟩
        ·
          refine At.anyS (S_alloc (some 9) 9 (zs := (List.replicate 12 0#8).map u8V) rfl ze24 rfl (fun b9 => ?_))
          refine At.anyStep [1, 4] (by kernel_rfl) (by simp) ?_
          refine ⟨?_, ?_⟩
          ·
            refine At.anyQ (some 15) (Q_loadA (k := 4) rfl rfl Try.underlying24 rfl sz24 (by first | omega | (simp <;> omega)) rfl) ?_
            refine At.anyStep [4] (by kernel_rfl) (by simp) ?_
            refine At.anyS (S_storeA none (k := 8) (vs := _) rfl rfl rfl (by rw [sz22]; simp <;> omega) rfl (by simp [Value.oneCell']) (by first | (simp; done) | (intro h; have h2 := congrArg List.length h; simp only [List.length_map, List.length_nil] at h2; omega)) rfl (by first | omega | (simp <;> omega)) ?_)
            refine At.anyStep [5] (by kernel_rfl) (by simp) ?_
            refine At.anyS (S_storeA none (k := 9) (vs := _) rfl rfl rfl (by rw [sz24]; simp <;> omega) rfl (by simp [Value.oneCell']) (by first | (simp; done) | (intro h; have h2 := congrArg List.length h; simp only [List.length_map, List.length_nil] at h2; omega)) rfl (by first | omega | (simp <;> omega)) ?_)
            refine At.anyEnd (by kernel_rfl) ?_
            refine At.next ?_
            refine At.to [(2, _), (3, _), (4, _), (7, _), (8, _), (9, _)] [(3, _), (4, _), (7, _), (8, _), (9, _)] (AllL.cons_ (rfl) (AllL.cons_ (rfl) (AllL.cons_ (rfl) (AllL.cons_ (rfl) (AllL.cons_ (rfl) (AllL.cons_ (rfl) trivial)))))) (AllL.cons_ (rfl) (AllL.cons_ (rfl) (AllL.cons_ (rfl) (AllL.cons_ (rfl) (AllL.cons_ (rfl) trivial))))) ?_
            exact hKb _ _ ⟨b8, b9, rfl, rfl⟩
          ·
            refine At.anyS (S_storeA none (k := 8) (vs := _) rfl rfl rfl (by rw [sz22]; simp <;> omega) rfl (by simp [Value.oneCell']) (by first | (simp; done) | (intro h; have h2 := congrArg List.length h; simp only [List.length_map, List.length_nil] at h2; omega)) rfl (by first | omega | (simp <;> omega)) ?_)
            refine At.anyStep [1] (by kernel_rfl) (by simp) ?_
            refine At.anyQ (some 15) (Q_loadA (k := 4) rfl rfl Try.underlying24 rfl sz24 (by first | omega | (simp <;> omega)) rfl) ?_
            refine At.anyStep [5] (by kernel_rfl) (by simp) ?_
            refine At.anyS (S_storeA none (k := 9) (vs := _) rfl rfl rfl (by rw [sz24]; simp <;> omega) rfl (by simp [Value.oneCell']) (by first | (simp; done) | (intro h; have h2 := congrArg List.length h; simp only [List.length_map, List.length_nil] at h2; omega)) rfl (by first | omega | (simp <;> omega)) ?_)
            refine At.anyEnd (by kernel_rfl) ?_
            refine At.next ?_
            refine At.to [(2, _), (3, _), (4, _), (7, _), (8, _), (9, _)] [(3, _), (4, _), (7, _), (8, _), (9, _)] (AllL.cons_ (rfl) (AllL.cons_ (rfl) (AllL.cons_ (rfl) (AllL.cons_ (rfl) (AllL.cons_ (rfl) (AllL.cons_ (rfl) trivial)))))) (AllL.cons_ (rfl) (AllL.cons_ (rfl) (AllL.cons_ (rfl) (AllL.cons_ (rfl) (AllL.cons_ (rfl) trivial))))) ?_
            exact hKb _ _ ⟨b8, b9, rfl, rfl⟩
      ·
        refine At.anyQ (some 15) (Q_loadA (k := 4) rfl rfl Try.underlying24 rfl sz24 (by first | omega | (simp <;> omega)) rfl) ?_
        refine At.anyStep [0, 3] (by kernel_rfl) (by simp) ?_
        refine ⟨?_, ?_⟩
        ·
          refine At.anyQ (some 14) (Q_loadA (k := 3) rfl rfl Try.underlying22 rfl sz22 (by first | omega | (simp <;> omega)) rfl) ?_
          refine At.anyStep [3] (by kernel_rfl) (by simp) ?_
          refine At.anyS (S_alloc (some 9) 9 (zs := (List.replicate 12 0#8).map u8V) rfl ze24 rfl (fun b9 => ?_))
          refine At.anyStep [4] (by kernel_rfl) (by simp) ?_
          refine At.anyS (S_storeA none (k := 8) (vs := _) rfl rfl rfl (by rw [sz22]; simp <;> omega) rfl (by simp [Value.oneCell']) (by first | (simp; done) | (intro h; have h2 := congrArg List.length h; simp only [List.length_map, List.length_nil] at h2; omega)) rfl (by first | omega | (simp <;> omega)) ?_)
          refine At.anyStep [5] (by kernel_rfl) (by simp) ?_
          refine At.anyS (S_storeA none (k := 9) (vs := _) rfl rfl rfl (by rw [sz24]; simp <;> omega) rfl (by simp [Value.oneCell']) (by first | (simp; done) | (intro h; have h2 := congrArg List.length h; simp only [List.length_map, List.length_nil] at h2; omega)) rfl (by first | omega | (simp <;> omega)) ?_)
          refine At.anyEnd (by kernel_rfl) ?_
          refine At.next ?_
          refine At.to [(2, _), (3, _), (4, _), (7, _), (8, _), (9, _)] [(3, _), (4, _), (7, _), (8, _), (9, _)] (AllL.cons_ (rfl) (AllL.cons_ (rfl) (AllL.cons_ (rfl) (AllL.cons_ (rfl) (AllL.cons_ (rfl) (AllL.cons_ (rfl) trivial)))))) (AllL.cons_ (rfl) (AllL.cons_ (rfl) (AllL.cons_ (rfl) (AllL.cons_ (rfl) (AllL.cons_ (rfl) trivial))))) ?_
          exact hKb _ _ ⟨b8, b9, rfl, rfl⟩
        ·
          refine At.anyS (S_alloc (some 9) 9 (zs := (List.replicate 12 0#8).map u8V) rfl ze24 rfl (fun b9 => ?_))
          refine At.anyStep [0] (by kernel_rfl) (by simp) ?_
          refine At.anyQ (some 14) (Q_loadA (k := 3) rfl rfl Try.underlying22 rfl sz22 (by first | omega | (simp <;> omega)) rfl) ?_
          refine At.anyStep [4] (by kernel_rfl) (by simp) ?_
          refine At.anyS (S_storeA none (k := 8) (vs := _) rfl rfl rfl (by rw [sz22]; simp <;> omega) rfl (by simp [Value.oneCell']) (by first | (simp; done) | (intro h; have h2 := congrArg List.length h; simp only [List.length_map, List.length_nil] at h2; omega)) rfl (by first | omega | (simp <;> omega)) ?_)
          refine At.anyStep [5] (by kernel_rfl) (by simp) ?_
          refine At.anyS (S_storeA none (k := 9) (vs := _) rfl rfl rfl (by rw [sz24]; simp <;> omega) rfl (by simp [Value.oneCell']) (by first | (simp; done) | (intro h; have h2 := congrArg List.length h; simp only [List.length_map, List.length_nil] at h2; omega)) rfl (by first | omega | (simp <;> omega)) ?_)
          refine At.anyEnd (by kernel_rfl) ?_
          refine At.next ?_
          refine At.to [(2, _), (3, _), (4, _), (7, _), (8, _), (9, _)] [(3, _), (4, _), (7, _), (8, _), (9, _)] (AllL.cons_ (rfl) (AllL.cons_ (rfl) (AllL.cons_ (rfl) (AllL.cons_ (rfl) (AllL.cons_ (rfl) (AllL.cons_ (rfl) trivial)))))) (AllL.cons_ (rfl) (AllL.cons_ (rfl) (AllL.cons_ (rfl) (AllL.cons_ (rfl) (AllL.cons_ (rfl) trivial))))) ?_
          exact hKb _ _ ⟨b8, b9, rfl, rfl⟩
      ·
        refine At.anyS (S_alloc (some 9) 9 (zs := (List.replicate 12 0#8).map u8V) rfl ze24 rfl (fun b9 => ?_))
        refine At.anyStep [0, 1] (by kernel_rfl) (by simp) ?_
        refine ⟨?_, ?_⟩
        ·
          refine At.anyQ (some 14) (Q_loadA (k := 3) rfl rfl Try.underlying22 rfl sz22 (by first | omega | (simp <;> omega)) rfl) ?_
          refine At.anyStep [1, 4] (by kernel_rfl) (by simp) ?_
          refine ⟨?_, ?_⟩
          ·
            refine At.anyQ (some 15) (Q_loadA (k := 4) rfl rfl Try.underlying24 rfl sz24 (by first | omega | (simp <;> omega)) rfl) ?_
            refine At.anyStep [4] (by kernel_rfl) (by simp) ?_
            refine At.anyS (S_storeA none (k := 8) (vs := _) rfl rfl rfl (by rw [sz22]; simp <;> omega) rfl (by simp [Value.oneCell']) (by first | (simp; done) | (intro h; have h2 := congrArg List.length h; simp only [List.length_map, List.length_nil] at h2; omega)) rfl (by first | omega | (simp <;> omega)) ?_)
            refine At.anyStep [5] (by kernel_rfl) (by simp) ?_
            refine At.anyS (S_storeA none (k := 9) (vs := _) rfl rfl rfl (by rw [sz24]; simp <;> omega) rfl (by simp [Value.oneCell']) (by first | (simp; done) | (intro h; have h2 := congrArg List.length h; simp only [List.length_map, List.length_nil] at h2; omega)) rfl (by first | omega | (simp <;> omega)) ?_)
            refine At.anyEnd (by kernel_rfl) ?_
            refine At.next ?_
            refine At.to [(2, _), (3, _), (4, _), (7, _), (8, _), (9, _)] [(3, _), (4, _), (7, _), (8, _), (9, _)] (AllL.cons_ (rfl) (AllL.cons_ (rfl) (AllL.cons_ (rfl) (AllL.cons_ (rfl) (AllL.cons_ (rfl) (AllL.cons_ (rfl) trivial)))))) (AllL.cons_ (rfl) (AllL.cons_ (rfl) (AllL.cons_ (rfl) (AllL.cons_ (rfl) (AllL.cons_ (rfl) trivial))))) ?_
            exact hKb _ _ ⟨b8, b9, rfl, rfl⟩
          ·
            refine At.anyS (S_storeA none (k := 8) (vs := _) rfl rfl rfl (by rw [sz22]; simp <;> omega) rfl (by simp [Value.oneCell']) (by first | (simp; done) | (intro h; have h2 := congrArg List.length h; simp only [List.length_map, List.length_nil] at h2; omega)) rfl (by first | omega | (simp <;> omega)) ?_)
            refine At.anyStep [1] (by kernel_rfl) (by simp) ?_
            refine At.anyQ (some 15) (Q_loadA (k := 4) rfl rfl Try.underlying24 rfl sz24 (by first | omega | (simp <;> omega)) rfl) ?_
            refine At.anyStep [5] (by kernel_rfl) (by simp) ?_
            refine At.anyS (S_storeA none (k := 9) (vs := _) rfl rfl rfl (by rw [sz24]; simp <;> omega) rfl (by simp [Value.oneCell']) (by first | (simp; done) | (intro h; have h2 := congrArg List.length h; simp only [List.length_map, List.length_nil] at h2; omega)) rfl (by first | omega | (simp <;> omega)) ?_)
            refine At.anyEnd (by kernel_rfl) ?_
            refine At.next ?_
            refine At.to [(2, _), (3, _), (4, _), (7, _), (8, _), (9, _)] [(3, _), (4, _), (7, _), (8, _), (9, _)] (AllL.cons_ (rfl) (AllL.cons_ (rfl) (AllL.cons_ (rfl) (AllL.cons_ (rfl) (AllL.cons_ (rfl) (AllL.cons_ (rfl) trivial)))))) (AllL.cons_ (rfl) (AllL.cons_ (rfl) (AllL.cons_ (rfl) (AllL.cons_ (rfl) (AllL.cons_ (rfl) trivial))))) ?_
            exact hKb _ _ ⟨b8, b9, rfl, rfl⟩
        ·
          refine At.anyQ (some 15) (Q_loadA (k := 4) rfl rfl Try.underlying24 rfl sz24 (by first | omega | (simp <;> omega)) rfl) ?_
          refine At.anyStep [0] (by kernel_rfl) (by simp) ?_
          refine At.anyQ (some 14) (Q_loadA (k := 3) rfl rfl Try.underlying22 rfl sz22 (by first | omega | (simp <;> omega)) rfl) ?_
          refine At.anyStep [4] (by kernel_rfl) (by simp) ?_
          refine At.anyS (S_storeA none (k := 8) (vs := _) rfl rfl rfl (by rw [sz22]; simp <;> omega) rfl (by simp [Value.oneCell']) (by first | (simp; done) | (intro h; have h2 := congrArg List.length h; simp only [List.length_map, List.length_nil] at h2; omega)) rfl (by first | omega | (simp <;> omega)) ?_)
          refine At.anyStep [5] (by kernel_rfl) (by simp) ?_
          refine At.anyS (S_storeA none (k := 9) (vs := _) rfl rfl rfl (by rw [sz24]; simp <;> omega) rfl (by simp [Value.oneCell']) (by first | (simp; done) | (intro h; have h2 := congrArg List.length h; simp only [List.length_map, List.length_nil] at h2; omega)) rfl (by first | omega | (simp <;> omega)) ?_)
          refine At.anyEnd (by kernel_rfl) ?_
          refine At.next ?_
          refine At.to [(2, _), (3, _), (4, _), (7, _), (8, _), (9, _)] [(3, _), (4, _), (7, _), (8, _), (9, _)] (AllL.cons_ (rfl) (AllL.cons_ (rfl) (AllL.cons_ (rfl) (AllL.cons_ (rfl) (AllL.cons_ (rfl) (AllL.cons_ (rfl) trivial)))))) (AllL.cons_ (rfl) (AllL.cons_ (rfl) (AllL.cons_ (rfl) (AllL.cons_ (rfl) (AllL.cons_ (rfl) trivial))))) ?_
          exact hKb _ _ ⟨b8, b9, rfl, rfl⟩
    ·
      refine At.anyS (S_alloc (some 9) 9 (zs := (List.replicate 12 0#8).map u8V) rfl ze24 rfl (fun b9 => ?_))
      refine At.anyStep [0, 1, 2] (by kernel_rfl) (by simp) ?_
      refine ⟨?_, ?_, ?_⟩
      ·
        refine At.anyQ (some 14) (Q_loadA (k := 3) rfl rfl Try.underlying22 rfl sz22 (by first | omega | (simp <;> omega)) rfl) ?_
        refine At.anyStep [1, 2] (by kernel_rfl) (by simp) ?_
        refine ⟨?_, ?_⟩
        ·
          refine At.anyQ (some 15) (Q_loadA (k := 4) rfl rfl Try.underlying24 rfl sz24 (by first | omega | (simp <;> omega)) rfl) ?_
          refine At.anyStep [2] (by kernel_rfl) (by simp) ?_
          refine At.anyS (S_alloc (some 8) 8 (zs := (List.replicate 32 0#8).map u8V) rfl ze22 rfl (fun b8 => ?_))
          refine At.anyStep [4] (by kernel_rfl) (by simp) ?_
          refine At.anyS (S_storeA none (k := 8) (vs := _) rfl rfl rfl (by rw [sz22]; simp <;> omega) rfl (by simp [Value.oneCell']) (by first | (simp; done) | (intro h; have h2 := congrArg List.length h; simp only [List.length_map, List.length_nil] at h2; omega)) rfl (by first | omega | (simp <;> omega)) ?_)
          refine At.anyStep [5] (by kernel_rfl) (by simp) ?_
          refine At.anyS (S_storeA none (k := 9) (vs := _) rfl rfl rfl (by rw [sz24]; simp <;> omega) rfl (by simp [Value.oneCell']) (by first | (simp; done) | (intro h; have h2 := congrArg List.length h; simp only [List.length_map, List.length_nil] at h2; omega)) rfl (by first | omega | (simp <;> omega)) ?_)
          refine At.anyEnd (by kernel_rfl) ?_
          refine At.next ?_
          refine At.to [(2, _), (3, _), (4, _), (7, _), (8, _), (9, _)] [(3, _), (4, _), (7, _), (8, _), (9, _)] (AllL.cons_ (rfl) (AllL.cons_ (rfl) (AllL.cons_ (rfl) (AllL.cons_ (rfl) (AllL.cons_ (rfl) (AllL.cons_ (rfl) trivial)))))) (AllL.cons_ (rfl) (AllL.cons_ (rfl) (AllL.cons_ (rfl) (AllL.cons_ (rfl) (AllL.cons_ (rfl) trivial))))) ?_
          exact hKb _ _ ⟨b8, b9, rfl, rfl⟩
        ·
          refine At.anyS (S_alloc (some 8) 8 (zs := (List.replicate 32 0#8).map u8V) rfl ze22 rfl (fun b8 => ?_))
          refine At.anyStep [1, 4] (by kernel_rfl) (by simp) ?_
          refine ⟨?_, ?_⟩
          ·
            refine At.anyQ (some 15) (Q_loadA (k := 4) rfl rfl Try.underlying24 rfl sz24 (by first | omega | (simp <;> omega)) rfl) ?_
            refine At.anyStep [4] (by kernel_rfl) (by simp) ?_
            refine At.anyS (S_storeA none (k := 8) (vs := _) rfl rfl rfl (by rw [sz22]; simp <;> omega) rfl (by simp [Value.oneCell']) (by first | (simp; done) | (intro h; have h2 := congrArg List.length h; simp only [List.length_map, List.length_nil] at h2; omega)) rfl (by first | omega | (simp <;> omega)) ?_)
            refine At.anyStep [5] (by kernel_rfl) (by simp) ?_
            refine At.anyS (S_storeA none (k := 9) (vs := _) rfl rfl rfl (by rw [sz24]; simp <;> omega) rfl (by simp [Value.oneCell']) (by first | (simp; done) | (intro h; have h2 := congrArg List.length h; simp only [List.length_map, List.length_nil] at h2; omega)) rfl (by first | omega | (simp <;> omega)) ?_)
            refine At.anyEnd (by kernel_rfl) ?_
            refine At.next ?_
            refine At.to [(2, _), (3, _), (4, _), (7, _), (8, _), (9, _)] [(3, _), (4, _), (7, _), (8, _), (9, _)] (AllL.cons_ (rfl) (AllL.cons_ (rfl) (AllL.cons_ (rfl) (AllL.cons_ (rfl) (AllL.cons_ (rfl) (AllL.cons_ (rfl) trivial)))))) (AllL.cons_ (rfl) (AllL.cons_ (rfl) (AllL.cons_ (rfl) (AllL.cons_ (rfl) (AllL.cons_ (rfl) trivial))))) ?_
            exact hKb _ _ ⟨b8, b9, rfl, rfl⟩
          ·
            refine At.anyS (S_storeA none (k := 8) (vs := _) rfl rfl rfl (by rw [sz22]; simp <;> omega) rfl (by simp [Value.oneCell']) (by first | (simp; done) | (intro h; have h2 := congrArg List.length h; simp only [List.length_map, List.length_nil] at h2; omega)) rfl (by first | omega | (simp <;> omega)) ?_)
            refine At.anyStep [1] (by kernel_rfl) (by simp) ?_
            refine At.anyQ (some 15) (Q_loadA (k := 4) rfl rfl Try.underlying24 rfl sz24 (by first | omega | (simp <;> omega)) rfl) ?_
            refine At.anyStep [5] (by kernel_rfl) (by simp) ?_
            refine At.anyS (S_storeA none (k := 9) (vs := _) rfl rfl rfl (by rw [sz24]; simp <;> omega) rfl (by simp [Value.oneCell']) (by first | (simp; done) | (intro h; have h2 := congrArg List.length h; simp only [List.length_map, List.length_nil] at h2; omega)) rfl (by first | omega | (simp <;> omega)) ?_)
            refine At.anyEnd (by kernel_rfl) ?_
            refine At.next ?_
            refine At.to [(2, _), (3, _), (4, _), (7, _), (8, _), (9, _)] [(3, _), (4, _), (7, _), (8, _), (9, _)] (AllL.cons_ (rfl) (AllL.cons_ (rfl) (AllL.cons_ (rfl) (AllL.cons_ (rfl) (AllL.cons_ (rfl) (AllL.cons_ (rfl) trivial)))))) (AllL.cons_ (rfl) (AllL.cons_ (rfl) (AllL.cons_ (rfl) (AllL.cons_ (rfl) (AllL.cons_ (rfl) trivial))))) ?_
            exact hKb _ _ ⟨b8, b9, rfl, rfl⟩
      ·
        refine At.anyQ (some 15) (Q_loadA (k := 4) rfl rfl Try.underlying24 rfl sz24 (by first | omega | (simp <;> omega)) rfl) ?_
        refine At.anyStep [0, 2] (by kernel_rfl) (by simp) ?_
        refine ⟨?_, ?_⟩
        ·
          refine At.anyQ (some 14) (Q_loadA (k := 3) rfl rfl Try.underlying22 rfl sz22 (by first | omega | (simp <;> omega)) rfl) ?_
          refine At.anyStep [2] (by kernel_rfl) (by simp) ?_
          refine At.anyS (S_alloc (some 8) 8 (zs := (List.replicate 32 0#8).map u8V) rfl ze22 rfl (fun b8 => ?_))
          refine At.anyStep [4] (by kernel_rfl) (by simp) ?_
          refine At.anyS (S_storeA none (k := 8) (vs := _) rfl rfl rfl (by rw [sz22]; simp <;> omega) rfl (by simp [Value.oneCell']) (by first | (simp; done) | (intro h; have h2 := congrArg List.length h; simp only [List.length_map, List.length_nil] at h2; omega)) rfl (by first | omega | (simp <;> omega)) ?_)
          refine At.anyStep [5] (by kernel_rfl) (by simp) ?_
          refine At.anyS (S_storeA none (k := 9) (vs := _) rfl rfl rfl (by rw [sz24]; simp <;> omega) rfl (by simp [Value.oneCell']) (by first | (simp; done) | (intro h; have h2 := congrArg List.length h; simp only [List.length_map, List.length_nil] at h2; omega)) rfl (by first | omega | (simp <;> omega)) ?_)
          refine At.anyEnd (by kernel_rfl) ?_
          refine At.next ?_
          refine At.to [(2, _), (3, _), (4, _), (7, _), (8, _), (9, _)] [(3, _), (4, _), (7, _), (8, _), (9, _)] (AllL.cons_ (rfl) (AllL.cons_ (rfl) (AllL.cons_ (rfl) (AllL.cons_ (rfl) (AllL.cons_ (rfl) (AllL.cons_ (rfl) trivial)))))) (AllL.cons_ (rfl) (AllL.cons_ (rfl) (AllL.cons_ (rfl) (AllL.cons_ (rfl) (AllL.cons_ (rfl) trivial))))) ?_
          exact hKb _ _ ⟨b8, b9, rfl, rfl⟩
        ·
          refine At.anyS (S_alloc (some 8) 8 (zs := (List.replicate 32 0#8).map u8V) rfl ze22 rfl (fun b8 => ?_))
          refine At.anyStep [0] (by kernel_rfl) (by simp) ?_
          refine At.anyQ (some 14) (Q_loadA (k := 3) rfl rfl Try.underlying22 rfl sz22 (by first | omega | (simp <;> omega)) rfl) ?_
          refine At.anyStep [4] (by kernel_rfl) (by simp) ?_
          refine At.anyS (S_storeA none (k := 8) (vs := _) rfl rfl rfl (by rw [sz22]; simp <;> omega) rfl (by simp [Value.oneCell']) (by first | (simp; done) | (intro h; have h2 := congrArg List.length h; simp only [List.length_map, List.length_nil] at h2; omega)) rfl (by first | omega | (simp <;> omega)) ?_)
          refine At.anyStep [5] (by kernel_rfl) (by simp) ?_
          refine At.anyS (S_storeA none (k := 9) (vs := _) rfl rfl rfl (by rw [sz24]; simp <;> omega) rfl (by simp [Value.oneCell']) (by first | (simp; done) | (intro h; have h2 := congrArg List.length h; simp only [List.length_map, List.length_nil] at h2; omega)) rfl (by first | omega | (simp <;> omega)) ?_)
          refine At.anyEnd (by kernel_rfl) ?_
          refine At.next ?_
          refine At.to [(2, _), (3, _), (4, _), (7, _), (8, _), (9, _)] [(3, _), (4, _), (7, _), (8, _), (9, _)] (AllL.cons_ (rfl) (AllL.cons_ (rfl) (AllL.cons_ (rfl) (AllL.cons_ (rfl) (AllL.cons_ (rfl) (AllL.cons_ (rfl) trivial)))))) (AllL.cons_ (rfl) (AllL.cons_ (rfl) (AllL.cons_ (rfl) (AllL.cons_ (rfl) (AllL.cons_ (rfl) trivial))))) ?_
          exact hKb _ _ ⟨b8, b9, rfl, rfl⟩
      ·
        refine At.anyS (S_alloc (some 8) 8 (zs := (List.replicate 32 0#8).map u8V) rfl ze22 rfl (fun b8 => ?_))
        refine At.anyStep [0, 1] (by kernel_rfl) (by simp) ?_
        refine ⟨?_, ?_⟩
        ·
          refine At.anyQ (some 14) (Q_loadA (k := 3) rfl rfl Try.underlying22 rfl sz22 (by first | omega | (simp <;> omega)) rfl) ?_
          refine At.anyStep [1, 4] (by kernel_rfl) (by simp) ?_
          refine ⟨?_, ?_⟩
          ·
            refine At.anyQ (some 15) (Q_loadA (k := 4) rfl rfl Try.underlying24 rfl sz24 (by first | omega | (simp <;> omega)) rfl) ?_
            refine At.anyStep [4] (by kernel_rfl) (by simp) ?_
            refine At.anyS (S_storeA none (k := 8) (vs := _) rfl rfl rfl (by rw [sz22]; simp <;> omega) rfl (by simp [Value.oneCell']) (by first | (simp; done) | (intro h; have h2 := congrArg List.length h; simp only [List.length_map, List.length_nil] at h2; omega)) rfl (by first | omega | (simp <;> omega)) ?_)
            refine At.anyStep [5] (by kernel_rfl) (by simp) ?_
            refine At.anyS (S_storeA none (k := 9) (vs := _) rfl rfl rfl (by rw [sz24]; simp <;> omega) rfl (by simp [Value.oneCell']) (by first | (simp; done) | (intro h; have h2 := congrArg List.length h; simp only [List.length_map, List.length_nil] at h2; omega)) rfl (by first | omega | (simp <;> omega)) ?_)
            refine At.anyEnd (by kernel_rfl) ?_
            refine At.next ?_
            refine At.to [(2, _), (3, _), (4, _), (7, _), (8, _), (9, _)] [(3, _), (4, _), (7, _), (8, _), (9, _)] (AllL.cons_ (rfl) (AllL.cons_ (rfl) (AllL.cons_ (rfl) (AllL.cons_ (rfl) (AllL.cons_ (rfl) (AllL.cons_ (rfl) trivial)))))) (AllL.cons_ (rfl) (AllL.cons_ (rfl) (AllL.cons_ (rfl) (AllL.cons_ (rfl) (AllL.cons_ (rfl) trivial))))) ?_
            exact hKb _ _ ⟨b8, b9, rfl, rfl⟩
          ·
            refine At.anyS (S_storeA none (k := 8) (vs := _) rfl rfl rfl (by rw [sz22]; simp <;> omega) rfl (by simp [Value.oneCell']) (by first | (simp; done) | (intro h; have h2 := congrArg List.length h; simp only [List.length_map, List.length_nil] at h2; omega)) rfl (by first | omega | (simp <;> omega)) ?_)
            refine At.anyStep [1] (by kernel_rfl) (by simp) ?_
            refine At.anyQ (some 15) (Q_loadA (k := 4) rfl rfl Try.underlying24 rfl sz24 (by first | omega | (simp <;> omega)) rfl) ?_
            refine At.anyStep [5] (by kernel_rfl) (by simp) ?_
            refine At.anyS (S_storeA none (k := 9) (vs := _) rfl rfl rfl (by rw [sz24]; simp <;> omega) rfl (by simp [Value.oneCell']) (by first | (simp; done) | (intro h; have h2 := congrArg List.length h; simp only [List.length_map, List.length_nil] at h2; omega)) rfl (by first | omega | (simp <;> omega)) ?_)
            refine At.anyEnd (by kernel_rfl) ?_
            refine At.next ?_
            refine At.to [(2, _), (3, _), (4, _), (7, _), (8, _), (9, _)] [(3, _), (4, _), (7, _), (8, _), (9, _)] (AllL.cons_ (rfl) (AllL.cons_ (rfl) (AllL.cons_ (rfl) (AllL.cons_ (rfl) (AllL.cons_ (rfl) (AllL.cons_ (rfl) trivial)))))) (AllL.cons_ (rfl) (AllL.cons_ (rfl) (AllL.cons_ (rfl) (AllL.cons_ (rfl) (AllL.cons_ (rfl) trivial))))) ?_
            exact hKb _ _ ⟨b8, b9, rfl, rfl⟩
        ·
          refine At.anyQ (some 15) (Q_loadA (k := 4) rfl rfl Try.underlying24 rfl sz24 (by first | omega | (simp <;> omega)) rfl) ?_
          refine At.anyStep [0] (by kernel_rfl) (by simp) ?_
          refine At.anyQ (some 14) (Q_loadA (k := 3) rfl rfl Try.underlying22 rfl sz22 (by first | omega | (simp <;> omega)) rfl) ?_
          refine At.anyStep [4] (by kernel_rfl) (by simp) ?_
          refine At.anyS (S_storeA none (k := 8) (vs := _) rfl rfl rfl (by rw [sz22]; simp <;> omega) rfl (by simp [Value.oneCell']) (by first | (simp; done) | (intro h; have h2 := congrArg List.length h; simp only [List.length_map, List.length_nil] at h2; omega)) rfl (by first | omega | (simp <;> omega)) ?_)
          refine At.anyStep [5] (by kernel_rfl) (by simp) ?_
          refine At.anyS (S_storeA none (k := 9) (vs := _) rfl rfl rfl (by rw [sz24]; simp <;> omega) rfl (by simp [Value.oneCell']) (by first | (simp; done) | (intro h; have h2 := congrArg List.length h; simp only [List.length_map, List.length_nil] at h2; omega)) rfl (by first | omega | (simp <;> omega)) ?_)
          refine At.anyEnd (by kernel_rfl) ?_
          refine At.next ?_
          refine At.to [(2, _), (3, _), (4, _), (7, _), (8, _), (9, _)] [(3, _), (4, _), (7, _), (8, _), (9, _)] (AllL.cons_ (rfl) (AllL.cons_ (rfl) (AllL.cons_ (rfl) (AllL.cons_ (rfl) (AllL.cons_ (rfl) (AllL.cons_ (rfl) trivial)))))) (AllL.cons_ (rfl) (AllL.cons_ (rfl) (AllL.cons_ (rfl) (AllL.cons_ (rfl) (AllL.cons_ (rfl) trivial))))) ?_
          exact hKb _ _ ⟨b8, b9, rfl, rfl⟩
  · rintro fr H ⟨b8, b9, rfl, rfl⟩
    refine At.next ?_
    refine At.seq ?_
    refine At.region ?_
    refine At.p (some 16) (P_move rfl rfl) ?_
    refine At.p (some 17) (P_conv_iw UK.u64 rfl Try.underlying3 Try.underlying29 rfl) ?_
    refine At.p (some 18) (P_rem_w UK.u64 (b := 32#64) rfl rfl rfl (by decide)) ?_
    refine At.p (some 19) (P_conv_WiE hae rfl Try.underlying29 Try.underlying3 rfl) ?_
    refine At.p (some 20) (P_indexAddr_arr1 rfl Try.underlying22 sz5 rfl rfl rfl (by omega)) ?_
    refine At.q (some 21) (Q_loadM (k := 8) (0#8) rfl rfl Try.underlying5 rfl rfl (by first | omega | (simp <;> omega))) ?_
    refine At.p (some 22) (P_move rfl rfl) ?_
    refine At.p (some 23) (P_conv_iw UK.u64 rfl Try.underlying3 Try.underlying29 rfl) ?_
    refine At.p (some 24) (P_quo_w UK.u64 (b := 32#64) rfl rfl rfl (by decide)) ?_
    refine At.p (some 25) (P_rem_w UK.u64 (b := 8#64) rfl rfl rfl (by decide)) ?_
    refine At.p (some 26) (P_shl_w UK.u8 (n := 8) (a := 1#8) rfl rfl rfl (by first | decide | omega)) ?_
    refine At.p (some 27) (P_xor_w UK.u8 rfl rfl rfl) ?_
    refine At.p (some 28) (P_indexAddr_arr1 rfl Try.underlying22 sz5 rfl rfl rfl (by omega)) ?_
    refine At.s (S_storeM none (f := u8V) (k := 8) rfl rfl rfl sz5 rfl rfl rfl (by first | omega | (simp <;> omega)) ?_)
    refine At.nil ?_
    refine At.next ?_
    refine At.seq ?_
    refine At.region ?_
    refine At.p (some 29) (P_move rfl rfl) ?_
    refine At.p (some 30) (P_conv_iw UK.u64 rfl Try.underlying3 Try.underlying29 rfl) ?_
    refine At.p (some 31) (P_rem_w UK.u64 (b := 12#64) rfl rfl rfl (by decide)) ?_
    refine At.p (some 32) (P_conv_WiE hbe rfl Try.underlying29 Try.underlying3 rfl) ?_
    refine At.p (some 33) (P_indexAddr_arr1 rfl Try.underlying24 sz5 rfl rfl rfl (by omega)) ?_
    refine At.q (some 34) (Q_loadM (k := 9) (0#8) rfl rfl Try.underlying5 rfl rfl (by first | omega | (simp <;> omega))) ?_
    refine At.p (some 35) (P_move rfl rfl) ?_
    refine At.p (some 36) (P_conv_iw UK.u64 rfl Try.underlying3 Try.underlying29 rfl) ?_
    refine At.p (some 37) (P_quo_w UK.u64 (b := 12#64) rfl rfl rfl (by decide)) ?_
    refine At.p (some 38) (P_rem_w UK.u64 (b := 8#64) rfl rfl rfl (by decide)) ?_
    refine At.p (some 39) (P_shl_w UK.u8 (n := 8) (a := 1#8) rfl rfl rfl (by first | decide | omega)) ?_
    refine At.p (some 40) (P_xor_w UK.u8 rfl rfl rfl) ?_
    refine At.p (some 41) (P_indexAddr_arr1 rfl Try.underlying24 sz5 rfl rfl rfl (by omega)) ?_
    refine At.s (S_storeM none (f := u8V) (k := 9) rfl rfl rfl sz5 rfl rfl rfl (by first | omega | (simp <;> omega)) ?_)
    refine At.nil ?_
    refine At.next ?_
    refine At.seq ?_
    generalize hKe : key.set a _ = K
    generalize hNe : nonce.set b _ = N
    have hK : K.length = 32 := by rw [← hKe]; simp [hkey]
    have hN : N.length = 12 := by rw [← hNe]; simp [hnonce]
    refine At.region ?_
    refine At.q (some 42) (Q_loadA (k := 3) rfl rfl Try.underlying22 rfl sz22 (by first | omega | (simp <;> omega)) rfl) ?_
    refine At.q (some 43) (Q_loadA (k := 4) rfl rfl Try.underlying24 rfl sz24 (by first | omega | (simp <;> omega)) rfl) ?_
    refine At.s (S_callV (some 44) [] [] (vs := [_, _, _]) rfl en17 rfl V0 (by simp) (r_Block key nonce 3#32 hkey hnonce) (by rintro _ _ ⟨rfl, rfl⟩; rfl) ?_)
    rintro _ _ ⟨rfl, rfl⟩
    refine At.s (S_alloc (some 10) 10 (zs := (List.replicate 64 0#8).map u8V) rfl ze26 rfl (fun b10 => ?_))
    refine At.s (S_storeA none (k := 10) (vs := _) rfl rfl rfl (by rw [sz26]; simp <;> omega) rfl (by simp [Value.oneCell']) (by first | (simp; done) | (intro h; have h2 := congrArg List.length h; simp only [List.length_map, List.length_nil] at h2; omega)) rfl (by first | omega | (simp <;> omega)) ?_)
    refine At.nil ?_
    refine At.next ?_
    refine At.seq ?_
    refine At.draws 38 [] [.q false [0, 1, 2, 3, 4, 5, 6, 7, 8, 9, 10, 11, 12, 13, 14, 15, 16, 17, 18, 19, 20, 21, 22, 23, 24, 25, 26, 27, 28, 29, 30, 31, 32, 33, 34, 35, 36, 37]] (by kernel_rfl) (by kernel_rfl) ?_
    refine At.wcV (some 45) [] (vs := []) rfl en15 rfl V0 (c_streams) ?_
    refine At.wp (some 46) (P_move rfl rfl) ?_
    refine At.wgyq (some 47) (t := 46) rfl rfl rfl rfl (Q_loadA (k := 7) rfl rfl Try.underlying26 rfl sz26 (by first | omega | (simp <;> omega)) rfl) ?_
    refine At.wgyq (some 48) (t := 46) rfl rfl rfl rfl (Q_loadA (k := 8) rfl rfl Try.underlying22 rfl sz22 (by first | omega | (simp <;> omega)) rfl) ?_
    refine At.wgyq (some 49) (t := 46) rfl rfl rfl rfl (Q_loadA (k := 4) rfl rfl Try.underlying24 rfl sz24 (by first | omega | (simp <;> omega)) rfl) ?_
    refine At.wcVg (some 50) [] (tt := 46) rfl rfl rfl rfl (vs := [_, _, _]) rfl en16 rfl V0 (c_Block K nonce 3#32 hK hnonce) ?_
    refine At.wgy (some 51) (t := 46) rfl rfl rfl rfl (P_eql_arr rfl Try.underlying26 Try.underlying5 sz5 Try.eqGuardType26 rfl rfl (blockS_len _ _ _) (blockS_len _ _ _)) ?_
    refine At.wgyq (some 52) (t := 46) rfl rfl rfl rfl (Q_loadA (k := 10) rfl rfl Try.underlying26 rfl sz26 (by first | omega | (simp <;> omega)) rfl) ?_
    refine At.wgyq (some 53) (t := 46) rfl rfl rfl rfl (Q_loadA (k := 8) rfl rfl Try.underlying22 rfl sz22 (by first | omega | (simp <;> omega)) rfl) ?_
    refine At.wgyq (some 54) (t := 46) rfl rfl rfl rfl (Q_loadA (k := 4) rfl rfl Try.underlying24 rfl sz24 (by first | omega | (simp <;> omega)) rfl) ?_
    refine At.wcVg (some 55) [] (tt := 46) rfl rfl rfl rfl (vs := [_, _, _]) rfl en17 rfl V0 (r_Block K nonce 3#32 hK hnonce) ?_
    refine At.wgy (some 56) (t := 46) rfl rfl rfl rfl (P_eql_arr rfl Try.underlying26 Try.underlying5 sz5 Try.eqGuardType26 rfl rfl (blockS_len _ _ _) (blockS_len _ _ _)) ?_
    refine At.wgy (some 57) (t := 46) rfl rfl rfl rfl (P_eql_bool rfl Try.underlying4 rfl rfl) ?_
    refine At.wp (some 58) (P_pick_t rfl rfl rfl rfl) ?_
    refine At.wp (some 59) (P_move rfl rfl) ?_
    refine At.wgyq (some 60) (t := 59) rfl (by simp) rfl rfl (Q_loadA (k := 7) rfl rfl Try.underlying26 rfl sz26 (by first | omega | (simp <;> omega)) rfl) ?_
    refine At.wgyq (some 61) (t := 59) rfl (by simp) rfl rfl (Q_loadA (k := 3) rfl rfl Try.underlying22 rfl sz22 (by first | omega | (simp <;> omega)) rfl) ?_
    refine At.wgyq (some 62) (t := 59) rfl (by simp) rfl rfl (Q_loadA (k := 9) rfl rfl Try.underlying24 rfl sz24 (by first | omega | (simp <;> omega)) rfl) ?_
    refine At.wcVg (some 63) [] (tt := 59) rfl (by simp) rfl rfl (vs := [_, _, _]) rfl en16 rfl V0 (c_Block key N 3#32 hkey hN) ?_
    refine At.wgy (some 64) (t := 59) rfl (by simp) rfl rfl (P_eql_arr rfl Try.underlying26 Try.underlying5 sz5 Try.eqGuardType26 rfl rfl (blockS_len _ _ _) (blockS_len _ _ _)) ?_
    refine At.wgyq (some 65) (t := 59) rfl (by simp) rfl rfl (Q_loadA (k := 10) rfl rfl Try.underlying26 rfl sz26 (by first | omega | (simp <;> omega)) rfl) ?_
    refine At.wgyq (some 66) (t := 59) rfl (by simp) rfl rfl (Q_loadA (k := 3) rfl rfl Try.underlying22 rfl sz22 (by first | omega | (simp <;> omega)) rfl) ?_
    refine At.wgyq (some 67) (t := 59) rfl (by simp) rfl rfl (Q_loadA (k := 9) rfl rfl Try.underlying24 rfl sz24 (by first | omega | (simp <;> omega)) rfl) ?_
    refine At.wcVg (some 68) [] (tt := 59) rfl (by simp) rfl rfl (vs := [_, _, _]) rfl en17 rfl V0 (r_Block key N 3#32 hkey hN) ?_
    refine At.wgy (some 69) (t := 59) rfl (by simp) rfl rfl (P_eql_arr rfl Try.underlying26 Try.underlying5 sz5 Try.eqGuardType26 rfl rfl (blockS_len _ _ _) (blockS_len _ _ _)) ?_
    refine At.wgy (some 70) (t := 59) rfl (by simp) rfl rfl (P_eql_bool rfl Try.underlying4 rfl rfl) ?_
    refine At.wp (some 71) (P_pick_t rfl rfl (by simp) rfl) ?_
    refine At.wp (some 72) (P_move rfl rfl) ?_
    refine At.wgyq (some 73) (t := 72) rfl (by simp) rfl rfl (Q_loadA (k := 7) rfl rfl Try.underlying26 rfl sz26 (by first | omega | (simp <;> omega)) rfl) ?_
    refine At.wgyq (some 74) (t := 72) rfl (by simp) rfl rfl (Q_loadA (k := 3) rfl rfl Try.underlying22 rfl sz22 (by first | omega | (simp <;> omega)) rfl) ?_
    refine At.wgyq (some 75) (t := 72) rfl (by simp) rfl rfl (Q_loadA (k := 4) rfl rfl Try.underlying24 rfl sz24 (by first | omega | (simp <;> omega)) rfl) ?_
    refine At.wcVg (some 76) [] (tt := 72) rfl (by simp) rfl rfl (vs := [_, _, _]) rfl en16 rfl V0 (c_Block key nonce 4#32 hkey hnonce) ?_
    refine At.wgy (some 77) (t := 72) rfl (by simp) rfl rfl (P_eql_arr rfl Try.underlying26 Try.underlying5 sz5 Try.eqGuardType26 rfl rfl (blockS_len _ _ _) (blockS_len _ _ _)) ?_
    refine At.wgyq (some 78) (t := 72) rfl (by simp) rfl rfl (Q_loadA (k := 10) rfl rfl Try.underlying26 rfl sz26 (by first | omega | (simp <;> omega)) rfl) ?_
    refine At.wgyq (some 79) (t := 72) rfl (by simp) rfl rfl (Q_loadA (k := 3) rfl rfl Try.underlying22 rfl sz22 (by first | omega | (simp <;> omega)) rfl) ?_
    refine At.wgyq (some 80) (t := 72) rfl (by simp) rfl rfl (Q_loadA (k := 4) rfl rfl Try.underlying24 rfl sz24 (by first | omega | (simp <;> omega)) rfl) ?_
    refine At.wcVg (some 81) [] (tt := 72) rfl (by simp) rfl rfl (vs := [_, _, _]) rfl en17 rfl V0 (r_Block key nonce 4#32 hkey hnonce) ?_
    refine At.wgy (some 82) (t := 72) rfl (by simp) rfl rfl (P_eql_arr rfl Try.underlying26 Try.underlying5 sz5 Try.eqGuardType26 rfl rfl (blockS_len _ _ _) (blockS_len _ _ _)) ?_
    refine At.wqn ?_
    refine At.wt rfl ?_
    refine At.gy (t := 72) rfl (by simp) rfl rfl ?_
    refine At.p (some 83) (P_eql_bool rfl Try.underlying4 rfl rfl) ?_
    refine At.p (some 84) (P_pick_t rfl rfl (by simp) rfl) ?_
    refine At.p (some 6) (P_assign rfl rfl) ?_
    refine At.nil ?_
    refine At.next ?_
    refine At.ret ?_
    refine At.give (.inl rfl) [] (rows' := []) (vs := [_]) rfl ⟨rfl, trivial⟩ rfl (by simp) (by simp) ⟨congrArg Value.bool (by simp), rfl⟩
end Go.Proofs.Ytkdkpjnlknofeaa
