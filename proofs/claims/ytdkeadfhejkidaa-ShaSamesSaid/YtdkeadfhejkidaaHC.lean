import Derived.Test.YtdkeadfhejkidaaHB
namespace Go.Proofs.Ytdkeadfhejkidaa
set_option maxRecDepth 20000
set_option linter.unusedVariables false
set_option linter.unusedSimpArgs false
open Go.SE Go.RowKit
theorem c_roots (n : Nat) (cube : Bool) (hn : n ≤ 64) :
    Con Try.prog 26 [iV (n : Int), .bool cube] [] (fun v rs => ∃ A b c, (0 < c → A = some ⟨b, 0, none⟩) ∧ n ≤ c ∧ v = .slice A n c ∧ rs = [⟨true, b, 0, 44, (rootsN n cube).map u32V, c - n⟩]) := by
  refine Con.enter Try.func26 Try.ntmps26 (Nat.le_of_ble_eq_true rfl) rfl fun w => ?_
  refine At.seq ?_
  refine At.region ?_
  refine At.p (some 4) (P_assign rfl rfl) ?_
  refine At.nil ?_
  refine At.next ?_
  refine At.seq ?_
  refine At.region ?_
  refine At.p (some 5) (P_assign rfl rfl) ?_
  refine At.nil ?_
  refine At.next ?_
  refine At.seq ?_
  refine At.seq ?_
  refine At.region ?_
  refine At.p (some 8) (P_move rfl rfl) ?_
  refine At.empty 5 0 44 ?_
  refine At.s (S_callV (some 9) [] [9] (vs := [_]) rfl en33 rfl V0 (by simp) (c_primes n hn) (by rintro _ _ ⟨A9, b9, c9, g9a, g9b, rfl, rfl⟩; rfl) ?_)
  rintro _ _ ⟨A9, b9, c9, g9a, g9b, rfl, rfl⟩
  refine At.p (some 10) (P_len_sl rfl rfl ⟨_, Try.underlying56⟩ rfl) ?_
  refine At.p (some 11) (P_move rfl rfl) ?_
  refine At.nil ?_
  refine At.next ?_
  refine At.block ?_
  refine At.loopx (I := fun m fr H => ∃ (i b5 c5 : Nat) (A5 : Option Addr), m = n - i ∧ fr = frOf [(1, .bool cube), (5, .slice A5 (rtk n cube i).length c5), (9, .slice A9 n c9), (10, iV (n : Int)), (11, iV (i : Int))] ∧ H = hOf [(5, ⟨true, b5, 0, 44, (rtk n cube i).map u32V, c5 - (rtk n cube i).length⟩), (9, ⟨true, b9, 0, 23, (primesN n).map u64V, c9 - n⟩)] ∧ i ≤ n ∧ (0 < c5 → A5 = some ⟨b5, 0, none⟩) ∧ (rtk n cube i).length ≤ c5) ?_ ?_
  · intro Kc0 hKc0
    refine At.to [(1, _), (5, _), (9, _), (10, _), (11, _)] [(5, ⟨true, 0, 0, 44, (rtk n cube 0).map u32V, 0 - (rtk n cube 0).length⟩), (9, _)] (AllL.cons_ (rfl) (AllL.cons_ (rfl) (AllL.cons_ (rfl) (AllL.cons_ (rfl) (AllL.cons_ (rfl) trivial))))) (AllL.cons_ (rfl) (AllL.cons_ (rfl) trivial)) ?_
    exact hKc0 _ _ _ ⟨0, 0, 0, none, rfl, rfl, rfl, by omega, fun h => absurd h (by decide), by simp [rtk]⟩
  · rintro m fr H ⟨i, b5, c5, A5, rfl, rfl, rfl, hi, hA5, hc5⟩ Kc0 hKc0
    refine At.seq ?_
    refine At.region ?_
    refine At.p (some 12) (P_cmp rfl rfl rfl rfl rfl rfl) ?_
    refine At.nil ?_
    refine At.next ?_
    refine At.seq ?_
    refine At.cond rfl (fun h12 => ?_) (fun h12 => ?_)
    · -- cond 12 t
      have hlt : i < n := by simp at h12; omega
      have hrl := rtk_len cube hn hi
      refine At.skip ?_
      refine At.next ?_
      refine At.seq ?_
      refine At.block ?_
      refine At.seq ?_
      refine At.region ?_
      refine At.p (some 13) (P_indexAddr_sl1 rfl Try.underlying56 sz23 rfl (g9a (by omega)) rfl rfl (by omega)) ?_
      refine At.q (some 14) (Q_loadR (l := primesN n) (k := 9) (j := i) (0#64) rfl rfl Try.underlying23 rfl rfl rfl (by rw [primesN_len hn]; exact hlt)) ?_
      refine At.p (some 7) (P_assign rfl rfl) ?_
      refine At.nil ?_
      refine At.next ?_
      refine At.region ?_
      refine At.p (some 15) (P_move rfl rfl) ?_
      refine At.p (some 16) (P_move rfl rfl) ?_
      refine At.p (some 17) (P_move rfl rfl) ?_
      refine At.s (S_callV (some 18) [] [] (vs := [_, _]) rfl en34 rfl V0 (by simp) (c_root _ _) (by rintro _ _ ⟨rfl, rfl⟩; rfl) ?_)
      rintro _ _ ⟨rfl, rfl⟩
      refine At.s (S_buildSliceV (some 19) 19 ([rootS cube ((primesN n).getD i 0#64)].map u32V) rfl Try.underlying46 sz44 ze44 rfl rfl (by decide) (by decide) rfl rfl (fun b19 => ?_))
      refine At.s (S_appendM (some 20) 5 (rtk n cube (i + 1)) (f := u32V) (l := rtk n cube i) (L := [rootS cube ((primesN n).getD i 0#64)]) rfl Try.underlying46 Try.underlying46 (.inr ⟨_, rfl⟩) sz44 by44 ze44 rfl rfl (fun h => ⟨hA5 h, rfl⟩) rfl (by omega) (Src.row (k := 19) (j := 0) rfl (fun _ => rfl) (fun _ => ⟨rfl, rfl, rfl⟩) rfl rfl) (fun _ => rfl) (by omega) (by omega) (rtk_succ cube hn hlt) rfl ?_)
      intro A5 b5 c5 g1 g2
      refine At.p (some 5) (P_assign rfl rfl) ?_
      refine At.nil ?_
      refine At.inb_n ?_
      refine At.next ?_
      refine At.region ?_
      refine At.p (some 21) (P_add_i rfl rfl rfl (by omega)) ?_
      refine At.p (some 11) (P_move rfl rfl) ?_
      refine At.nil ?_
      refine At.next ?_
      refine At.to [(1, _), (5, _), (9, _), (10, _), (11, _)] [(5, _), (9, _)] (AllL.cons_ (rfl) (AllL.cons_ (rfl) (AllL.cons_ (rfl) (AllL.cons_ (rfl) (AllL.cons_ (rfl) trivial))))) (AllL.cons_ (rfl) (AllL.cons_ (rfl) trivial)) ?_
      exact hKc0 _ _ _ (by omega) ⟨i + 1, _, _, _, rfl, rfl, rfl, by omega, g1, g2⟩
    · -- cond 12 f
      obtain rfl : i = n := by simp at h12; omega
      refine At.exit ?_
      refine At.thn_e ?_
      refine At.thn_e ?_
      refine At.inb_hit ?_
      refine At.next ?_
      refine At.seq ?_
      refine At.region ?_
      refine At.p (some 22) (P_move rfl rfl) ?_
      refine At.p (some 4) (P_assign rfl rfl) ?_
      refine At.nil ?_
      refine At.next ?_
      refine At.ret ?_
      refine At.give (.inl rfl) [5] (rows' := [_]) (vs := [_]) rfl ⟨rfl, trivial⟩ rfl (by simp) (by simp) ⟨A5, b5, c5, hA5, by rw [rtk_len cube hn hi] at hc5; exact hc5, by rw [rtk_len cube hn hi]; rfl, by rw [rtk_len cube hn hi, rtk_fin cube hn]⟩

theorem c_spread (A : Option Addr) (b : List (BitVec 8)) (ca bq q : Nat) (h64 : 64 ≤ b.length) (hA : 0 < b.length → A = some ⟨bq, q, none⟩) (hca : b.length ≤ ca) :
    Con Try.prog 35 [.slice A b.length ca] [pRow bq q b] (fun v rs => v = agg32 (spreadS b) ∧ rs = []) := by
  refine Con.enter Try.func35 Try.ntmps35 (Nat.le_of_ble_eq_true rfl) rfl fun w => ?_
  refine At.seq ?_
  refine At.region ?_
  refine At.s (S_alloc (some 2) 2 (zs := (List.replicate 64 0#32).map u32V) rfl ze50 rfl (fun b2 => ?_))
  refine At.nil ?_
  refine At.next ?_
  refine At.seq ?_
  refine At.region ?_
  refine At.s (S_alloc (some 3) 3 (zs := (wTo b 0).map u32V) rfl ze50 rfl (fun b3 => ?_))
  refine At.nil ?_
  refine At.next ?_
  refine At.seq ?_
  refine At.seq ?_
  refine At.region ?_
  refine At.p (some 9) (P_move rfl rfl) ?_
  refine At.p (some 10) (P_slice_sl (h := 64) rfl Try.underlying22 sz5 rfl rfl ⟨_, _, rfl, rfl⟩ rfl (by omega) (by omega) (by omega)) ?_
  refine At.p (some 11) (P_len_sl rfl rfl ⟨_, Try.underlying22⟩ rfl) ?_
  refine At.p (some 12) (P_move rfl rfl) ?_
  refine At.nil ?_
  refine At.next ?_
  refine At.block ?_
  refine At.loopx (I := fun m fr H => ∃ i, m = 64 - i ∧ fr = frOf [(2, ptr b2 0), (3, ptr b3 0), (10, .slice (cut A 0 ca 1) 64 ca), (11, iV (64 : Int)), (12, iV (i : Int))] ∧ H = hOf [(0, pRow bq q b), (2, ⟨true, b2, 0, 50, (List.replicate 64 0#32).map u32V, 0⟩), (3, ⟨true, b3, 0, 50, (wTo b i).map u32V, 0⟩)] ∧ i ≤ 64) ?_ ?_
  · intro Kc0 hKc0
    refine At.to [(2, _), (3, _), (10, _), (11, _), (12, _)] [(0, _), (2, _), (3, ⟨true, b3, 0, 50, (wTo b 0).map u32V, 0⟩)] (AllL.cons_ (rfl) (AllL.cons_ (rfl) (AllL.cons_ (rfl) (AllL.cons_ (rfl) (AllL.cons_ (rfl) trivial))))) (AllL.cons_ (rfl) (AllL.cons_ (rfl) (AllL.cons_ (rfl) trivial))) ?_
    exact hKc0 _ _ _ ⟨0, rfl, rfl, rfl, by omega⟩
  · rintro m fr H ⟨i, rfl, rfl, rfl, hi⟩ Kc0 hKc0
    refine At.seq ?_
    refine At.region ?_
    refine At.p (some 13) (P_cmp rfl rfl rfl rfl rfl rfl) ?_
    refine At.nil ?_
    refine At.next ?_
    refine At.seq ?_
    refine At.cond rfl (fun h13 => ?_) (fun h13 => ?_)
    · -- cond 13 t
      have hlt : i < 64 := by simp at h13; omega
      have hwl := wTo_len b i
      refine At.skip ?_
      refine At.next ?_
      refine At.seq ?_
      refine At.block ?_
      refine At.seq ?_
      refine At.region ?_
      refine At.p (some 14) (P_move rfl rfl) ?_
      refine At.p (some 15) (P_indexAddr_sl1 rfl Try.underlying22 sz5 rfl (cut_zero (hA (by omega))) rfl rfl (by omega)) ?_
      refine At.q (some 16) (Q_loadR (l := b) (k := 0) (j := i) (0#8) rfl rfl Try.underlying5 rfl rfl rfl (by omega)) ?_
      refine At.p (some 4) (P_assign rfl rfl) ?_
      refine At.p (some 5) (P_assign rfl rfl) ?_
      refine At.nil ?_
      refine At.next ?_
      refine At.region ?_
      refine At.p (some 17) (P_move rfl rfl) ?_
      refine At.p (some 18) (P_quo_i rfl rfl rfl (by omega) (by omega) (by first | decide | omega)) ?_
      refine At.p (some 19) (P_move rfl rfl) ?_
      refine At.p (some 20) (P_quo_i rfl rfl rfl (by omega) (by omega) (by first | decide | omega)) ?_
      refine At.p (some 21) (P_indexAddr_arr1 (j := i / 4) rfl Try.underlying50 sz44 rfl rfl (by omega) (by omega)) ?_
      refine At.q (some 22) (Q_loadM (k := 3) (0#32) rfl rfl Try.underlying44 rfl rfl (by first | omega | (simp <;> omega))) ?_
      refine At.p (some 23) (P_shl_w UK.u32 (n := 32) rfl rfl rfl (by first | decide | omega)) ?_
      refine At.p (some 24) (P_move rfl rfl) ?_
      refine At.p (some 25) (P_conv_ww UK.u32 (m := 8) rfl Try.underlying5 Try.underlying44 rfl) ?_
      refine At.p (some 26) (P_or_w UK.u32 rfl rfl rfl) ?_
      refine At.p (some 27) (P_indexAddr_arr1 (j := i / 4) rfl Try.underlying50 sz44 rfl rfl (by omega) (by omega)) ?_
      refine At.s (S_storeM none (f := u32V) (k := 3) rfl rfl rfl sz44 rfl rfl rfl (by first | omega | (simp <;> omega)) ?_)
      refine At.nil ?_
      refine At.inb_n ?_
      refine At.next ?_
      refine At.region ?_
      refine At.p (some 28) (P_add_i rfl rfl rfl (by omega)) ?_
      refine At.p (some 12) (P_move rfl rfl) ?_
      refine At.nil ?_
      refine At.next ?_
      refine At.to [(2, _), (3, _), (10, _), (11, _), (12, _)] [(0, _), (2, _), (3, ⟨true, b3, 0, 50, (wTo b (i + 1)).map u32V, 0⟩)] (AllL.cons_ (rfl) (AllL.cons_ (rfl) (AllL.cons_ (rfl) (AllL.cons_ (rfl) (AllL.cons_ (rfl) trivial))))) (AllL.cons_ (rfl) (AllL.cons_ (rfl) (AllL.cons_ (rfl) trivial))) ?_
      exact hKc0 _ _ _ (by omega) ⟨i + 1, rfl, rfl, rfl, by omega⟩
    · -- cond 13 f
      obtain rfl : i = 64 := by simp at h13; omega
      refine At.exit ?_
      refine At.thn_e ?_
      refine At.thn_e ?_
      refine At.inb_hit ?_
      refine At.next ?_
      refine At.seq ?_
      refine At.seq ?_
      refine At.region ?_
      refine At.p (some 6) (P_assign rfl rfl) ?_
      refine At.nil ?_
      refine At.next ?_
      refine At.block ?_
      refine At.loopx (I := fun m fr H => ∃ k, m = 48 - k ∧ fr = frOf [(2, ptr b2 0), (3, ptr b3 0), (6, iV ((16 + k : Nat) : Int))] ∧ H = hOf [(2, ⟨true, b2, 0, 50, (List.replicate 64 0#32).map u32V, 0⟩), (3, ⟨true, b3, 0, 50, (sTo b k).map u32V, 0⟩)] ∧ k ≤ 48) ?_ ?_
      · intro Kc1 hKc1
        refine At.to [(2, _), (3, _), (6, _)] [(2, _), (3, ⟨true, b3, 0, 50, (sTo b 0).map u32V, 0⟩)] (AllL.cons_ (rfl) (AllL.cons_ (rfl) (AllL.cons_ (rfl) trivial))) (AllL.cons_ (rfl) (AllL.cons_ (rfl) trivial)) ?_
        exact hKc1 _ _ _ ⟨0, rfl, rfl, rfl, by omega⟩
      · rintro m fr H ⟨k, rfl, rfl, rfl, hk⟩ Kc1 hKc1
        refine At.seq ?_
        refine At.seq ?_
        refine At.region ?_
        refine At.p (some 29) (P_move rfl rfl) ?_
        refine At.p (some 30) (P_cmp rfl rfl rfl rfl rfl rfl) ?_
        refine At.nil ?_
        refine At.next ?_
        refine At.cond rfl (fun h30 => ?_) (fun h30 => ?_)
        · -- cond 30 t
          have hlt : k < 48 := by simp at h30; omega
          have hsl := sTo_len b k
          refine At.skip ?_
          refine At.next ?_
          refine At.seq ?_
          refine At.block ?_
          refine At.seq ?_
          refine At.draws 9 [] [.q false [0, 1, 2, 3, 4, 5, 6, 7, 8]] (by kernel_rfl) (by kernel_rfl) ?_
          refine At.wp (some 33) (P_move rfl rfl) ?_
          refine At.wp (some 34) (P_sub_i rfl rfl rfl (by omega)) ?_
          refine At.wp (some 35) (P_indexAddr_arr1 (j := 16 + k - 15) rfl Try.underlying50 sz44 rfl rfl (by omega) (by omega)) ?_
          refine At.wq (some 36) (Q_loadM (k := 3) (0#32) rfl rfl Try.underlying44 rfl rfl (by first | omega | (simp <;> omega))) ?_
          refine At.wp (some 37) (P_move rfl rfl) ?_
          refine At.wp (some 38) (P_sub_i rfl rfl rfl (by omega)) ?_
          refine At.wp (some 39) (P_indexAddr_arr1 (j := 16 + k - 2) rfl Try.underlying50 sz44 rfl rfl (by omega) (by omega)) ?_
          refine At.wq (some 40) (Q_loadM (k := 3) (0#32) rfl rfl Try.underlying44 rfl rfl (by first | omega | (simp <;> omega))) ?_
          refine At.wp (some 7) (P_assign rfl rfl) ?_
          refine At.wqn ?_
          refine At.wt rfl ?_
          refine At.p (some 8) (P_assign rfl rfl) ?_
          refine At.nil ?_
          refine At.next ?_
          refine At.draws 28 [] [.q false [0, 1, 2, 3, 4, 5, 6, 7, 8, 9, 10, 11, 12, 13, 14, 15, 16, 17, 18, 19, 20, 21, 22, 23, 24, 25, 26, 27]] (by kernel_rfl) (by kernel_rfl) ?_
          refine At.wp (some 41) (P_move rfl rfl) ?_
          refine At.wp (some 42) (P_move rfl rfl) ?_
          refine At.wp (some 43) (P_sub_i rfl rfl rfl (by omega)) ?_
          refine At.wp (some 44) (P_indexAddr_arr1 (j := 16 + k - 16) rfl Try.underlying50 sz44 rfl rfl (by omega) (by omega)) ?_
          refine At.wq (some 45) (Q_loadM (k := 3) (0#32) rfl rfl Try.underlying44 rfl rfl (by first | omega | (simp <;> omega))) ?_
          refine At.wp (some 46) (P_move rfl rfl) ?_
          refine At.wp (some 47) (P_sub_i rfl rfl rfl (by omega)) ?_
          refine At.wp (some 48) (P_indexAddr_arr1 (j := 16 + k - 7) rfl Try.underlying50 sz44 rfl rfl (by omega) (by omega)) ?_
          refine At.wq (some 49) (Q_loadM (k := 3) (0#32) rfl rfl Try.underlying44 rfl rfl (by first | omega | (simp <;> omega))) ?_
          refine At.wp (some 50) (P_add_w UK.u32 rfl rfl rfl) ?_
          refine At.wp (some 51) (P_move rfl rfl) ?_
          refine At.wcV (some 52) [] (vs := [_, _]) rfl en36 rfl V0 (c_right _ 7 (by decide) (by decide)) ?_
          refine At.wp (some 53) (P_move rfl rfl) ?_
          refine At.wcV (some 54) [] (vs := [_, _]) rfl en36 rfl V0 (c_right _ 18 (by decide) (by decide)) ?_
          refine At.wp (some 55) (P_xor_w UK.u32 rfl rfl rfl) ?_
          refine At.wp (some 56) (P_move rfl rfl) ?_
          refine At.wp (some 57) (P_shr_w UK.u32 (n := 32) rfl rfl rfl (by first | decide | omega)) ?_
          refine At.wp (some 58) (P_xor_w UK.u32 rfl rfl rfl) ?_
          refine At.wp (some 59) (P_add_w UK.u32 rfl rfl rfl) ?_
          refine At.wp (some 60) (P_move rfl rfl) ?_
          refine At.wcV (some 61) [] (vs := [_, _]) rfl en36 rfl V0 (c_right _ 17 (by decide) (by decide)) ?_
          refine At.wp (some 62) (P_move rfl rfl) ?_
          refine At.wcV (some 63) [] (vs := [_, _]) rfl en36 rfl V0 (c_right _ 19 (by decide) (by decide)) ?_
          refine At.wp (some 64) (P_xor_w UK.u32 rfl rfl rfl) ?_
          refine At.wp (some 65) (P_move rfl rfl) ?_
          refine At.wp (some 66) (P_shr_w UK.u32 (n := 32) rfl rfl rfl (by first | decide | omega)) ?_
          refine At.wp (some 67) (P_xor_w UK.u32 rfl rfl rfl) ?_
          refine At.wp (some 68) (P_add_w UK.u32 rfl rfl rfl) ?_
          refine At.wqn ?_
          refine At.wt rfl ?_
          refine At.p (some 69) (P_indexAddr_arr1 (j := 16 + k) rfl Try.underlying50 sz44 rfl rfl (by omega) (by omega)) ?_
          refine At.s (S_storeM none (f := u32V) (k := 3) rfl rfl rfl sz44 rfl rfl rfl (by first | omega | (simp <;> omega)) ?_)
          refine At.nil ?_
          refine At.inb_n ?_
          refine At.next ?_
          refine At.region ?_
          refine At.p (some 31) (P_move rfl rfl) ?_
          refine At.p (some 32) (P_add_i rfl rfl rfl (by omega)) ?_
          refine At.p (some 6) (P_assign rfl rfl) ?_
          refine At.nil ?_
          refine At.next ?_
          refine At.to [(2, _), (3, _), (6, iV ((16 + (k + 1) : Nat) : Int))] [(2, _), (3, ⟨true, b3, 0, 50, (sTo b (k + 1)).map u32V, 0⟩)] (AllL.cons_ (rfl) (AllL.cons_ (rfl) (AllL.cons_ (congrArg (fun z => some (iV z)) (by omega)) trivial))) (AllL.cons_ (rfl) (AllL.cons_ (rfl) trivial)) ?_
          exact hKc1 _ _ _ (by omega) ⟨k + 1, rfl, rfl, rfl, by omega⟩
        · -- cond 30 f
          obtain rfl : k = 48 := by simp at h30; omega
          have hsl := sTo_len b 48
          refine At.exit ?_
          refine At.thn_e ?_
          refine At.thn_e ?_
          refine At.inb_hit ?_
          refine At.next ?_
          refine At.seq ?_
          refine At.region ?_
          refine At.q (some 70) (Q_loadA (k := 3) rfl rfl Try.underlying50 rfl sz50 (by first | omega | (simp <;> omega)) rfl) ?_
          refine At.s (S_storeA none (k := 2) (vs := _) rfl rfl rfl (by first | (rw [sz50]; simp <;> omega) | exact sz50) rfl (by first | (intro u hu; obtain ⟨z, _, rfl⟩ := List.mem_map.1 hu; rfl) | simp [Value.oneCell']) (by first | (simp; done) | (intro h; have h2 := congrArg List.length h; simp only [List.length_map, List.length_nil] at h2; omega) | (intro h; cases h)) rfl (by first | omega | (simp <;> omega) | rfl | (simp [*]; done)) ?_)
          refine At.nil ?_
          refine At.next ?_
          refine At.ret ?_
          refine At.giveV (.inl rfl) [] (rows' := []) (ResV.cellA (k := 2) rfl rfl Try.underlying50 rfl sz50 (by first | (simp <;> omega) | rfl | (simp [*]; done)) rfl) rfl (by simp) (by simp) ?_
          exact ⟨rfl, rfl⟩

theorem c_mix (s : List (BitVec 32)) (A A2 : Option Addr) (b : List (BitVec 8)) (ca bq q ck bk qk : Nat) (hs : s.length = 8) (h64 : 64 ≤ b.length) (hA : 0 < b.length → A = some ⟨bq, q, none⟩) (hca : b.length ≤ ca) (hA2 : A2 = some ⟨bk, qk, none⟩) (hck : 64 ≤ ck) :
    Con Try.prog 28 [agg32 s, .slice A b.length ca, .slice A2 64 ck] [pRow bq q b, w32 bk qk KK] (fun v rs => v = agg32 (mixB s b) ∧ rs = []) := by
  refine Con.enter Try.func28 Try.ntmps28 (Nat.le_of_ble_eq_true rfl) rfl fun w => ?_
  refine At.seq ?_
  have hKK : KK.length = 64 := rfl
  have hsp : (spreadS b).length = 64 := sTo_len b 48
  refine At.region ?_
  refine At.s (S_box (some 3) 3 (zs := s.map u32V) rfl rfl rfl (fun b3 => ?_))
  refine At.s (S_alloc (some 6) 6 (zs := (List.replicate 8 0#32).map u32V) rfl ze45 rfl (fun b6 => ?_))
  refine At.nil ?_
  refine At.next ?_
  refine At.seq ?_
  refine At.region ?_
  refine At.q (some 16) (Q_loadA (k := 3) rfl rfl Try.underlying45 rfl sz45 (by first | omega | (simp <;> omega)) rfl) ?_
  refine At.s (S_alloc (some 7) 7 (zs := (List.replicate 8 0#32).map u32V) rfl ze45 rfl (fun b7 => ?_))
  refine At.s (S_storeA none (k := 7) (vs := _) rfl rfl rfl (by first | (rw [sz45]; simp <;> omega) | exact sz45) rfl (by first | (intro u hu; obtain ⟨z, _, rfl⟩ := List.mem_map.1 hu; rfl) | simp [Value.oneCell']) (by first | (simp; done) | (intro h; have h2 := congrArg List.length h; simp only [List.length_map, List.length_nil] at h2; omega) | (intro h; cases h)) rfl (by first | omega | (simp <;> omega) | rfl | (simp [*]; done)) ?_)
  refine At.nil ?_
  refine At.next ?_
  refine At.seq ?_
  refine At.seq ?_
  refine At.region ?_
  refine At.p (some 17) (P_move rfl rfl) ?_
  refine At.s (S_callV (some 18) [(0, _)] [] (vs := [_]) rfl en35 rfl (VN (by simp) rfl View.all V0) (by simp) (c_spread A b ca bq q h64 hA hca) (by rintro _ _ ⟨rfl, rfl⟩; rfl) ?_)
  rintro _ _ ⟨rfl, rfl⟩
  refine At.p (some 19) (P_move rfl rfl) ?_
  refine At.nil ?_
  refine At.next ?_
  refine At.block ?_
  refine At.loopx (I := fun m fr H => ∃ i, m = 64 - i ∧ fr = frOf [(3, ptr b3 0), (6, ptr b6 0), (2, .slice A2 64 ck), (7, ptr b7 0), (18, agg32 (spreadS b)), (19, iV (i : Int))] ∧ H = hOf [(1, w32 bk qk KK), (3, ⟨true, b3, 0, 45, s.map u32V, 0⟩), (6, ⟨true, b6, 0, 45, (List.replicate 8 0#32).map u32V, 0⟩), (7, ⟨true, b7, 0, 45, (vTo KK (spreadS b) s i).map u32V, 0⟩)] ∧ i ≤ 64) ?_ ?_
  · intro Kc0 hKc0
    refine At.to [(3, _), (6, _), (2, _), (7, _), (18, _), (19, _)] [(1, _), (3, _), (6, _), (7, ⟨true, b7, 0, 45, (vTo KK (spreadS b) s 0).map u32V, 0⟩)] (AllL.cons_ (rfl) (AllL.cons_ (rfl) (AllL.cons_ (rfl) (AllL.cons_ (rfl) (AllL.cons_ (rfl) (AllL.cons_ (rfl) trivial)))))) (AllL.cons_ (rfl) (AllL.cons_ (rfl) (AllL.cons_ (rfl) (AllL.cons_ (rfl) trivial)))) ?_
    exact hKc0 _ _ _ ⟨0, rfl, rfl, rfl, by omega⟩
  · rintro m fr H ⟨i, rfl, rfl, rfl, hi⟩ Kc0 hKc0
    refine At.seq ?_
    refine At.region ?_
    refine At.p (some 20) (P_cmp rfl rfl rfl rfl rfl rfl) ?_
    refine At.nil ?_
    refine At.next ?_
    refine At.seq ?_
    refine At.cond rfl (fun h20 => ?_) (fun h20 => ?_)
    · -- cond 20 t
      have hlt : i < 64 := by simp at h20; omega
      have hvl : (vTo KK (spreadS b) s i).length = 8 := vTo_len hs i
      have hsl7 := splice_len7 hvl
      refine At.skip ?_
      refine At.next ?_
      refine At.seq ?_
      refine At.block ?_
      refine At.seq ?_
      refine At.region ?_
      refine At.p (some 21) (P_move rfl rfl) ?_
      refine At.p (some 22) (P_indexM (0#32) rfl Try.underlying50 sz44 Try.underlying44 rfl rfl rfl (by omega) (by first | omega | (simp <;> omega))) ?_
      refine At.p (some 8) (P_assign rfl rfl) ?_
      refine At.p (some 9) (P_assign rfl rfl) ?_
      refine At.nil ?_
      refine At.next ?_
      refine At.seq ?_
      refine At.draws 5 [] [.q false [0, 1, 2, 3, 4]] (by kernel_rfl) (by kernel_rfl) ?_
      refine At.wp (some 23) (P_indexAddr_arr1 (j := 4) rfl Try.underlying45 sz44 rfl rfl rfl (by decide)) ?_
      refine At.wq (some 24) (Q_loadM (k := 7) (0#32) rfl rfl Try.underlying44 rfl rfl (by first | omega | (simp <;> omega))) ?_
      refine At.wp (some 25) (P_indexAddr_arr1 (j := 0) rfl Try.underlying45 sz44 rfl rfl rfl (by decide)) ?_
      refine At.wq (some 26) (Q_loadM (k := 7) (0#32) rfl rfl Try.underlying44 rfl rfl (by first | omega | (simp <;> omega))) ?_
      refine At.wp (some 10) (P_assign rfl rfl) ?_
      refine At.wqn ?_
      refine At.wt rfl ?_
      refine At.p (some 11) (P_assign rfl rfl) ?_
      refine At.nil ?_
      refine At.next ?_
      refine At.seq ?_
      refine At.draws 28 [] [.q false [0, 1, 2, 3, 4, 5, 6, 7, 8, 9, 10, 11, 12, 13, 14, 15, 16, 17, 18, 19, 20, 21, 22, 23, 24, 25, 26, 27]] (by kernel_rfl) (by kernel_rfl) ?_
      refine At.wp (some 27) (P_indexAddr_arr1 (j := 7) rfl Try.underlying45 sz44 rfl rfl rfl (by decide)) ?_
      refine At.wq (some 28) (Q_loadM (k := 7) (0#32) rfl rfl Try.underlying44 rfl rfl (by first | omega | (simp <;> omega))) ?_
      refine At.wp (some 29) (P_move rfl rfl) ?_
      refine At.wcV (some 30) [] (vs := [_, _]) rfl en36 rfl V0 (c_right _ 6 (by decide) (by decide)) ?_
      refine At.wp (some 31) (P_move rfl rfl) ?_
      refine At.wcV (some 32) [] (vs := [_, _]) rfl en36 rfl V0 (c_right _ 11 (by decide) (by decide)) ?_
      refine At.wp (some 33) (P_xor_w UK.u32 rfl rfl rfl) ?_
      refine At.wp (some 34) (P_move rfl rfl) ?_
      refine At.wcV (some 35) [] (vs := [_, _]) rfl en36 rfl V0 (c_right _ 25 (by decide) (by decide)) ?_
      refine At.wp (some 36) (P_xor_w UK.u32 rfl rfl rfl) ?_
      refine At.wp (some 37) (P_add_w UK.u32 rfl rfl rfl) ?_
      refine At.wp (some 38) (P_move rfl rfl) ?_
      refine At.wp (some 39) (P_indexAddr_arr1 (j := 5) rfl Try.underlying45 sz44 rfl rfl rfl (by decide)) ?_
      refine At.wq (some 40) (Q_loadM (k := 7) (0#32) rfl rfl Try.underlying44 rfl rfl (by first | omega | (simp <;> omega))) ?_
      refine At.wp (some 41) (P_and_w UK.u32 rfl rfl rfl) ?_
      refine At.wp (some 42) (P_move rfl rfl) ?_
      refine At.wp (some 43) (P_compl_w UK.u32 rfl rfl) ?_
      refine At.wp (some 44) (P_indexAddr_arr1 (j := 6) rfl Try.underlying45 sz44 rfl rfl rfl (by decide)) ?_
      refine At.wq (some 45) (Q_loadM (k := 7) (0#32) rfl rfl Try.underlying44 rfl rfl (by first | omega | (simp <;> omega))) ?_
      refine At.wp (some 46) (P_and_w UK.u32 rfl rfl rfl) ?_
      refine At.wp (some 47) (P_or_w UK.u32 rfl rfl rfl) ?_
      refine At.wp (some 48) (P_add_w UK.u32 rfl rfl rfl) ?_
      refine At.wp (some 49) (P_move rfl rfl) ?_
      refine At.wp (some 50) (P_move rfl rfl) ?_
      refine At.wp (some 51) (P_indexAddr_sl1 rfl Try.underlying46 sz44 rfl hA2 rfl rfl (by omega)) ?_
      refine At.wq (some 52) (Q_loadR (l := KK) (k := 1) (j := i) (0#32) rfl rfl Try.underlying44 rfl rfl rfl (by omega)) ?_
      refine At.wp (some 53) (P_add_w UK.u32 rfl rfl rfl) ?_
      refine At.wp (some 54) (P_move rfl rfl) ?_
      refine At.wqn ?_
      refine At.wt rfl ?_
      refine At.p (some 55) (P_add_w UK.u32 rfl rfl rfl) ?_
      refine At.p (some 12) (P_assign rfl rfl) ?_
      refine At.nil ?_
      refine At.next ?_
      refine At.seq ?_
      refine At.draws 23 [] [.q false [0, 1, 2, 3, 4, 5, 6, 7, 8, 9, 10, 11, 12, 13, 14, 15, 16, 17, 18, 19, 20, 21, 22]] (by kernel_rfl) (by kernel_rfl) ?_
      refine At.wp (some 56) (P_move rfl rfl) ?_
      refine At.wcV (some 57) [] (vs := [_, _]) rfl en36 rfl V0 (c_right _ 2 (by decide) (by decide)) ?_
      refine At.wp (some 58) (P_move rfl rfl) ?_
      refine At.wcV (some 59) [] (vs := [_, _]) rfl en36 rfl V0 (c_right _ 13 (by decide) (by decide)) ?_
      refine At.wp (some 60) (P_xor_w UK.u32 rfl rfl rfl) ?_
      refine At.wp (some 61) (P_move rfl rfl) ?_
      refine At.wcV (some 62) [] (vs := [_, _]) rfl en36 rfl V0 (c_right _ 22 (by decide) (by decide)) ?_
      refine At.wp (some 63) (P_xor_w UK.u32 rfl rfl rfl) ?_
      refine At.wp (some 64) (P_move rfl rfl) ?_
      refine At.wp (some 65) (P_indexAddr_arr1 (j := 1) rfl Try.underlying45 sz44 rfl rfl rfl (by decide)) ?_
      refine At.wq (some 66) (Q_loadM (k := 7) (0#32) rfl rfl Try.underlying44 rfl rfl (by first | omega | (simp <;> omega))) ?_
      refine At.wp (some 67) (P_and_w UK.u32 rfl rfl rfl) ?_
      refine At.wp (some 68) (P_move rfl rfl) ?_
      refine At.wp (some 69) (P_indexAddr_arr1 (j := 2) rfl Try.underlying45 sz44 rfl rfl rfl (by decide)) ?_
      refine At.wq (some 70) (Q_loadM (k := 7) (0#32) rfl rfl Try.underlying44 rfl rfl (by first | omega | (simp <;> omega))) ?_
      refine At.wp (some 71) (P_and_w UK.u32 rfl rfl rfl) ?_
      refine At.wp (some 72) (P_or_w UK.u32 rfl rfl rfl) ?_
      refine At.wp (some 73) (P_indexAddr_arr1 (j := 1) rfl Try.underlying45 sz44 rfl rfl rfl (by decide)) ?_
      refine At.wq (some 74) (Q_loadM (k := 7) (0#32) rfl rfl Try.underlying44 rfl rfl (by first | omega | (simp <;> omega))) ?_
      refine At.wp (some 75) (P_indexAddr_arr1 (j := 2) rfl Try.underlying45 sz44 rfl rfl rfl (by decide)) ?_
      refine At.wq (some 76) (Q_loadM (k := 7) (0#32) rfl rfl Try.underlying44 rfl rfl (by first | omega | (simp <;> omega))) ?_
      refine At.wp (some 77) (P_and_w UK.u32 rfl rfl rfl) ?_
      refine At.wp (some 78) (P_or_w UK.u32 rfl rfl rfl) ?_
      refine At.wqn ?_
      refine At.wt rfl ?_
      refine At.p (some 79) (P_add_w UK.u32 rfl rfl rfl) ?_
      refine At.p (some 13) (P_assign rfl rfl) ?_
      refine At.nil ?_
      refine At.next ?_
      refine At.seq ?_
      refine At.draws 2 [] [.q false [0, 1]] (by kernel_rfl) (by kernel_rfl) ?_
      refine At.wp (some 80) (P_slice_arr1 (l := 1) rfl Try.underlying45 sz44 rfl ⟨_, _, rfl, rfl⟩ rfl rfl (by omega) (by omega) (by omega) (by omega)) ?_
      refine At.wp (some 81) (P_slice_arr1 (h := 7) rfl Try.underlying45 sz44 rfl rfl ⟨_, _, rfl, rfl⟩ rfl (by omega) (by omega) (by omega) (by omega)) ?_
      refine At.wqn ?_
      refine At.wt rfl ?_
      refine At.s (S_copyM (some 82) 7 7 (S := (vTo KK (spreadS b) s i)) (j := 0) (n := 7) (L := ((vTo KK (spreadS b) s i)).take 7) (p := 1) (m := 7) rfl Try.underlying46 sz44 rfl (fun _ => rfl) rfl rfl (fun _ => rfl) (fun h => ⟨rfl, rfl, rfl⟩) (by rw [List.drop_zero, List.map_take]) (by decide) (by rw [List.length_take, hvl]; decide) (fun _ => rfl) (by omega) ?_)
      refine At.nil ?_
      refine At.next ?_
      refine At.seq ?_
      refine At.region ?_
      refine At.p (some 83) (P_indexAddr_arr1 (j := 4) rfl Try.underlying45 sz44 rfl rfl rfl (by decide)) ?_
      refine At.q (some 84) (Q_loadM (k := 7) (0#32) rfl rfl Try.underlying44 rfl rfl (by first | omega | (simp <;> omega))) ?_
      refine At.p (some 85) (P_move rfl rfl) ?_
      refine At.p (some 86) (P_add_w UK.u32 rfl rfl rfl) ?_
      refine At.p (some 87) (P_indexAddr_arr1 (j := 4) rfl Try.underlying45 sz44 rfl rfl rfl (by decide)) ?_
      refine At.s (S_storeM none (f := u32V) (k := 7) rfl rfl rfl sz44 rfl rfl rfl (by first | omega | (simp <;> omega)) ?_)
      refine At.nil ?_
      refine At.next ?_
      refine At.region ?_
      refine At.p (some 88) (P_move rfl rfl) ?_
      refine At.p (some 89) (P_move rfl rfl) ?_
      refine At.p (some 90) (P_add_w UK.u32 rfl rfl rfl) ?_
      refine At.p (some 91) (P_indexAddr_arr1 (j := 0) rfl Try.underlying45 sz44 rfl rfl rfl (by decide)) ?_
      refine At.s (S_storeM none (f := u32V) (k := 7) rfl rfl rfl sz44 rfl rfl rfl (by first | omega | (simp <;> omega)) ?_)
      refine At.nil ?_
      refine At.inb_n ?_
      refine At.next ?_
      refine At.region ?_
      refine At.p (some 92) (P_add_i rfl rfl rfl (by omega)) ?_
      refine At.p (some 19) (P_move rfl rfl) ?_
      refine At.nil ?_
      refine At.next ?_
      refine At.to [(3, _), (6, _), (2, _), (7, _), (18, _), (19, _)] [(1, _), (3, _), (6, _), (7, ⟨true, b7, 0, 45, (vTo KK (spreadS b) s (i + 1)).map u32V, 0⟩)] (AllL.cons_ (rfl) (AllL.cons_ (rfl) (AllL.cons_ (rfl) (AllL.cons_ (rfl) (AllL.cons_ (rfl) (AllL.cons_ (rfl) trivial)))))) (AllL.cons_ (rfl) (AllL.cons_ (rfl) (AllL.cons_ (rfl) (AllL.cons_ (congrArg (fun z => some (⟨true, b7, 0, 45, List.map u32V z, 0⟩ : Row)) (mix_row hvl _ _)) trivial)))) ?_
      exact hKc0 _ _ _ (by omega) ⟨i + 1, rfl, rfl, rfl, by omega⟩
    · -- cond 20 f
      obtain rfl : i = 64 := by simp at h20; omega
      have hvl : (vTo KK (spreadS b) s 64).length = 8 := vTo_len hs 64
      refine At.exit ?_
      refine At.thn_e ?_
      refine At.thn_e ?_
      refine At.inb_hit ?_
      refine At.next ?_
      refine At.seq ?_
      refine At.seq ?_
      refine At.region ?_
      refine At.q (some 93) (Q_loadA (k := 7) rfl rfl Try.underlying45 rfl sz45 (by first | omega | (simp <;> omega)) rfl) ?_
      refine At.p (some 94) (P_move rfl rfl) ?_
      refine At.nil ?_
      refine At.next ?_
      refine At.block ?_
      refine At.loopx (I := fun m fr H => ∃ j, m = 8 - j ∧ fr = frOf [(3, ptr b3 0), (6, ptr b6 0), (93, agg32 (vTo KK (spreadS b) s 64)), (94, iV (j : Int))] ∧ H = hOf [(3, ⟨true, b3, 0, 45, (addTo s (vTo KK (spreadS b) s 64) j).map u32V, 0⟩), (6, ⟨true, b6, 0, 45, (List.replicate 8 0#32).map u32V, 0⟩)] ∧ j ≤ 8) ?_ ?_
      · intro Kc1 hKc1
        refine At.to [(3, _), (6, _), (93, _), (94, _)] [(3, ⟨true, b3, 0, 45, (addTo s (vTo KK (spreadS b) s 64) 0).map u32V, 0⟩), (6, _)] (AllL.cons_ (rfl) (AllL.cons_ (rfl) (AllL.cons_ (rfl) (AllL.cons_ (rfl) trivial)))) (AllL.cons_ (congrArg (fun z => some (⟨true, b3, 0, 45, List.map u32V z, 0⟩ : Row)) (addTo_0 _ hs).symm) (AllL.cons_ (rfl) trivial)) ?_
        exact hKc1 _ _ _ ⟨0, rfl, rfl, rfl, by omega⟩
      · rintro m fr H ⟨j, rfl, rfl, rfl, hj⟩ Kc1 hKc1
        refine At.seq ?_
        refine At.region ?_
        refine At.p (some 95) (P_cmp rfl rfl rfl rfl rfl rfl) ?_
        refine At.nil ?_
        refine At.next ?_
        refine At.seq ?_
        refine At.cond rfl (fun h95 => ?_) (fun h95 => ?_)
        · -- cond 95 t
          have hlt : j < 8 := by simp at h95; omega
          have hal := addTo_len s (vTo KK (spreadS b) s 64) j
          refine At.skip ?_
          refine At.next ?_
          refine At.seq ?_
          refine At.block ?_
          refine At.seq ?_
          refine At.region ?_
          refine At.p (some 96) (P_move rfl rfl) ?_
          refine At.p (some 97) (P_indexM (0#32) rfl Try.underlying45 sz44 Try.underlying44 rfl rfl rfl (by omega) (by first | omega | (simp <;> omega))) ?_
          refine At.p (some 14) (P_assign rfl rfl) ?_
          refine At.p (some 15) (P_assign rfl rfl) ?_
          refine At.nil ?_
          refine At.next ?_
          refine At.region ?_
          refine At.p (some 98) (P_move rfl rfl) ?_
          refine At.p (some 99) (P_indexAddr_arr1 rfl Try.underlying45 sz44 rfl rfl rfl (by omega)) ?_
          refine At.q (some 100) (Q_loadM (k := 3) (0#32) rfl rfl Try.underlying44 rfl rfl (by first | omega | (simp <;> omega))) ?_
          refine At.p (some 101) (P_move rfl rfl) ?_
          refine At.p (some 102) (P_add_w UK.u32 rfl rfl rfl) ?_
          refine At.p (some 103) (P_indexAddr_arr1 rfl Try.underlying45 sz44 rfl rfl rfl (by omega)) ?_
          refine At.s (S_storeM none (f := u32V) (k := 3) rfl rfl rfl sz44 rfl rfl rfl (by first | omega | (simp <;> omega)) ?_)
          refine At.nil ?_
          refine At.inb_n ?_
          refine At.next ?_
          refine At.region ?_
          refine At.p (some 104) (P_add_i rfl rfl rfl (by omega)) ?_
          refine At.p (some 94) (P_move rfl rfl) ?_
          refine At.nil ?_
          refine At.next ?_
          refine At.to [(3, _), (6, _), (93, _), (94, _)] [(3, ⟨true, b3, 0, 45, (addTo s (vTo KK (spreadS b) s 64) (j + 1)).map u32V, 0⟩), (6, _)] (AllL.cons_ (rfl) (AllL.cons_ (rfl) (AllL.cons_ (rfl) (AllL.cons_ (rfl) trivial)))) (AllL.cons_ (congrArg (fun z => some (⟨true, b3, 0, 45, List.map u32V z, 0⟩ : Row)) (by rw [addTo_at _ _ hlt (Nat.le_refl _), addTo_set _ _ hlt])) (AllL.cons_ (rfl) trivial)) ?_
          exact hKc1 _ _ _ (by omega) ⟨j + 1, rfl, rfl, rfl, by omega⟩
        · -- cond 95 f
          obtain rfl : j = 8 := by simp at h95; omega
          have hal := addTo_len s (vTo KK (spreadS b) s 64) 8
          refine At.exit ?_
          refine At.thn_e ?_
          refine At.thn_e ?_
          refine At.inb_hit ?_
          refine At.next ?_
          refine At.seq ?_
          refine At.region ?_
          refine At.q (some 105) (Q_loadA (k := 3) rfl rfl Try.underlying45 rfl sz45 (by first | omega | (simp <;> omega)) rfl) ?_
          refine At.s (S_storeA none (k := 6) (vs := _) rfl rfl rfl (by first | (rw [sz45]; simp <;> omega) | exact sz45) rfl (by first | (intro u hu; obtain ⟨z, _, rfl⟩ := List.mem_map.1 hu; rfl) | simp [Value.oneCell']) (by first | (simp; done) | (intro h; have h2 := congrArg List.length h; simp only [List.length_map, List.length_nil] at h2; omega) | (intro h; cases h)) rfl (by first | omega | (simp <;> omega) | rfl | (simp [*]; done)) ?_)
          refine At.nil ?_
          refine At.next ?_
          refine At.ret ?_
          refine At.giveV (.inl rfl) [] (rows' := []) (ResV.cellA (k := 6) rfl rfl Try.underlying45 rfl sz45 (by first | (simp <;> omega) | rfl | (simp [*]; done)) rfl) rfl (by simp) (by simp) ?_
          exact ⟨rfl, rfl⟩
end Go.Proofs.Ytdkeadfhejkidaa
