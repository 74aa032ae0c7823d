import Derived.Test.YtdkeadfhejkidaaTI
import Derived.Test.YtdkeadfhejkidaaHH
import Derived.Test.YtdkeadfhejkidaaSE22
import Derived.Test.YtdkeadfhejkidaaSE24
namespace Go.Proofs.Ytdkeadfhejkidaa
set_option maxRecDepth 20000
set_option linter.unusedVariables false
set_option linter.unusedSimpArgs false
open Go.SE Go.RowKit
set_option maxHeartbeats 1000000 in
theorem l_Keys (key b : List (BitVec 8)) (z : Int) (A A2 : Option Addr) (ca cb bq q br r : Nat) (hA : 0 < key.length → A = some ⟨bq, q, none⟩) (hca : key.length ≤ ca) (hB : 0 < b.length → A2 = some ⟨br, r, none⟩) (hcb : b.length ≤ cb) :
    Con Try.prog 8 [.slice A key.length ca, .slice A2 b.length cb, iV z] [pRow bq q key, pRow br r b] (fun v rs => v = .bool true ∧ rs = []) := by
  refine Con.enter Try.func8 Try.ntmps8 (Nat.le_of_ble_eq_true rfl) rfl fun w => ?_
  refine At.seq ?_
  obtain ⟨n, hn⟩ : ∃ n, n = min key.length 100 := ⟨_, rfl⟩
  have hn2 : (key.take n).length = n := by simp; omega
  obtain ⟨m, hm⟩ : ∃ n, n = min key.length 30 := ⟨_, rfl⟩
  have hm2 : (key.take m).length = m := by simp; omega
  obtain ⟨nb, hnb⟩ : ∃ n, n = min b.length 100 := ⟨_, rfl⟩
  have hnb2 : (b.take nb).length = nb := by simp; omega
  obtain ⟨k, hk, hke⟩ := umod_nat (BitVec.ofInt 64 z) 30#64 (by decide) (by decide)
  have hk : k < 30 := hk
  have hL : (key.take n ++ List.replicate 65 0#8).length = n + 65 := by simp; omega
  have hM : (key.take m ++ List.replicate k 0#8).length = m + k := by simp; omega
  have hs1 := sumS_len (key.take n ++ List.replicate 65 0#8)
  have hlong : 64 < (key.take n ++ List.replicate 65 0#8).length := by omega
  refine At.region ?_
  refine At.p (some 6) (P_assign rfl rfl) ?_
  refine At.nil ?_
  refine At.next ?_
  refine At.seq ?_
  refine At.region ?_
  refine At.s (S_buildSlice0 (some 11) 11 rfl Try.underlying22 sz5 (fun b11 => ?_))
  refine At.p (some 12) (P_move rfl rfl) ?_
  refine At.p (some 13) (P_move rfl rfl) ?_
  refine At.p (some 14) (P_len_sl rfl rfl ⟨_, Try.underlying22⟩ rfl) ?_
  refine At.p (some 15) (P_min2 rfl rfl rfl rfl) ?_
  refine At.p (some 16) (P_slice_sl (h := n) rfl Try.underlying22 sz5 rfl rfl ⟨_, _, rfl, by omega⟩ rfl (by omega) (by omega) (by omega)) ?_
  refine At.s (S_appendM (some 17) 11 (key.take n) (f := u8V) (l := []) (L := key.take n) rfl Try.underlying22 Try.underlying22 (.inr ⟨_, rfl⟩) sz5 by5 ze5 rfl rfl (fun h => ⟨absurd h (by omega), rfl⟩) rfl rfl (Src.row (k := 0) (j := 0) rfl (fun h => cut_zero (hA (by omega))) (fun _ => ⟨rfl, rfl, rfl⟩) (by simp [pRow, List.map_take]) (by simp; omega)) (fun _ => rfl) (by omega) (by omega) rfl hn2 ?_)
  intro A17 b17 c17 g17a g17b
  refine At.s (S_appendZ (some 18) 11 ((key.take n ++ List.replicate 65 0#8)) (0#8) (f := u8V) (l := key.take n) (m := 65) rfl Try.underlying22 Try.underlying3 sz5 by5 ze5 rfl rfl (fun h => ⟨g17a h, rfl⟩) rfl (by omega) rfl rfl (fun _ => rfl) (by omega) (by omega) rfl ?_)
  intro A18 b18 c18 g18a g18b
  refine At.p (some 7) (P_assign rfl rfl) ?_
  refine At.nil ?_
  refine At.next ?_
  refine At.seq ?_
  refine At.region ?_
  refine At.p (some 19) (P_move rfl rfl) ?_
  refine At.s (S_callV (some 20) [(11, _)] [] (vs := [_]) rfl en15 rfl (VN (by simp) rfl View.all V0) (by simp) (c_SumN (l := (key.take n ++ List.replicate 65 0#8)) (n := (key.take n ++ List.replicate 65 0#8).length) rfl (fun h => g18a (by omega)) (by omega)) (by rintro _ _ ⟨rfl, rfl⟩; rfl) ?_)
  rintro _ _ ⟨rfl, rfl⟩
  refine At.s (S_alloc (some 8) 8 (zs := (List.replicate 32 0#8).map u8V) rfl ze25 rfl (fun b8 => ?_))
  refine At.s (S_storeA none (k := 8) (vs := _) rfl rfl rfl (by first | (rw [sz25]; simp <;> omega) | exact sz25) rfl (by first | (intro u hu; obtain ⟨z, _, rfl⟩ := List.mem_map.1 hu; rfl) | simp [Value.oneCell']) (by first | (simp; done) | (intro h; have h2 := congrArg List.length h; simp only [List.length_map, List.length_nil] at h2; omega) | (intro h; cases h)) rfl (by first | omega | (simp <;> omega) | rfl | (simp [*]; done)) ?_)
  refine At.nil ?_
  refine At.next ?_
  refine At.seq ?_
  refine At.region ?_
  refine At.s (S_buildSlice0 (some 21) 21 rfl Try.underlying22 sz5 (fun b21 => ?_))
  refine At.p (some 22) (P_move rfl rfl) ?_
  refine At.p (some 23) (P_move rfl rfl) ?_
  refine At.p (some 24) (P_len_sl rfl rfl ⟨_, Try.underlying22⟩ rfl) ?_
  refine At.p (some 25) (P_min2 rfl rfl rfl rfl) ?_
  refine At.p (some 26) (P_slice_sl (h := m) rfl Try.underlying22 sz5 rfl rfl ⟨_, _, rfl, by omega⟩ rfl (by omega) (by omega) (by omega)) ?_
  refine At.s (S_appendM (some 27) 21 ((key.take m)) (f := u8V) (l := []) (L := (key.take m)) rfl Try.underlying22 Try.underlying22 (.inr ⟨_, rfl⟩) sz5 by5 ze5 rfl rfl (fun h => ⟨absurd h (by omega), rfl⟩) rfl rfl (Src.row (k := 0) (j := 0) rfl (fun h => cut_zero (hA (by omega))) (fun _ => ⟨rfl, rfl, rfl⟩) (by simp [pRow, List.map_take]) (by simp; omega)) (fun _ => rfl) (by omega) (by omega) rfl hm2 ?_)
  intro A27 b27 c27 g27a g27b
  refine At.p (some 9) (P_assign rfl rfl) ?_
  refine At.nil ?_
  refine At.next ?_
  refine At.seq ?_
  refine At.region ?_
  refine At.s (S_buildSlice0 (some 28) 28 rfl Try.underlying22 sz5 (fun b28 => ?_))
  refine At.p (some 29) (P_move rfl rfl) ?_
  refine At.s (S_appendM (some 30) 28 ((key.take m)) (f := u8V) (l := []) (L := (key.take m)) rfl Try.underlying22 Try.underlying22 (.inr ⟨_, rfl⟩) sz5 by5 ze5 rfl rfl (fun h => ⟨absurd h (by omega), rfl⟩) rfl rfl (Src.row (k := 21) (j := 0) rfl (fun h => g27a (by omega)) (fun _ => ⟨rfl, rfl, rfl⟩) (by simp [List.take_of_length_le]) (by simp)) (fun _ => rfl) (by omega) (by omega) rfl rfl ?_)
  intro A30 b30 c30 g30a g30b
  refine At.p (some 31) (P_move rfl rfl) ?_
  refine At.p (some 32) (P_conv_iw UK.u64 rfl Try.underlying3 Try.underlying23 rfl) ?_
  refine At.p (some 33) (P_rem_w UK.u64 (b := 30#64) rfl rfl rfl (by decide)) ?_
  refine At.p (some 34) (P_conv_Wi rfl Try.underlying23 Try.underlying3 rfl) ?_
  refine At.s (S_appendZ (some 35) 28 ((key.take m ++ List.replicate k 0#8)) (0#8) (f := u8V) (l := (key.take m)) (m := k) rfl Try.underlying22 Try.underlying3 sz5 by5 ze5 rfl rfl (fun h => ⟨g30a h, rfl⟩) rfl (by omega) rfl hke (fun _ => rfl) (by omega) (by omega) rfl ?_)
  intro A35 b35 c35 g35a g35b
  refine At.p (some 10) (P_assign rfl rfl) ?_
  refine At.nil ?_
  refine At.next ?_
  refine At.seqJ (fun fr H => ∃ (A1 A18 A27 A35 : Option Addr) (c1 b18 c18 b27 c27 b35 c35 b8 : Nat), fr = frOf [(1, .slice A1 nb c1), (7, .slice A18 (key.take n ++ List.replicate 65 0#8).length c18), (8, ptr b8 0), (9, .slice A27 (key.take m).length c27), (10, .slice A35 (key.take m ++ List.replicate k 0#8).length c35)] ∧ H = hOf [(1, pRow br r b), (8, ⟨true, b8, 0, 25, (sumS (key.take n ++ List.replicate 65 0#8)).map u8V, 0⟩), (11, ⟨true, b18, 0, 5, ((key.take n ++ List.replicate 65 0#8)).map u8V, c18 - ((key.take n ++ List.replicate 65 0#8)).length⟩), (21, ⟨true, b27, 0, 5, ((key.take m)).map u8V, c27 - ((key.take m)).length⟩), (28, ⟨true, b35, 0, 5, ((key.take m ++ List.replicate k 0#8)).map u8V, c35 - ((key.take m ++ List.replicate k 0#8)).length⟩)] ∧ (0 < nb → A1 = some ⟨br, r, none⟩) ∧ (0 < c18 → A18 = some ⟨b18, 0, none⟩) ∧ (key.take n ++ List.replicate 65 0#8).length ≤ c18 ∧ (0 < c27 → A27 = some ⟨b27, 0, none⟩) ∧ (key.take m).length ≤ c27 ∧ (0 < c35 → A35 = some ⟨b35, 0, none⟩) ∧ (key.take m ++ List.replicate k 0#8).length ≤ c35) ?_ ?_
  · intro Kj1 hKj1
    refine At.region ?_
    refine At.p (some 36) (P_move rfl rfl) ?_
    refine At.p (some 37) (P_move rfl rfl) ?_
    refine At.p (some 38) (P_len_sl rfl rfl ⟨_, Try.underlying22⟩ rfl) ?_
    refine At.p (some 39) (P_min2 rfl rfl rfl rfl) ?_
    refine At.p (some 40) (P_slice_sl (h := nb) rfl Try.underlying22 sz5 rfl rfl ⟨_, _, rfl, by omega⟩ rfl (by omega) (by omega) (by omega)) ?_
    refine At.p (some 1) (P_assign rfl rfl) ?_
    refine At.nil ?_
    refine At.next ?_
    refine At.to [(1, _), (7, _), (8, _), (9, _), (10, _)] [(1, _), (8, _), (11, _), (21, _), (28, _)] (AllL.cons_ (rfl) (AllL.cons_ (rfl) (AllL.cons_ (rfl) (AllL.cons_ (rfl) (AllL.cons_ (rfl) trivial))))) (AllL.cons_ (rfl) (AllL.cons_ (rfl) (AllL.cons_ (rfl) (AllL.cons_ (rfl) (AllL.cons_ (rfl) trivial))))) ?_
    exact hKj1 _ _ ⟨_, _, _, _, _, _, _, _, _, _, _, _, rfl, rfl, fun h => cut_zero (hB (by omega)), g18a, g18b, g27a, g27b, g35a, g35b⟩
  · rintro fr H ⟨A1, A18, A27, A35, c1, b18, c18, b27, c27, b35, c35, b8, rfl, rfl, h1a, g18a, g18b, g27a, g27b, g35a, g35b⟩
    refine At.seq ?_
    refine At.eBruteG (fun fr H => fr = frOf [(6, .bool (macS (key.take m) (b.take nb) == macS (key.take m ++ List.replicate k 0#8) (b.take nb)))] ∧ H = hOf [(1, pRow br r b)] ∧ True) (by kernel_rfl) ?_ ?_
    · intro Kb hKb G hGi hGo
      have hG6_0 (b46 : Nat) (A48 : Option Addr) (b48 c48 : Nat) (g48a : 0 < c48 → A48 = some ⟨b48, 0, none⟩) (g48b : (sumS (key.take n ++ List.replicate 65 0#8)).length ≤ c48) : G 0 #[true, true, true, true, true, true, true, true, true, true, true, true, true, true, true, true, true, true, true, true, true, true] (frOf [(1, .slice A1 nb c1), (6, .bool (macS (key.take m) (b.take nb) == macS (key.take m ++ List.replicate k 0#8) (b.take nb))), (7, .slice A18 (key.take n ++ List.replicate 65 0#8).length c18), (8, ptr b8 0), (9, .slice A27 (key.take m).length c27), (10, .slice A35 (key.take m ++ List.replicate k 0#8).length c35), (41, .bool true), (42, .bool true), (43, .slice A18 (key.take n ++ List.replicate 65 0#8).length c18), (44, .slice A1 nb c1), (45, aggK (macS (key.take n ++ List.replicate 65 0#8) (b.take nb))), (46, .slice (some ⟨b46, 0, none⟩) 0 0), (47, .slice (some ⟨b8, 0, none⟩) 32 32), (48, .slice A48 (sumS (key.take n ++ List.replicate 65 0#8)).length c48), (49, .slice A1 nb c1), (50, aggK (macS (sumS (key.take n ++ List.replicate 65 0#8)) (b.take nb))), (51, .bool (macS (key.take n ++ List.replicate 65 0#8) (b.take nb) == macS (sumS (key.take n ++ List.replicate 65 0#8)) (b.take nb))), (52, .bool (macS (key.take n ++ List.replicate 65 0#8) (b.take nb) == macS (sumS (key.take n ++ List.replicate 65 0#8)) (b.take nb))), (53, .bool (macS (key.take n ++ List.replicate 65 0#8) (b.take nb) == macS (sumS (key.take n ++ List.replicate 65 0#8)) (b.take nb))), (54, .slice A27 (key.take m).length c27), (55, .slice A1 nb c1), (56, aggK (macS (key.take m) (b.take nb))), (57, .slice A35 (key.take m ++ List.replicate k 0#8).length c35), (58, .slice A1 nb c1), (59, aggK (macS (key.take m ++ List.replicate k 0#8) (b.take nb))), (60, .bool (macS (key.take m) (b.take nb) == macS (key.take m ++ List.replicate k 0#8) (b.take nb))), (61, .bool (macS (key.take m) (b.take nb) == macS (key.take m ++ List.replicate k 0#8) (b.take nb)))]) (hOf [(1, pRow br r b), (8, ⟨true, b8, 0, 25, (sumS (key.take n ++ List.replicate 65 0#8)).map u8V, 0⟩), (11, ⟨true, b18, 0, 5, ((key.take n ++ List.replicate 65 0#8)).map u8V, c18 - ((key.take n ++ List.replicate 65 0#8)).length⟩), (21, ⟨true, b27, 0, 5, ((key.take m)).map u8V, c27 - ((key.take m)).length⟩), (28, ⟨true, b35, 0, 5, ((key.take m ++ List.replicate k 0#8)).map u8V, c35 - ((key.take m ++ List.replicate k 0#8)).length⟩), (46, ⟨true, b48, 0, 5, ((sumS (key.take n ++ List.replicate 65 0#8))).map u8V, c48 - ((sumS (key.take n ++ List.replicate 65 0#8))).length⟩)]) := by
        refine hGo ?_
        refine At.eEnd (by kernel_rfl) ?_
        refine At.next ?_
        refine At.to [(6, _)] [(1, _)] (AllL.cons_ (rfl) trivial) (AllL.cons_ (rfl) trivial) ?_
        exact hKb _ _ ⟨rfl, rfl, trivial⟩
      have hG6_1 (b46 : Nat) (A48 : Option Addr) (b48 c48 : Nat) (g48a : 0 < c48 → A48 = some ⟨b48, 0, none⟩) (g48b : (sumS (key.take n ++ List.replicate 65 0#8)).length ≤ c48) : G 4 #[true, true, true, true, true, true, true, true, true, true, true, true, true, true, true, true, true, true, false, false, false, false] (frOf [(1, .slice A1 nb c1), (7, .slice A18 (key.take n ++ List.replicate 65 0#8).length c18), (8, ptr b8 0), (9, .slice A27 (key.take m).length c27), (10, .slice A35 (key.take m ++ List.replicate k 0#8).length c35), (41, .bool true), (42, .bool true), (43, .slice A18 (key.take n ++ List.replicate 65 0#8).length c18), (44, .slice A1 nb c1), (45, aggK (macS (key.take n ++ List.replicate 65 0#8) (b.take nb))), (46, .slice (some ⟨b46, 0, none⟩) 0 0), (47, .slice (some ⟨b8, 0, none⟩) 32 32), (48, .slice A48 (sumS (key.take n ++ List.replicate 65 0#8)).length c48), (49, .slice A1 nb c1), (50, aggK (macS (sumS (key.take n ++ List.replicate 65 0#8)) (b.take nb))), (51, .bool (macS (key.take n ++ List.replicate 65 0#8) (b.take nb) == macS (sumS (key.take n ++ List.replicate 65 0#8)) (b.take nb))), (52, .bool (macS (key.take n ++ List.replicate 65 0#8) (b.take nb) == macS (sumS (key.take n ++ List.replicate 65 0#8)) (b.take nb))), (53, .bool (macS (key.take n ++ List.replicate 65 0#8) (b.take nb) == macS (sumS (key.take n ++ List.replicate 65 0#8)) (b.take nb))), (54, .slice A27 (key.take m).length c27), (55, .slice A1 nb c1), (56, aggK (macS (key.take m) (b.take nb))), (57, .slice A35 (key.take m ++ List.replicate k 0#8).length c35), (58, .slice A1 nb c1)]) (hOf [(1, pRow br r b), (8, ⟨true, b8, 0, 25, (sumS (key.take n ++ List.replicate 65 0#8)).map u8V, 0⟩), (11, ⟨true, b18, 0, 5, ((key.take n ++ List.replicate 65 0#8)).map u8V, c18 - ((key.take n ++ List.replicate 65 0#8)).length⟩), (21, ⟨true, b27, 0, 5, ((key.take m)).map u8V, c27 - ((key.take m)).length⟩), (28, ⟨true, b35, 0, 5, ((key.take m ++ List.replicate k 0#8)).map u8V, c35 - ((key.take m ++ List.replicate k 0#8)).length⟩), (46, ⟨true, b48, 0, 5, ((sumS (key.take n ++ List.replicate 65 0#8))).map u8V, c48 - ((sumS (key.take n ++ List.replicate 65 0#8))).length⟩)]) := by
        refine hGo ?_
        refine At.eStep [18] (by kernel_rfl) (by simp) ?_
        refine At.anySg (tt := 53) (j := 12) (want := true) rfl (by rw [← mac_long hlong]; first | done | simp) (S_callV (some 59) [(28, _), (1, _)] [] (vs := [_, _]) rfl en18 rfl (VN (by simp) rfl View.all (VN (by simp) rfl (View.sub (j := 0) (m := nb) rfl rfl) V0)) (by simp) (c_MacN (key := (key.take m ++ List.replicate k 0#8)) (b := b.take nb) (n := (key.take m ++ List.replicate k 0#8).length) (nb := nb) rfl hnb2 (fun h => g35a (by omega)) h1a (by omega) (by omega)) (by rintro _ _ ⟨rfl, rfl⟩; rfl) ?_)
        rintro _ _ ⟨rfl, rfl⟩
        refine At.ePg (tt := 53) (j := 12) (want := true) 19 (some 60) rfl (by rw [← mac_long hlong]; first | done | simp) (P_eql_arr rfl Try.underlying25 Try.underlying5 sz5 Try.eqGuardType25 rfl rfl (macS_len _ _) (macS_len _ _)) (by kernel_rfl) (by kernel_rfl) ?_
        refine At.eP 20 (some 61) (P_pick_t rfl rfl (by rw [← mac_long hlong]; simp) rfl) (by kernel_rfl) (by kernel_rfl) ?_
        refine At.eP 21 (some 6) (P_assign rfl rfl) (by kernel_rfl) (by kernel_rfl) ?_
        refine At.to [(1, .slice A1 nb c1), (6, .bool (macS (key.take m) (b.take nb) == macS (key.take m ++ List.replicate k 0#8) (b.take nb))), (7, .slice A18 (key.take n ++ List.replicate 65 0#8).length c18), (8, ptr b8 0), (9, .slice A27 (key.take m).length c27), (10, .slice A35 (key.take m ++ List.replicate k 0#8).length c35), (41, .bool true), (42, .bool true), (43, .slice A18 (key.take n ++ List.replicate 65 0#8).length c18), (44, .slice A1 nb c1), (45, aggK (macS (key.take n ++ List.replicate 65 0#8) (b.take nb))), (46, .slice (some ⟨b46, 0, none⟩) 0 0), (47, .slice (some ⟨b8, 0, none⟩) 32 32), (48, .slice A48 (sumS (key.take n ++ List.replicate 65 0#8)).length c48), (49, .slice A1 nb c1), (50, aggK (macS (sumS (key.take n ++ List.replicate 65 0#8)) (b.take nb))), (51, .bool (macS (key.take n ++ List.replicate 65 0#8) (b.take nb) == macS (sumS (key.take n ++ List.replicate 65 0#8)) (b.take nb))), (52, .bool (macS (key.take n ++ List.replicate 65 0#8) (b.take nb) == macS (sumS (key.take n ++ List.replicate 65 0#8)) (b.take nb))), (53, .bool (macS (key.take n ++ List.replicate 65 0#8) (b.take nb) == macS (sumS (key.take n ++ List.replicate 65 0#8)) (b.take nb))), (54, .slice A27 (key.take m).length c27), (55, .slice A1 nb c1), (56, aggK (macS (key.take m) (b.take nb))), (57, .slice A35 (key.take m ++ List.replicate k 0#8).length c35), (58, .slice A1 nb c1), (59, aggK (macS (key.take m ++ List.replicate k 0#8) (b.take nb))), (60, .bool (macS (key.take m) (b.take nb) == macS (key.take m ++ List.replicate k 0#8) (b.take nb))), (61, .bool (macS (key.take m) (b.take nb) == macS (key.take m ++ List.replicate k 0#8) (b.take nb)))] [(1, pRow br r b), (8, ⟨true, b8, 0, 25, (sumS (key.take n ++ List.replicate 65 0#8)).map u8V, 0⟩), (11, ⟨true, b18, 0, 5, ((key.take n ++ List.replicate 65 0#8)).map u8V, c18 - ((key.take n ++ List.replicate 65 0#8)).length⟩), (21, ⟨true, b27, 0, 5, ((key.take m)).map u8V, c27 - ((key.take m)).length⟩), (28, ⟨true, b35, 0, 5, ((key.take m ++ List.replicate k 0#8)).map u8V, c35 - ((key.take m ++ List.replicate k 0#8)).length⟩), (46, ⟨true, b48, 0, 5, ((sumS (key.take n ++ List.replicate 65 0#8))).map u8V, c48 - ((sumS (key.take n ++ List.replicate 65 0#8))).length⟩)] (AllL.cons_ (rfl) (AllL.cons_ (rfl) (AllL.cons_ (rfl) (AllL.cons_ (rfl) (AllL.cons_ (rfl) (AllL.cons_ (rfl) (AllL.cons_ (rfl) (AllL.cons_ (rfl) (AllL.cons_ (rfl) (AllL.cons_ (rfl) (AllL.cons_ (rfl) (AllL.cons_ (rfl) (AllL.cons_ (rfl) (AllL.cons_ (rfl) (AllL.cons_ (rfl) (AllL.cons_ (rfl) (AllL.cons_ (rfl) (AllL.cons_ (rfl) (AllL.cons_ (rfl) (AllL.cons_ (rfl) (AllL.cons_ (rfl) (AllL.cons_ (rfl) (AllL.cons_ (rfl) (AllL.cons_ (rfl) (AllL.cons_ (rfl) (AllL.cons_ (rfl) (AllL.cons_ (rfl) trivial))))))))))))))))))))))))))) (AllL.cons_ (rfl) (AllL.cons_ (rfl) (AllL.cons_ (rfl) (AllL.cons_ (rfl) (AllL.cons_ (rfl) (AllL.cons_ (rfl) trivial)))))) ?_
        exact hGi (hG6_0 b46 A48 b48 c48 g48a g48b)
      have hG6_2 (b46 : Nat) (A48 : Option Addr) (b48 c48 : Nat) (g48a : 0 < c48 → A48 = some ⟨b48, 0, none⟩) (g48b : (sumS (key.take n ++ List.replicate 65 0#8)).length ≤ c48) : G 5 #[true, true, true, true, true, true, true, true, true, true, true, true, true, true, true, false, true, true, false, false, false, false] (frOf [(1, .slice A1 nb c1), (7, .slice A18 (key.take n ++ List.replicate 65 0#8).length c18), (8, ptr b8 0), (9, .slice A27 (key.take m).length c27), (10, .slice A35 (key.take m ++ List.replicate k 0#8).length c35), (41, .bool true), (42, .bool true), (43, .slice A18 (key.take n ++ List.replicate 65 0#8).length c18), (44, .slice A1 nb c1), (45, aggK (macS (key.take n ++ List.replicate 65 0#8) (b.take nb))), (46, .slice (some ⟨b46, 0, none⟩) 0 0), (47, .slice (some ⟨b8, 0, none⟩) 32 32), (48, .slice A48 (sumS (key.take n ++ List.replicate 65 0#8)).length c48), (49, .slice A1 nb c1), (50, aggK (macS (sumS (key.take n ++ List.replicate 65 0#8)) (b.take nb))), (51, .bool (macS (key.take n ++ List.replicate 65 0#8) (b.take nb) == macS (sumS (key.take n ++ List.replicate 65 0#8)) (b.take nb))), (52, .bool (macS (key.take n ++ List.replicate 65 0#8) (b.take nb) == macS (sumS (key.take n ++ List.replicate 65 0#8)) (b.take nb))), (53, .bool (macS (key.take n ++ List.replicate 65 0#8) (b.take nb) == macS (sumS (key.take n ++ List.replicate 65 0#8)) (b.take nb))), (54, .slice A27 (key.take m).length c27), (55, .slice A1 nb c1), (57, .slice A35 (key.take m ++ List.replicate k 0#8).length c35), (58, .slice A1 nb c1)]) (hOf [(1, pRow br r b), (8, ⟨true, b8, 0, 25, (sumS (key.take n ++ List.replicate 65 0#8)).map u8V, 0⟩), (11, ⟨true, b18, 0, 5, ((key.take n ++ List.replicate 65 0#8)).map u8V, c18 - ((key.take n ++ List.replicate 65 0#8)).length⟩), (21, ⟨true, b27, 0, 5, ((key.take m)).map u8V, c27 - ((key.take m)).length⟩), (28, ⟨true, b35, 0, 5, ((key.take m ++ List.replicate k 0#8)).map u8V, c35 - ((key.take m ++ List.replicate k 0#8)).length⟩), (46, ⟨true, b48, 0, 5, ((sumS (key.take n ++ List.replicate 65 0#8))).map u8V, c48 - ((sumS (key.take n ++ List.replicate 65 0#8))).length⟩)]) := by
        refine hGo ?_
        refine At.eStep [15] (by kernel_rfl) (by simp) ?_
        refine At.anySg (tt := 53) (j := 12) (want := true) rfl (by rw [← mac_long hlong]; first | done | simp) (S_callV (some 56) [(21, _), (1, _)] [] (vs := [_, _]) rfl en18 rfl (VN (by simp) rfl View.all (VN (by simp) rfl (View.sub (j := 0) (m := nb) rfl rfl) V0)) (by simp) (c_MacN (key := (key.take m)) (b := b.take nb) (n := (key.take m).length) (nb := nb) rfl hnb2 (fun h => g27a (by omega)) h1a (by omega) (by omega)) (by rintro _ _ ⟨rfl, rfl⟩; rfl) ?_)
        rintro _ _ ⟨rfl, rfl⟩
        refine At.to [(1, .slice A1 nb c1), (7, .slice A18 (key.take n ++ List.replicate 65 0#8).length c18), (8, ptr b8 0), (9, .slice A27 (key.take m).length c27), (10, .slice A35 (key.take m ++ List.replicate k 0#8).length c35), (41, .bool true), (42, .bool true), (43, .slice A18 (key.take n ++ List.replicate 65 0#8).length c18), (44, .slice A1 nb c1), (45, aggK (macS (key.take n ++ List.replicate 65 0#8) (b.take nb))), (46, .slice (some ⟨b46, 0, none⟩) 0 0), (47, .slice (some ⟨b8, 0, none⟩) 32 32), (48, .slice A48 (sumS (key.take n ++ List.replicate 65 0#8)).length c48), (49, .slice A1 nb c1), (50, aggK (macS (sumS (key.take n ++ List.replicate 65 0#8)) (b.take nb))), (51, .bool (macS (key.take n ++ List.replicate 65 0#8) (b.take nb) == macS (sumS (key.take n ++ List.replicate 65 0#8)) (b.take nb))), (52, .bool (macS (key.take n ++ List.replicate 65 0#8) (b.take nb) == macS (sumS (key.take n ++ List.replicate 65 0#8)) (b.take nb))), (53, .bool (macS (key.take n ++ List.replicate 65 0#8) (b.take nb) == macS (sumS (key.take n ++ List.replicate 65 0#8)) (b.take nb))), (54, .slice A27 (key.take m).length c27), (55, .slice A1 nb c1), (56, aggK (macS (key.take m) (b.take nb))), (57, .slice A35 (key.take m ++ List.replicate k 0#8).length c35), (58, .slice A1 nb c1)] [(1, pRow br r b), (8, ⟨true, b8, 0, 25, (sumS (key.take n ++ List.replicate 65 0#8)).map u8V, 0⟩), (11, ⟨true, b18, 0, 5, ((key.take n ++ List.replicate 65 0#8)).map u8V, c18 - ((key.take n ++ List.replicate 65 0#8)).length⟩), (21, ⟨true, b27, 0, 5, ((key.take m)).map u8V, c27 - ((key.take m)).length⟩), (28, ⟨true, b35, 0, 5, ((key.take m ++ List.replicate k 0#8)).map u8V, c35 - ((key.take m ++ List.replicate k 0#8)).length⟩), (46, ⟨true, b48, 0, 5, ((sumS (key.take n ++ List.replicate 65 0#8))).map u8V, c48 - ((sumS (key.take n ++ List.replicate 65 0#8))).length⟩)] (AllL.cons_ (rfl) (AllL.cons_ (rfl) (AllL.cons_ (rfl) (AllL.cons_ (rfl) (AllL.cons_ (rfl) (AllL.cons_ (rfl) (AllL.cons_ (rfl) (AllL.cons_ (rfl) (AllL.cons_ (rfl) (AllL.cons_ (rfl) (AllL.cons_ (rfl) (AllL.cons_ (rfl) (AllL.cons_ (rfl) (AllL.cons_ (rfl) (AllL.cons_ (rfl) (AllL.cons_ (rfl) (AllL.cons_ (rfl) (AllL.cons_ (rfl) (AllL.cons_ (rfl) (AllL.cons_ (rfl) (AllL.cons_ (rfl) (AllL.cons_ (rfl) (AllL.cons_ (rfl) trivial))))))))))))))))))))))) (AllL.cons_ (rfl) (AllL.cons_ (rfl) (AllL.cons_ (rfl) (AllL.cons_ (rfl) (AllL.cons_ (rfl) (AllL.cons_ (rfl) trivial)))))) ?_
        exact hGi (hG6_1 b46 A48 b48 c48 g48a g48b)
      have hG6_3 (b46 : Nat) (A48 : Option Addr) (b48 c48 : Nat) (g48a : 0 < c48 → A48 = some ⟨b48, 0, none⟩) (g48b : (sumS (key.take n ++ List.replicate 65 0#8)).length ≤ c48) : G 13 #[true, true, true, true, true, true, true, true, true, false, false, false, false, false, false, false, false, false, false, false, false, false] (frOf [(1, .slice A1 nb c1), (7, .slice A18 (key.take n ++ List.replicate 65 0#8).length c18), (8, ptr b8 0), (9, .slice A27 (key.take m).length c27), (10, .slice A35 (key.take m ++ List.replicate k 0#8).length c35), (41, .bool true), (42, .bool true), (43, .slice A18 (key.take n ++ List.replicate 65 0#8).length c18), (44, .slice A1 nb c1), (45, aggK (macS (key.take n ++ List.replicate 65 0#8) (b.take nb))), (46, .slice (some ⟨b46, 0, none⟩) 0 0), (47, .slice (some ⟨b8, 0, none⟩) 32 32), (48, .slice A48 (sumS (key.take n ++ List.replicate 65 0#8)).length c48), (49, .slice A1 nb c1)]) (hOf [(1, pRow br r b), (8, ⟨true, b8, 0, 25, (sumS (key.take n ++ List.replicate 65 0#8)).map u8V, 0⟩), (11, ⟨true, b18, 0, 5, ((key.take n ++ List.replicate 65 0#8)).map u8V, c18 - ((key.take n ++ List.replicate 65 0#8)).length⟩), (21, ⟨true, b27, 0, 5, ((key.take m)).map u8V, c27 - ((key.take m)).length⟩), (28, ⟨true, b35, 0, 5, ((key.take m ++ List.replicate k 0#8)).map u8V, c35 - ((key.take m ++ List.replicate k 0#8)).length⟩), (46, ⟨true, b48, 0, 5, ((sumS (key.take n ++ List.replicate 65 0#8))).map u8V, c48 - ((sumS (key.take n ++ List.replicate 65 0#8))).length⟩)]) := by
        refine hGo ?_
        refine At.eStep [9] (by kernel_rfl) (by simp) ?_
        refine At.anySg (tt := 42) (j := 1) (want := true) rfl rfl (S_callV (some 50) [(46, _), (1, _)] [] (vs := [_, _]) rfl en18 rfl (VN (by simp) rfl View.all (VN (by simp) rfl (View.sub (j := 0) (m := nb) rfl rfl) V0)) (by simp) (c_MacN (key := (sumS (key.take n ++ List.replicate 65 0#8))) (b := b.take nb) (n := (sumS (key.take n ++ List.replicate 65 0#8)).length) (nb := nb) rfl hnb2 (fun h => g48a (by omega)) h1a (by omega) (by omega)) (by rintro _ _ ⟨rfl, rfl⟩; rfl) ?_)
        rintro _ _ ⟨rfl, rfl⟩
        refine At.ePg (tt := 42) (j := 1) (want := true) 10 (some 51) rfl rfl (P_eql_arr rfl Try.underlying25 Try.underlying5 sz5 Try.eqGuardType25 rfl rfl (macS_len _ _) (macS_len _ _)) (by kernel_rfl) (by kernel_rfl) ?_
        refine At.eP 11 (some 52) (P_pick_t rfl rfl rfl rfl) (by kernel_rfl) (by kernel_rfl) ?_
        refine At.eP 12 (some 53) (P_move rfl rfl) (by kernel_rfl) (by kernel_rfl) ?_
        refine At.ePg (tt := 53) (j := 12) (want := true) 13 (some 54) rfl (by rw [← mac_long hlong]; first | done | simp) (P_move rfl rfl) (by kernel_rfl) (by kernel_rfl) ?_
        refine At.ePg (tt := 53) (j := 12) (want := true) 14 (some 55) rfl (by rw [← mac_long hlong]; first | done | simp) (P_move rfl rfl) (by kernel_rfl) (by kernel_rfl) ?_
        refine At.ePg (tt := 53) (j := 12) (want := true) 16 (some 57) rfl (by rw [← mac_long hlong]; first | done | simp) (P_move rfl rfl) (by kernel_rfl) (by kernel_rfl) ?_
        refine At.ePg (tt := 53) (j := 12) (want := true) 17 (some 58) rfl (by rw [← mac_long hlong]; first | done | simp) (P_move rfl rfl) (by kernel_rfl) (by kernel_rfl) ?_
        refine At.to [(1, .slice A1 nb c1), (7, .slice A18 (key.take n ++ List.replicate 65 0#8).length c18), (8, ptr b8 0), (9, .slice A27 (key.take m).length c27), (10, .slice A35 (key.take m ++ List.replicate k 0#8).length c35), (41, .bool true), (42, .bool true), (43, .slice A18 (key.take n ++ List.replicate 65 0#8).length c18), (44, .slice A1 nb c1), (45, aggK (macS (key.take n ++ List.replicate 65 0#8) (b.take nb))), (46, .slice (some ⟨b46, 0, none⟩) 0 0), (47, .slice (some ⟨b8, 0, none⟩) 32 32), (48, .slice A48 (sumS (key.take n ++ List.replicate 65 0#8)).length c48), (49, .slice A1 nb c1), (50, aggK (macS (sumS (key.take n ++ List.replicate 65 0#8)) (b.take nb))), (51, .bool (macS (key.take n ++ List.replicate 65 0#8) (b.take nb) == macS (sumS (key.take n ++ List.replicate 65 0#8)) (b.take nb))), (52, .bool (macS (key.take n ++ List.replicate 65 0#8) (b.take nb) == macS (sumS (key.take n ++ List.replicate 65 0#8)) (b.take nb))), (53, .bool (macS (key.take n ++ List.replicate 65 0#8) (b.take nb) == macS (sumS (key.take n ++ List.replicate 65 0#8)) (b.take nb))), (54, .slice A27 (key.take m).length c27), (55, .slice A1 nb c1), (57, .slice A35 (key.take m ++ List.replicate k 0#8).length c35), (58, .slice A1 nb c1)] [(1, pRow br r b), (8, ⟨true, b8, 0, 25, (sumS (key.take n ++ List.replicate 65 0#8)).map u8V, 0⟩), (11, ⟨true, b18, 0, 5, ((key.take n ++ List.replicate 65 0#8)).map u8V, c18 - ((key.take n ++ List.replicate 65 0#8)).length⟩), (21, ⟨true, b27, 0, 5, ((key.take m)).map u8V, c27 - ((key.take m)).length⟩), (28, ⟨true, b35, 0, 5, ((key.take m ++ List.replicate k 0#8)).map u8V, c35 - ((key.take m ++ List.replicate k 0#8)).length⟩), (46, ⟨true, b48, 0, 5, ((sumS (key.take n ++ List.replicate 65 0#8))).map u8V, c48 - ((sumS (key.take n ++ List.replicate 65 0#8))).length⟩)] (AllL.cons_ (rfl) (AllL.cons_ (rfl) (AllL.cons_ (rfl) (AllL.cons_ (rfl) (AllL.cons_ (rfl) (AllL.cons_ (rfl) (AllL.cons_ (rfl) (AllL.cons_ (rfl) (AllL.cons_ (rfl) (AllL.cons_ (rfl) (AllL.cons_ (rfl) (AllL.cons_ (rfl) (AllL.cons_ (rfl) (AllL.cons_ (rfl) (AllL.cons_ (rfl) (AllL.cons_ (rfl) (AllL.cons_ (rfl) (AllL.cons_ (rfl) (AllL.cons_ (rfl) (AllL.cons_ (rfl) (AllL.cons_ (rfl) (AllL.cons_ (rfl) trivial)))))))))))))))))))))) (AllL.cons_ (rfl) (AllL.cons_ (rfl) (AllL.cons_ (rfl) (AllL.cons_ (rfl) (AllL.cons_ (rfl) (AllL.cons_ (rfl) trivial)))))) ?_
        exact hGi (hG6_2 b46 A48 b48 c48 g48a g48b)
      have hG6_4 (b46 : Nat) : G 14 #[true, true, true, true, true, true, true, false, true, false, false, false, false, false, false, false, false, false, false, false, false, false] (frOf [(1, .slice A1 nb c1), (7, .slice A18 (key.take n ++ List.replicate 65 0#8).length c18), (8, ptr b8 0), (9, .slice A27 (key.take m).length c27), (10, .slice A35 (key.take m ++ List.replicate k 0#8).length c35), (41, .bool true), (42, .bool true), (43, .slice A18 (key.take n ++ List.replicate 65 0#8).length c18), (44, .slice A1 nb c1), (45, aggK (macS (key.take n ++ List.replicate 65 0#8) (b.take nb))), (46, .slice (some ⟨b46, 0, none⟩) 0 0), (47, .slice (some ⟨b8, 0, none⟩) 32 32), (49, .slice A1 nb c1)]) (hOf [(1, pRow br r b), (8, ⟨true, b8, 0, 25, (sumS (key.take n ++ List.replicate 65 0#8)).map u8V, 0⟩), (11, ⟨true, b18, 0, 5, ((key.take n ++ List.replicate 65 0#8)).map u8V, c18 - ((key.take n ++ List.replicate 65 0#8)).length⟩), (21, ⟨true, b27, 0, 5, ((key.take m)).map u8V, c27 - ((key.take m)).length⟩), (28, ⟨true, b35, 0, 5, ((key.take m ++ List.replicate k 0#8)).map u8V, c35 - ((key.take m ++ List.replicate k 0#8)).length⟩), (46, ⟨true, b46, 0, 5, [], 0⟩)]) := by
        refine hGo ?_
        refine At.eStep [7] (by kernel_rfl) (by simp) ?_
        refine At.anySg (tt := 42) (j := 1) (want := true) rfl rfl (S_appendM (some 48) 46 (sumS (key.take n ++ List.replicate 65 0#8)) (f := u8V) (l := []) (L := sumS (key.take n ++ List.replicate 65 0#8)) rfl Try.underlying22 Try.underlying22 (.inr ⟨_, rfl⟩) sz5 by5 ze5 rfl rfl (fun h => ⟨absurd h (by omega), rfl⟩) rfl rfl (Src.row (k := 8) (j := 0) rfl (fun _ => rfl) (fun _ => ⟨rfl, rfl, rfl⟩) (by simp [List.take_of_length_le, sumS_len]) (by simp [sumS_len])) (fun _ => rfl) (by decide) (by decide) rfl (sumS_len _) ?_)
        intro A48 b48 c48 g48a g48b
        refine At.to [(1, .slice A1 nb c1), (7, .slice A18 (key.take n ++ List.replicate 65 0#8).length c18), (8, ptr b8 0), (9, .slice A27 (key.take m).length c27), (10, .slice A35 (key.take m ++ List.replicate k 0#8).length c35), (41, .bool true), (42, .bool true), (43, .slice A18 (key.take n ++ List.replicate 65 0#8).length c18), (44, .slice A1 nb c1), (45, aggK (macS (key.take n ++ List.replicate 65 0#8) (b.take nb))), (46, .slice (some ⟨b46, 0, none⟩) 0 0), (47, .slice (some ⟨b8, 0, none⟩) 32 32), (48, .slice A48 (sumS (key.take n ++ List.replicate 65 0#8)).length c48), (49, .slice A1 nb c1)] [(1, pRow br r b), (8, ⟨true, b8, 0, 25, (sumS (key.take n ++ List.replicate 65 0#8)).map u8V, 0⟩), (11, ⟨true, b18, 0, 5, ((key.take n ++ List.replicate 65 0#8)).map u8V, c18 - ((key.take n ++ List.replicate 65 0#8)).length⟩), (21, ⟨true, b27, 0, 5, ((key.take m)).map u8V, c27 - ((key.take m)).length⟩), (28, ⟨true, b35, 0, 5, ((key.take m ++ List.replicate k 0#8)).map u8V, c35 - ((key.take m ++ List.replicate k 0#8)).length⟩), (46, ⟨true, b48, 0, 5, ((sumS (key.take n ++ List.replicate 65 0#8))).map u8V, c48 - ((sumS (key.take n ++ List.replicate 65 0#8))).length⟩)] (AllL.cons_ (rfl) (AllL.cons_ (rfl) (AllL.cons_ (rfl) (AllL.cons_ (rfl) (AllL.cons_ (rfl) (AllL.cons_ (rfl) (AllL.cons_ (rfl) (AllL.cons_ (rfl) (AllL.cons_ (rfl) (AllL.cons_ (rfl) (AllL.cons_ (rfl) (AllL.cons_ (rfl) (AllL.cons_ (rfl) (AllL.cons_ (rfl) trivial)))))))))))))) (AllL.cons_ (rfl) (AllL.cons_ (rfl) (AllL.cons_ (rfl) (AllL.cons_ (rfl) (AllL.cons_ (rfl) (AllL.cons_ (rfl) trivial)))))) ?_
        exact hGi (hG6_3 b46 A48 b48 c48 g48a g48b)
      have hG6_5  : G 15 #[true, true, true, true, true, false, true, false, true, false, false, false, false, false, false, false, false, false, false, false, false, false] (frOf [(1, .slice A1 nb c1), (7, .slice A18 (key.take n ++ List.replicate 65 0#8).length c18), (8, ptr b8 0), (9, .slice A27 (key.take m).length c27), (10, .slice A35 (key.take m ++ List.replicate k 0#8).length c35), (41, .bool true), (42, .bool true), (43, .slice A18 (key.take n ++ List.replicate 65 0#8).length c18), (44, .slice A1 nb c1), (45, aggK (macS (key.take n ++ List.replicate 65 0#8) (b.take nb))), (47, .slice (some ⟨b8, 0, none⟩) 32 32), (49, .slice A1 nb c1)]) (hOf [(1, pRow br r b), (8, ⟨true, b8, 0, 25, (sumS (key.take n ++ List.replicate 65 0#8)).map u8V, 0⟩), (11, ⟨true, b18, 0, 5, ((key.take n ++ List.replicate 65 0#8)).map u8V, c18 - ((key.take n ++ List.replicate 65 0#8)).length⟩), (21, ⟨true, b27, 0, 5, ((key.take m)).map u8V, c27 - ((key.take m)).length⟩), (28, ⟨true, b35, 0, 5, ((key.take m ++ List.replicate k 0#8)).map u8V, c35 - ((key.take m ++ List.replicate k 0#8)).length⟩)]) := by
        refine hGo ?_
        refine At.eStep [5] (by kernel_rfl) (by simp) ?_
        refine At.anySg (tt := 42) (j := 1) (want := true) rfl rfl (S_buildSlice0 (some 46) 46 rfl Try.underlying22 sz5 (fun b46 => ?_))
        refine At.to [(1, .slice A1 nb c1), (7, .slice A18 (key.take n ++ List.replicate 65 0#8).length c18), (8, ptr b8 0), (9, .slice A27 (key.take m).length c27), (10, .slice A35 (key.take m ++ List.replicate k 0#8).length c35), (41, .bool true), (42, .bool true), (43, .slice A18 (key.take n ++ List.replicate 65 0#8).length c18), (44, .slice A1 nb c1), (45, aggK (macS (key.take n ++ List.replicate 65 0#8) (b.take nb))), (46, .slice (some ⟨b46, 0, none⟩) 0 0), (47, .slice (some ⟨b8, 0, none⟩) 32 32), (49, .slice A1 nb c1)] [(1, pRow br r b), (8, ⟨true, b8, 0, 25, (sumS (key.take n ++ List.replicate 65 0#8)).map u8V, 0⟩), (11, ⟨true, b18, 0, 5, ((key.take n ++ List.replicate 65 0#8)).map u8V, c18 - ((key.take n ++ List.replicate 65 0#8)).length⟩), (21, ⟨true, b27, 0, 5, ((key.take m)).map u8V, c27 - ((key.take m)).length⟩), (28, ⟨true, b35, 0, 5, ((key.take m ++ List.replicate k 0#8)).map u8V, c35 - ((key.take m ++ List.replicate k 0#8)).length⟩), (46, ⟨true, b46, 0, 5, [], 0⟩)] (AllL.cons_ (rfl) (AllL.cons_ (rfl) (AllL.cons_ (rfl) (AllL.cons_ (rfl) (AllL.cons_ (rfl) (AllL.cons_ (rfl) (AllL.cons_ (rfl) (AllL.cons_ (rfl) (AllL.cons_ (rfl) (AllL.cons_ (rfl) (AllL.cons_ (rfl) (AllL.cons_ (rfl) (AllL.cons_ (rfl) trivial))))))))))))) (AllL.cons_ (rfl) (AllL.cons_ (rfl) (AllL.cons_ (rfl) (AllL.cons_ (rfl) (AllL.cons_ (rfl) (AllL.cons_ (rfl) trivial)))))) ?_
        exact hGi (hG6_4 b46)
      have hG6_6 (b46 : Nat) : G 15 #[true, true, true, true, false, true, true, false, true, false, false, false, false, false, false, false, false, false, false, false, false, false] (frOf [(1, .slice A1 nb c1), (7, .slice A18 (key.take n ++ List.replicate 65 0#8).length c18), (8, ptr b8 0), (9, .slice A27 (key.take m).length c27), (10, .slice A35 (key.take m ++ List.replicate k 0#8).length c35), (41, .bool true), (42, .bool true), (43, .slice A18 (key.take n ++ List.replicate 65 0#8).length c18), (44, .slice A1 nb c1), (46, .slice (some ⟨b46, 0, none⟩) 0 0), (47, .slice (some ⟨b8, 0, none⟩) 32 32), (49, .slice A1 nb c1)]) (hOf [(1, pRow br r b), (8, ⟨true, b8, 0, 25, (sumS (key.take n ++ List.replicate 65 0#8)).map u8V, 0⟩), (11, ⟨true, b18, 0, 5, ((key.take n ++ List.replicate 65 0#8)).map u8V, c18 - ((key.take n ++ List.replicate 65 0#8)).length⟩), (21, ⟨true, b27, 0, 5, ((key.take m)).map u8V, c27 - ((key.take m)).length⟩), (28, ⟨true, b35, 0, 5, ((key.take m ++ List.replicate k 0#8)).map u8V, c35 - ((key.take m ++ List.replicate k 0#8)).length⟩), (46, ⟨true, b46, 0, 5, [], 0⟩)]) := by
        refine hGo ?_
        refine At.eStep [4] (by kernel_rfl) (by simp) ?_
        refine At.anySg (tt := 42) (j := 1) (want := true) rfl rfl (S_callV (some 45) [(11, _), (1, _)] [] (vs := [_, _]) rfl en18 rfl (VN (by simp) rfl View.all (VN (by simp) rfl (View.sub (j := 0) (m := nb) rfl rfl) V0)) (by simp) (c_MacN (key := (key.take n ++ List.replicate 65 0#8)) (b := b.take nb) (n := (key.take n ++ List.replicate 65 0#8).length) (nb := nb) rfl hnb2 (fun h => g18a (by omega)) h1a (by omega) (by omega)) (by rintro _ _ ⟨rfl, rfl⟩; rfl) ?_)
        rintro _ _ ⟨rfl, rfl⟩
        refine At.to [(1, .slice A1 nb c1), (7, .slice A18 (key.take n ++ List.replicate 65 0#8).length c18), (8, ptr b8 0), (9, .slice A27 (key.take m).length c27), (10, .slice A35 (key.take m ++ List.replicate k 0#8).length c35), (41, .bool true), (42, .bool true), (43, .slice A18 (key.take n ++ List.replicate 65 0#8).length c18), (44, .slice A1 nb c1), (45, aggK (macS (key.take n ++ List.replicate 65 0#8) (b.take nb))), (46, .slice (some ⟨b46, 0, none⟩) 0 0), (47, .slice (some ⟨b8, 0, none⟩) 32 32), (49, .slice A1 nb c1)] [(1, pRow br r b), (8, ⟨true, b8, 0, 25, (sumS (key.take n ++ List.replicate 65 0#8)).map u8V, 0⟩), (11, ⟨true, b18, 0, 5, ((key.take n ++ List.replicate 65 0#8)).map u8V, c18 - ((key.take n ++ List.replicate 65 0#8)).length⟩), (21, ⟨true, b27, 0, 5, ((key.take m)).map u8V, c27 - ((key.take m)).length⟩), (28, ⟨true, b35, 0, 5, ((key.take m ++ List.replicate k 0#8)).map u8V, c35 - ((key.take m ++ List.replicate k 0#8)).length⟩), (46, ⟨true, b46, 0, 5, [], 0⟩)] (AllL.cons_ (rfl) (AllL.cons_ (rfl) (AllL.cons_ (rfl) (AllL.cons_ (rfl) (AllL.cons_ (rfl) (AllL.cons_ (rfl) (AllL.cons_ (rfl) (AllL.cons_ (rfl) (AllL.cons_ (rfl) (AllL.cons_ (rfl) (AllL.cons_ (rfl) (AllL.cons_ (rfl) (AllL.cons_ (rfl) trivial))))))))))))) (AllL.cons_ (rfl) (AllL.cons_ (rfl) (AllL.cons_ (rfl) (AllL.cons_ (rfl) (AllL.cons_ (rfl) (AllL.cons_ (rfl) trivial)))))) ?_
        exact hGi (hG6_4 b46)
      have hG6_7  : G 16 #[true, true, true, true, false, false, true, false, true, false, false, false, false, false, false, false, false, false, false, false, false, false] (frOf [(1, .slice A1 nb c1), (7, .slice A18 (key.take n ++ List.replicate 65 0#8).length c18), (8, ptr b8 0), (9, .slice A27 (key.take m).length c27), (10, .slice A35 (key.take m ++ List.replicate k 0#8).length c35), (41, .bool true), (42, .bool true), (43, .slice A18 (key.take n ++ List.replicate 65 0#8).length c18), (44, .slice A1 nb c1), (47, .slice (some ⟨b8, 0, none⟩) 32 32), (49, .slice A1 nb c1)]) (hOf [(1, pRow br r b), (8, ⟨true, b8, 0, 25, (sumS (key.take n ++ List.replicate 65 0#8)).map u8V, 0⟩), (11, ⟨true, b18, 0, 5, ((key.take n ++ List.replicate 65 0#8)).map u8V, c18 - ((key.take n ++ List.replicate 65 0#8)).length⟩), (21, ⟨true, b27, 0, 5, ((key.take m)).map u8V, c27 - ((key.take m)).length⟩), (28, ⟨true, b35, 0, 5, ((key.take m ++ List.replicate k 0#8)).map u8V, c35 - ((key.take m ++ List.replicate k 0#8)).length⟩)]) := by
        refine hGo ?_
        refine At.eStep [4, 5] (by kernel_rfl) (by simp) ?_
        refine ⟨?_, ?_⟩
        ·
          refine At.anySg (tt := 42) (j := 1) (want := true) rfl rfl (S_callV (some 45) [(11, _), (1, _)] [] (vs := [_, _]) rfl en18 rfl (VN (by simp) rfl View.all (VN (by simp) rfl (View.sub (j := 0) (m := nb) rfl rfl) V0)) (by simp) (c_MacN (key := (key.take n ++ List.replicate 65 0#8)) (b := b.take nb) (n := (key.take n ++ List.replicate 65 0#8).length) (nb := nb) rfl hnb2 (fun h => g18a (by omega)) h1a (by omega) (by omega)) (by rintro _ _ ⟨rfl, rfl⟩; rfl) ?_)
          rintro _ _ ⟨rfl, rfl⟩
          refine At.to [(1, .slice A1 nb c1), (7, .slice A18 (key.take n ++ List.replicate 65 0#8).length c18), (8, ptr b8 0), (9, .slice A27 (key.take m).length c27), (10, .slice A35 (key.take m ++ List.replicate k 0#8).length c35), (41, .bool true), (42, .bool true), (43, .slice A18 (key.take n ++ List.replicate 65 0#8).length c18), (44, .slice A1 nb c1), (45, aggK (macS (key.take n ++ List.replicate 65 0#8) (b.take nb))), (47, .slice (some ⟨b8, 0, none⟩) 32 32), (49, .slice A1 nb c1)] [(1, pRow br r b), (8, ⟨true, b8, 0, 25, (sumS (key.take n ++ List.replicate 65 0#8)).map u8V, 0⟩), (11, ⟨true, b18, 0, 5, ((key.take n ++ List.replicate 65 0#8)).map u8V, c18 - ((key.take n ++ List.replicate 65 0#8)).length⟩), (21, ⟨true, b27, 0, 5, ((key.take m)).map u8V, c27 - ((key.take m)).length⟩), (28, ⟨true, b35, 0, 5, ((key.take m ++ List.replicate k 0#8)).map u8V, c35 - ((key.take m ++ List.replicate k 0#8)).length⟩)] (AllL.cons_ (rfl) (AllL.cons_ (rfl) (AllL.cons_ (rfl) (AllL.cons_ (rfl) (AllL.cons_ (rfl) (AllL.cons_ (rfl) (AllL.cons_ (rfl) (AllL.cons_ (rfl) (AllL.cons_ (rfl) (AllL.cons_ (rfl) (AllL.cons_ (rfl) (AllL.cons_ (rfl) trivial)))))))))))) (AllL.cons_ (rfl) (AllL.cons_ (rfl) (AllL.cons_ (rfl) (AllL.cons_ (rfl) (AllL.cons_ (rfl) trivial))))) ?_
          exact hGi (hG6_5 )
        ·
          refine At.anySg (tt := 42) (j := 1) (want := true) rfl rfl (S_buildSlice0 (some 46) 46 rfl Try.underlying22 sz5 (fun b46 => ?_))
          refine At.to [(1, .slice A1 nb c1), (7, .slice A18 (key.take n ++ List.replicate 65 0#8).length c18), (8, ptr b8 0), (9, .slice A27 (key.take m).length c27), (10, .slice A35 (key.take m ++ List.replicate k 0#8).length c35), (41, .bool true), (42, .bool true), (43, .slice A18 (key.take n ++ List.replicate 65 0#8).length c18), (44, .slice A1 nb c1), (46, .slice (some ⟨b46, 0, none⟩) 0 0), (47, .slice (some ⟨b8, 0, none⟩) 32 32), (49, .slice A1 nb c1)] [(1, pRow br r b), (8, ⟨true, b8, 0, 25, (sumS (key.take n ++ List.replicate 65 0#8)).map u8V, 0⟩), (11, ⟨true, b18, 0, 5, ((key.take n ++ List.replicate 65 0#8)).map u8V, c18 - ((key.take n ++ List.replicate 65 0#8)).length⟩), (21, ⟨true, b27, 0, 5, ((key.take m)).map u8V, c27 - ((key.take m)).length⟩), (28, ⟨true, b35, 0, 5, ((key.take m ++ List.replicate k 0#8)).map u8V, c35 - ((key.take m ++ List.replicate k 0#8)).length⟩), (46, ⟨true, b46, 0, 5, [], 0⟩)] (AllL.cons_ (rfl) (AllL.cons_ (rfl) (AllL.cons_ (rfl) (AllL.cons_ (rfl) (AllL.cons_ (rfl) (AllL.cons_ (rfl) (AllL.cons_ (rfl) (AllL.cons_ (rfl) (AllL.cons_ (rfl) (AllL.cons_ (rfl) (AllL.cons_ (rfl) (AllL.cons_ (rfl) trivial)))))))))))) (AllL.cons_ (rfl) (AllL.cons_ (rfl) (AllL.cons_ (rfl) (AllL.cons_ (rfl) (AllL.cons_ (rfl) (AllL.cons_ (rfl) trivial)))))) ?_
          exact hGi (hG6_6 b46)
      have hG6_8  : G 22 #[false, false, false, false, false, false, false, false, false, false, false, false, false, false, false, false, false, false, false, false, false, false] (frOf [(1, .slice A1 nb c1), (7, .slice A18 (key.take n ++ List.replicate 65 0#8).length c18), (8, ptr b8 0), (9, .slice A27 (key.take m).length c27), (10, .slice A35 (key.take m ++ List.replicate k 0#8).length c35)]) (hOf [(1, pRow br r b), (8, ⟨true, b8, 0, 25, (sumS (key.take n ++ List.replicate 65 0#8)).map u8V, 0⟩), (11, ⟨true, b18, 0, 5, ((key.take n ++ List.replicate 65 0#8)).map u8V, c18 - ((key.take n ++ List.replicate 65 0#8)).length⟩), (21, ⟨true, b27, 0, 5, ((key.take m)).map u8V, c27 - ((key.take m)).length⟩), (28, ⟨true, b35, 0, 5, ((key.take m ++ List.replicate k 0#8)).map u8V, c35 - ((key.take m ++ List.replicate k 0#8)).length⟩)]) := by
        refine hGo ?_
        refine At.eStep [0] (by kernel_rfl) (by simp) ?_
        refine At.anyS (S_callV (some 41) [] [] (vs := []) rfl en14 rfl V0 (by simp) (c_sums) (by rintro _ _ ⟨rfl, rfl⟩; rfl) ?_)
        rintro _ _ ⟨rfl, rfl⟩
        refine At.eP 1 (some 42) (P_move rfl rfl) (by kernel_rfl) (by kernel_rfl) ?_
        refine At.ePg (tt := 42) (j := 1) (want := true) 2 (some 43) rfl rfl (P_move rfl rfl) (by kernel_rfl) (by kernel_rfl) ?_
        refine At.ePg (tt := 42) (j := 1) (want := true) 3 (some 44) rfl rfl (P_move rfl rfl) (by kernel_rfl) (by kernel_rfl) ?_
        refine At.ePg (tt := 42) (j := 1) (want := true) 6 (some 47) rfl rfl (P_slice_arr1 rfl Try.underlying25 sz5 rfl rfl rfl rfl (by omega) (by omega) (by omega) (by omega)) (by kernel_rfl) (by kernel_rfl) ?_
        refine At.ePg (tt := 42) (j := 1) (want := true) 8 (some 49) rfl rfl (P_move rfl rfl) (by kernel_rfl) (by kernel_rfl) ?_
        refine At.to [(1, .slice A1 nb c1), (7, .slice A18 (key.take n ++ List.replicate 65 0#8).length c18), (8, ptr b8 0), (9, .slice A27 (key.take m).length c27), (10, .slice A35 (key.take m ++ List.replicate k 0#8).length c35), (41, .bool true), (42, .bool true), (43, .slice A18 (key.take n ++ List.replicate 65 0#8).length c18), (44, .slice A1 nb c1), (47, .slice (some ⟨b8, 0, none⟩) 32 32), (49, .slice A1 nb c1)] [(1, pRow br r b), (8, ⟨true, b8, 0, 25, (sumS (key.take n ++ List.replicate 65 0#8)).map u8V, 0⟩), (11, ⟨true, b18, 0, 5, ((key.take n ++ List.replicate 65 0#8)).map u8V, c18 - ((key.take n ++ List.replicate 65 0#8)).length⟩), (21, ⟨true, b27, 0, 5, ((key.take m)).map u8V, c27 - ((key.take m)).length⟩), (28, ⟨true, b35, 0, 5, ((key.take m ++ List.replicate k 0#8)).map u8V, c35 - ((key.take m ++ List.replicate k 0#8)).length⟩)] (AllL.cons_ (rfl) (AllL.cons_ (rfl) (AllL.cons_ (rfl) (AllL.cons_ (rfl) (AllL.cons_ (rfl) (AllL.cons_ (rfl) (AllL.cons_ (rfl) (AllL.cons_ (rfl) (AllL.cons_ (rfl) (AllL.cons_ (rfl) (AllL.cons_ (rfl) trivial))))))))))) (AllL.cons_ (rfl) (AllL.cons_ (rfl) (AllL.cons_ (rfl) (AllL.cons_ (rfl) (AllL.cons_ (rfl) trivial))))) ?_
        exact hGi (hG6_7 )
      refine hGo ?_
      refine At.to [(1, .slice A1 nb c1), (7, .slice A18 (key.take n ++ List.replicate 65 0#8).length c18), (8, ptr b8 0), (9, .slice A27 (key.take m).length c27), (10, .slice A35 (key.take m ++ List.replicate k 0#8).length c35)] [(1, pRow br r b), (8, ⟨true, b8, 0, 25, (sumS (key.take n ++ List.replicate 65 0#8)).map u8V, 0⟩), (11, ⟨true, b18, 0, 5, ((key.take n ++ List.replicate 65 0#8)).map u8V, c18 - ((key.take n ++ List.replicate 65 0#8)).length⟩), (21, ⟨true, b27, 0, 5, ((key.take m)).map u8V, c27 - ((key.take m)).length⟩), (28, ⟨true, b35, 0, 5, ((key.take m ++ List.replicate k 0#8)).map u8V, c35 - ((key.take m ++ List.replicate k 0#8)).length⟩)] (AllL.cons_ (rfl) (AllL.cons_ (rfl) (AllL.cons_ (rfl) (AllL.cons_ (rfl) (AllL.cons_ (rfl) trivial))))) (AllL.cons_ (rfl) (AllL.cons_ (rfl) (AllL.cons_ (rfl) (AllL.cons_ (rfl) (AllL.cons_ (rfl) trivial))))) ?_
      exact hGi (hG6_8 )
    · rintro fr H ⟨rfl, rfl, _⟩
      refine At.next ?_
      refine At.ret ?_
      refine At.give (.inl rfl) [] (rows' := []) (vs := [_]) rfl ⟨rfl, trivial⟩ rfl (by simp) (by simp) ⟨congrArg Value.bool (by rw [mac_more (by omega)]; simp), rfl⟩

theorem len_beq {α : Type} (l : List α) : decide (l.length = 0) = ((l.length : Int) == 0) := by
  cases l with
  | nil => rfl
  | cons a l =>
    rw [decide_eq_false (by simp)]
    symm
    rw [beq_eq_false_iff_ne]
    simp only [List.length_cons]
    omega
theorem same_turn {l : List (BitVec 8)} {k : Nat} (h : k < l.length) (t : BitVec 8) : decide (l = l.set k (l.getD k 0#8 ^^^ t)) = decide (t = 0#8) := by
  have e : l.getD k 0#8 = l[k] := by simp [List.getD_eq_getElem?_getD, h]
  by_cases h0 : t = 0#8
  · subst h0
    rw [e]
    simp
  · rw [decide_eq_false h0, decide_eq_false]
    intro hh
    have h1 := congrArg (fun z : List (BitVec 8) => z[k]?) hh
    simp only [List.getElem?_eq_getElem h] at h1
    rw [List.getElem?_set_self h] at h1
    have h2 : l[k] = l[k] ^^^ t := by rw [e] at h1; exact Option.some.inj h1
    have h3 : l[k] ^^^ l[k] = l[k] ^^^ (l[k] ^^^ t) := congrArg (l[k] ^^^ ·) h2
    rw [← BitVec.xor_assoc, BitVec.xor_self, BitVec.zero_xor] at h3
    exact h0 h3.symm

theorem c_SameN {a b : List (BitVec 8)} {n m : Nat} {A A2 : Option Addr} {ca cb bq q br r : Nat} (hn : a.length = n) (hm : b.length = m) (hA : 0 < n → A = some ⟨bq, q, none⟩) (hB : 0 < m → A2 = some ⟨br, r, none⟩) (hl : n ≤ 281474976710656) : Con Try.prog 17 [.slice A n ca, .slice A2 m cb] [pRow bq q a, pRow br r b] (fun v rs => v = .bool (decide (a = b)) ∧ rs = []) := by
  subst hn hm
  exact c_Same A A2 a b ca cb bq q br r hA hB hl

set_option maxHeartbeats 1000000 in
theorem l_Sames (l : List (BitVec 8)) (z : Int) (t : BitVec 8) (A : Option Addr) (ca bq q : Nat) (hA : 0 < l.length → A = some ⟨bq, q, none⟩) (hca : l.length ≤ ca) (hcr : ca ≤ 140737488351232) :
    Con Try.prog 4 [.slice A l.length ca, iV z, u8V t] [pRow bq q l] (fun v rs => v = .bool true ∧ rs = []) := by
  refine Con.enter Try.func4 Try.ntmps4 (Nat.le_of_ble_eq_true rfl) rfl fun w => ?_
  refine At.seq ?_
  refine At.region ?_
  refine At.p (some 6) (P_assign rfl rfl) ?_
  refine At.nil ?_
  refine At.next ?_
  refine At.seq ?_
  refine At.region ?_
  refine At.s (S_buildSlice0 (some 8) 7 rfl Try.underlying22 sz5 (fun b7 => ?_))
  refine At.p (some 9) (P_move rfl rfl) ?_
  refine At.s (S_appendM (some 10) 7 (l) (f := u8V) (l := []) (L := l) rfl Try.underlying22 Try.underlying22 (.inr ⟨_, rfl⟩) sz5 by5 ze5 rfl rfl (fun h => ⟨absurd h (by omega), rfl⟩) rfl rfl (Src.row (k := 0) (j := 0) rfl hA (fun _ => ⟨rfl, rfl, rfl⟩) (by simp [pRow, List.take_of_length_le]) (by simp)) (fun _ => rfl) (by omega) (by omega) rfl rfl ?_)
  intro A7 b7 c7 g7a g7b
  refine At.p (some 7) (P_assign rfl rfl) ?_
  refine At.nil ?_
  refine At.next ?_
  refine At.seqJ (fun fr H => ∃ (b7 c7 : Nat) (A7 : Option Addr), fr = frOf [(0, .slice A l.length ca), (1, iV z), (2, u8V t), (7, .slice A7 l.length c7)] ∧ H = hOf [(0, pRow bq q l), (7, ⟨true, b7, 0, 5, l.map u8V, c7 - l.length⟩)] ∧ (0 < c7 → A7 = some ⟨b7, 0, none⟩) ∧ l.length ≤ c7) ?_ ?_
  · intro Kj1 hKj1
    refine At.seq ?_
    refine At.region ?_
    refine At.s (S_callV (some 11) [] [] (vs := []) rfl en14 rfl V0 (by simp) (c_sums) (by rintro _ _ ⟨rfl, rfl⟩; rfl) ?_)
    rintro _ _ ⟨rfl, rfl⟩
    refine At.p (some 12) (P_not rfl rfl) ?_
    refine At.p (some 13) (P_move rfl rfl) ?_
    refine At.gy (t := 13) rfl rfl rfl rfl ?_
    refine At.p (some 14) (P_move rfl rfl) ?_
    refine At.gy (t := 13) rfl rfl rfl rfl ?_
    refine At.p (some 15) (P_move rfl rfl) ?_
    refine At.gy (t := 13) rfl rfl rfl rfl ?_
    refine At.s (S_callV (some 16) [(0, _), (7, _)] [] (vs := [_, _]) rfl en17 rfl (VN (by simp) rfl View.all (VN (by simp) rfl View.all V0)) (by simp) (c_SameN (a := l) (b := l) (n := l.length) (m := l.length) rfl rfl hA (fun h => g7a (by omega)) (by omega)) (by rintro _ _ ⟨rfl, rfl⟩; rfl) ?_)
    rintro _ _ ⟨rfl, rfl⟩
    refine At.gy (t := 13) rfl rfl rfl rfl ?_
    refine At.p (some 17) (P_not rfl rfl) ?_
    refine At.p (some 18) (P_pick_f rfl rfl rfl rfl) ?_
    refine At.p (some 19) (P_move rfl rfl) ?_
    refine At.gy (t := 19) rfl (by simp) rfl rfl ?_
    refine At.p (some 20) (P_move rfl rfl) ?_
    refine At.gy (t := 19) rfl (by simp) rfl rfl ?_
    refine At.p (some 21) (P_move rfl rfl) ?_
    refine At.gy (t := 19) rfl (by simp) rfl rfl ?_
    refine At.s (S_buildSliceV (some 22) 22 ([0#8].map u8V) rfl Try.underlying22 sz5 ze5 rfl rfl (by decide) (by decide) rfl rfl (fun b22 => ?_))
    refine At.gy (t := 19) rfl (by simp) rfl rfl ?_
    refine At.s (S_append2M (some 23) 7 23 (l ++ [0#8]) (f := u8V) (l := l) (L := [0#8]) rfl Try.underlying22 Try.underlying22 (.inr ⟨_, rfl⟩) sz5 by5 ze5 rfl rfl (fun h => ⟨g7a h, rfl⟩) rfl (by omega) (Src.row (k := 22) (j := 0) rfl (fun _ => rfl) (fun _ => ⟨rfl, rfl, rfl⟩) rfl rfl) (fun _ => rfl) (by omega) (by omega) rfl rfl (fun gr => ?_) (fun gr b23 c23 g23b => ?_))
    ·
      have hl1 : (l ++ [0#8]).length = l.length + 1 := List.length_append
      refine At.gy (t := 19) rfl (by simp) rfl rfl ?_
      refine At.s (S_callV (some 24) [(0, _), (7, _)] [] (vs := [_, _]) rfl en17 rfl (VN (by simp) rfl View.all (VN (by simp) rfl View.all V0)) (by simp) (c_SameN (a := l) (b := l ++ [0#8]) (n := l.length) (m := (l ++ [0#8]).length) rfl rfl hA (fun h => g7a (by omega)) (by omega)) (by rintro _ _ ⟨rfl, rfl⟩; rfl) ?_)
      rintro _ _ ⟨rfl, rfl⟩
      refine At.p (some 25) (P_pick_f rfl rfl (by simp) rfl) ?_
      refine At.nil ?_
      refine At.forget 7 (cs := l.map u8V) (cs' := [u8V 0#8]) (show some (⟨true, b7, 0, 5, (l ++ [0#8]).map u8V, c7 - (l ++ [0#8]).length⟩ : Row) = _ by rw [List.map_append]; rfl) ?_
      refine At.next ?_
      refine At.cond rfl (fun h25 => by simp at h25) (fun h25 => ?_)
      refine At.skip ?_
      refine At.next ?_
      refine At.to [(0, _), (1, _), (2, _), (7, _)] [(0, _), (7, ⟨true, b7, 0, 5, l.map u8V, c7 - l.length⟩)] (AllL.cons_ (rfl) (AllL.cons_ (rfl) (AllL.cons_ (rfl) (AllL.cons_ (rfl) trivial)))) (AllL.cons_ (rfl) (AllL.cons_ (show some (⟨true, b7, 0, 5, l.map u8V, c7 - (l ++ [0#8]).length + [u8V 0#8].length⟩ : Row) = some ⟨true, b7, 0, 5, l.map u8V, c7 - l.length⟩ by rw [show c7 - (l ++ [0#8]).length + [u8V 0#8].length = c7 - l.length by rw [hl1] at gr ⊢; show c7 - (l.length + 1) + 1 = _; omega]) trivial)) ?_
      exact hKj1 _ _ ⟨_, _, _, rfl, rfl, g7a, g7b⟩
    ·
      refine At.gy (t := 19) rfl (by simp) rfl rfl ?_
      refine At.s (S_callV (some 24) [(0, _), (23, _)] [] (vs := [_, _]) rfl en17 rfl (VN (by simp) rfl View.all (VN (by simp) rfl View.all V0)) (by simp) (c_SameN (a := l) (b := l ++ [0#8]) (n := l.length) (m := (l ++ [0#8]).length) rfl rfl hA (fun _ => rfl) (by omega)) (by rintro _ _ ⟨rfl, rfl⟩; rfl) ?_)
      rintro _ _ ⟨rfl, rfl⟩
      refine At.p (some 25) (P_pick_f rfl rfl (by simp) rfl) ?_
      refine At.nil ?_
      refine At.next ?_
      refine At.cond rfl (fun h25 => by simp at h25) (fun h25 => ?_)
      refine At.skip ?_
      refine At.next ?_
      refine At.to [(0, _), (1, _), (2, _), (7, _)] [(0, _), (7, _)] (AllL.cons_ (rfl) (AllL.cons_ (rfl) (AllL.cons_ (rfl) (AllL.cons_ (rfl) trivial)))) (AllL.cons_ (rfl) (AllL.cons_ (rfl) trivial)) ?_
      exact hKj1 _ _ ⟨_, _, _, rfl, rfl, g7a, g7b⟩
  · rintro fr H ⟨b7, c7, A7, rfl, rfl, g7a, g7b⟩
    refine At.seqJ (fun fr H => ∃ (L : List (BitVec 8)) (b7 c7 : Nat) (A7 : Option Addr), fr = frOf [(0, .slice A l.length ca), (2, u8V t), (7, .slice A7 L.length c7)] ∧ H = hOf [(0, pRow bq q l), (7, ⟨true, b7, 0, 5, L.map u8V, c7 - L.length⟩)] ∧ L.length = l.length ∧ decide (l = L) = (decide (t = 0#8) || decide (l.length = 0)) ∧ (0 < c7 → A7 = some ⟨b7, 0, none⟩) ∧ L.length ≤ c7) ?_ ?_
    · intro Kj2 hKj2
      refine At.seq ?_
      refine At.region ?_
      refine At.p (some 26) (P_move rfl rfl) ?_
      refine At.p (some 27) (P_len_sl rfl rfl ⟨_, Try.underlying22⟩ rfl) ?_
      refine At.p (some 28) (P_cmp rfl rfl rfl rfl rfl rfl) ?_
      refine At.nil ?_
      refine At.next ?_
      refine At.cond rfl (fun h28 => ?_) (fun h28 => ?_)
      · -- cond 28 t
        have hp : 0 < l.length := by simp at h28; omega
        have hmt : (BitVec.ofInt 64 (l.length : Int)).toNat = l.length := by rw [BitVec.toNat_ofInt]; omega
        have hm0 : BitVec.ofInt 64 (l.length : Int) ≠ 0#64 := fun h => by rw [h] at hmt; simp at hmt; omega
        obtain ⟨k, hk, hke⟩ := umod_nat (BitVec.ofInt 64 z) (BitVec.ofInt 64 (l.length : Int)) (by omega) (by omega)
        rw [hmt] at hk
        refine At.region ?_
        refine At.p (some 29) (P_move rfl rfl) ?_
        refine At.p (some 30) (P_move rfl rfl) ?_
        refine At.p (some 31) (P_conv_iw UK.u64 rfl Try.underlying3 Try.underlying23 rfl) ?_
        refine At.p (some 32) (P_move rfl rfl) ?_
        refine At.p (some 33) (P_len_sl rfl rfl ⟨_, Try.underlying22⟩ rfl) ?_
        refine At.p (some 34) (P_conv_iw UK.u64 rfl Try.underlying3 Try.underlying23 rfl) ?_
        refine At.p (some 35) (P_rem_w UK.u64 rfl rfl rfl hm0) ?_
        refine At.p (some 36) (P_conv_WiE hke rfl Try.underlying23 Try.underlying3 rfl) ?_
        refine At.p (some 37) (P_indexAddr_slz (j := k) rfl Try.underlying22 sz5 rfl (g7a (by omega)) rfl (by omega) (by omega)) ?_
        refine At.q (some 38) (Q_loadM (k := 7) (0#8) rfl rfl Try.underlying5 rfl rfl (by first | omega | (simp <;> omega))) ?_
        refine At.p (some 39) (P_move rfl rfl) ?_
        refine At.p (some 40) (P_xor_w UK.u8 rfl rfl rfl) ?_
        refine At.p (some 41) (P_indexAddr_slz (j := k) rfl Try.underlying22 sz5 rfl (g7a (by omega)) rfl (by omega) (by omega)) ?_
        refine At.s (S_storeM none (f := u8V) (k := 7) rfl rfl rfl sz5 rfl rfl rfl (by first | omega | (simp <;> omega)) ?_)
        refine At.nil ?_
        refine At.next ?_
        refine At.to [(0, _), (2, _), (7, .slice A7 (l.set k (l.getD k 0#8 ^^^ t)).length c7)] [(0, _), (7, ⟨true, b7, 0, 5, (l.set k (l.getD k 0#8 ^^^ t)).map u8V, c7 - (l.set k (l.getD k 0#8 ^^^ t)).length⟩)] (AllL.cons_ (rfl) (AllL.cons_ (rfl) (AllL.cons_ (by rw [List.length_set]; rfl) trivial))) (AllL.cons_ (rfl) (AllL.cons_ (by rw [List.length_set]; rfl) trivial)) ?_
        exact hKj2 _ _ ⟨(l.set k (l.getD k 0#8 ^^^ t)), _, _, _, rfl, rfl, List.length_set, by rw [same_turn hk, show decide (l.length = 0) = false from decide_eq_false (by omega), Bool.or_false], g7a, by rw [List.length_set]; exact g7b⟩
      · -- cond 28 f
        have h0 : l.length = 0 := by first | (simp at h28; omega) | (simp at h28; simp [h28])
        refine At.skip ?_
        refine At.next ?_
        refine At.to [(0, _), (2, _), (7, _)] [(0, _), (7, _)] (AllL.cons_ (rfl) (AllL.cons_ (rfl) (AllL.cons_ (rfl) trivial))) (AllL.cons_ (rfl) (AllL.cons_ (rfl) trivial)) ?_
        exact hKj2 _ _ ⟨l, _, _, _, rfl, rfl, rfl, by rw [decide_eq_true rfl, decide_eq_true h0, Bool.or_true], g7a, g7b⟩
    · rintro fr H ⟨L, b7, c7, A7, rfl, rfl, hLl, hLe, g7a, g7b⟩
      refine At.seq ?_
      refine At.region ?_
      refine At.p (some 42) (P_move rfl rfl) ?_
      refine At.p (some 43) (P_move rfl rfl) ?_
      refine At.s (S_callV (some 44) [(0, _), (7, _)] [] (vs := [_, _]) rfl en17 rfl (VN (by simp) rfl View.all (VN (by simp) rfl View.all V0)) (by simp) (c_SameN (a := l) (b := L) (n := l.length) (m := L.length) rfl rfl hA (fun h => g7a (by omega)) (by omega)) (by rintro _ _ ⟨rfl, rfl⟩; rfl) ?_)
      rintro _ _ ⟨rfl, rfl⟩
      refine At.p (some 45) (P_move rfl rfl) ?_
      refine At.p (some 46) (P_eql_w (n := 8) (b := 0#8) rfl rfl rfl) ?_
      refine At.p (some 47) (P_move rfl rfl) ?_
      refine At.gsplit (t := 47) (want := false) rfl (fun g1 => ?_) (fun g1 => ?_)
      ·
        refine At.gy (t := 47) rfl g1 rfl rfl ?_
        refine At.p (some 48) (P_move rfl rfl) ?_
        refine At.gy (t := 47) rfl g1 rfl rfl ?_
        refine At.p (some 49) (P_len_sl rfl rfl ⟨_, Try.underlying22⟩ rfl) ?_
        refine At.gy (t := 47) rfl g1 rfl rfl ?_
        refine At.p (some 50) (P_cmp rfl rfl rfl rfl rfl rfl) ?_
        refine At.p (some 51) (P_pick_f rfl rfl g1 rfl) ?_
        refine At.p (some 52) (P_eql_bool rfl Try.underlying4 rfl rfl) ?_
        refine At.p (some 53) (P_move rfl rfl) ?_
        refine At.gy (t := 53) rfl (by simp only [hLe]; first | (simp at g1; simp [g1]; done) | (simp at g1; simp only [decide_eq_false g1, Bool.false_or]; rw [Bool.beq_eq_decide_eq]; simp only [decide_eq_true_eq]; exact len_beq l)) rfl rfl ?_
        refine At.p (some 54) (P_move rfl rfl) ?_
        refine At.gy (t := 53) rfl (by simp only [hLe]; first | (simp at g1; simp [g1]; done) | (simp at g1; simp only [decide_eq_false g1, Bool.false_or]; rw [Bool.beq_eq_decide_eq]; simp only [decide_eq_true_eq]; exact len_beq l)) rfl rfl ?_
        refine At.p (some 55) (P_move rfl rfl) ?_
        refine At.gy (t := 53) rfl (by simp only [hLe]; first | (simp at g1; simp [g1]; done) | (simp at g1; simp only [decide_eq_false g1, Bool.false_or]; rw [Bool.beq_eq_decide_eq]; simp only [decide_eq_true_eq]; exact len_beq l)) rfl rfl ?_
        refine At.s (S_callV (some 56) [(7, _), (0, _)] [] (vs := [_, _]) rfl en17 rfl (VN (by simp) rfl View.all (VN (by simp) rfl View.all V0)) (by simp) (c_SameN (a := L) (b := l) (n := L.length) (m := l.length) rfl rfl (fun h => g7a (by omega)) hA (by omega)) (by rintro _ _ ⟨rfl, rfl⟩; rfl) ?_)
        rintro _ _ ⟨rfl, rfl⟩
        refine At.gy (t := 53) rfl (by simp only [hLe]; first | (simp at g1; simp [g1]; done) | (simp at g1; simp only [decide_eq_false g1, Bool.false_or]; rw [Bool.beq_eq_decide_eq]; simp only [decide_eq_true_eq]; exact len_beq l)) rfl rfl ?_
        refine At.p (some 57) (P_move rfl rfl) ?_
        refine At.gy (t := 53) rfl (by simp only [hLe]; first | (simp at g1; simp [g1]; done) | (simp at g1; simp only [decide_eq_false g1, Bool.false_or]; rw [Bool.beq_eq_decide_eq]; simp only [decide_eq_true_eq]; exact len_beq l)) rfl rfl ?_
        refine At.p (some 58) (P_move rfl rfl) ?_
        refine At.gy (t := 53) rfl (by simp only [hLe]; first | (simp at g1; simp [g1]; done) | (simp at g1; simp only [decide_eq_false g1, Bool.false_or]; rw [Bool.beq_eq_decide_eq]; simp only [decide_eq_true_eq]; exact len_beq l)) rfl rfl ?_
        refine At.s (S_callV (some 59) [(0, _), (7, _)] [] (vs := [_, _]) rfl en17 rfl (VN (by simp) rfl View.all (VN (by simp) rfl View.all V0)) (by simp) (c_SameN (a := l) (b := L) (n := l.length) (m := L.length) rfl rfl hA (fun h => g7a (by omega)) (by omega)) (by rintro _ _ ⟨rfl, rfl⟩; rfl) ?_)
        rintro _ _ ⟨rfl, rfl⟩
        refine At.gy (t := 53) rfl (by simp only [hLe]; first | (simp at g1; simp [g1]; done) | (simp at g1; simp only [decide_eq_false g1, Bool.false_or]; rw [Bool.beq_eq_decide_eq]; simp only [decide_eq_true_eq]; exact len_beq l)) rfl rfl ?_
        refine At.p (some 60) (P_eql_bool rfl Try.underlying4 rfl rfl) ?_
        refine At.p (some 61) (P_pick_t rfl rfl (by simp only [hLe]; first | (simp at g1; simp [g1]; done) | (simp at g1; simp only [decide_eq_false g1, Bool.false_or]; rw [Bool.beq_eq_decide_eq]; simp only [decide_eq_true_eq]; exact len_beq l)) rfl) ?_
        refine At.p (some 6) (P_assign rfl rfl) ?_
        refine At.nil ?_
        refine At.next ?_
        refine At.ret ?_
        refine At.give (.inl rfl) [] (rows' := []) (vs := [_]) rfl ⟨rfl, trivial⟩ rfl (by simp) (by simp) ⟨congrArg Value.bool (by simp [eq_comm]), rfl⟩
      ·
        refine At.gn (some 48) (t := 47) rfl g1 rfl rfl ?_
        refine At.gn (some 49) (t := 47) rfl g1 rfl rfl ?_
        refine At.gn (some 50) (t := 47) rfl g1 rfl rfl ?_
        refine At.p (some 51) (P_pick_t rfl rfl g1 rfl) ?_
        refine At.p (some 52) (P_eql_bool rfl Try.underlying4 rfl rfl) ?_
        refine At.p (some 53) (P_move rfl rfl) ?_
        refine At.gy (t := 53) rfl (by simp only [hLe]; first | (simp at g1; simp [g1]; done) | (simp at g1; simp only [decide_eq_false g1, Bool.false_or]; rw [Bool.beq_eq_decide_eq]; simp only [decide_eq_true_eq]; exact len_beq l)) rfl rfl ?_
        refine At.p (some 54) (P_move rfl rfl) ?_
        refine At.gy (t := 53) rfl (by simp only [hLe]; first | (simp at g1; simp [g1]; done) | (simp at g1; simp only [decide_eq_false g1, Bool.false_or]; rw [Bool.beq_eq_decide_eq]; simp only [decide_eq_true_eq]; exact len_beq l)) rfl rfl ?_
        refine At.p (some 55) (P_move rfl rfl) ?_
        refine At.gy (t := 53) rfl (by simp only [hLe]; first | (simp at g1; simp [g1]; done) | (simp at g1; simp only [decide_eq_false g1, Bool.false_or]; rw [Bool.beq_eq_decide_eq]; simp only [decide_eq_true_eq]; exact len_beq l)) rfl rfl ?_
        refine At.s (S_callV (some 56) [(7, _), (0, _)] [] (vs := [_, _]) rfl en17 rfl (VN (by simp) rfl View.all (VN (by simp) rfl View.all V0)) (by simp) (c_SameN (a := L) (b := l) (n := L.length) (m := l.length) rfl rfl (fun h => g7a (by omega)) hA (by omega)) (by rintro _ _ ⟨rfl, rfl⟩; rfl) ?_)
        rintro _ _ ⟨rfl, rfl⟩
        refine At.gy (t := 53) rfl (by simp only [hLe]; first | (simp at g1; simp [g1]; done) | (simp at g1; simp only [decide_eq_false g1, Bool.false_or]; rw [Bool.beq_eq_decide_eq]; simp only [decide_eq_true_eq]; exact len_beq l)) rfl rfl ?_
        refine At.p (some 57) (P_move rfl rfl) ?_
        refine At.gy (t := 53) rfl (by simp only [hLe]; first | (simp at g1; simp [g1]; done) | (simp at g1; simp only [decide_eq_false g1, Bool.false_or]; rw [Bool.beq_eq_decide_eq]; simp only [decide_eq_true_eq]; exact len_beq l)) rfl rfl ?_
        refine At.p (some 58) (P_move rfl rfl) ?_
        refine At.gy (t := 53) rfl (by simp only [hLe]; first | (simp at g1; simp [g1]; done) | (simp at g1; simp only [decide_eq_false g1, Bool.false_or]; rw [Bool.beq_eq_decide_eq]; simp only [decide_eq_true_eq]; exact len_beq l)) rfl rfl ?_
        refine At.s (S_callV (some 59) [(0, _), (7, _)] [] (vs := [_, _]) rfl en17 rfl (VN (by simp) rfl View.all (VN (by simp) rfl View.all V0)) (by simp) (c_SameN (a := l) (b := L) (n := l.length) (m := L.length) rfl rfl hA (fun h => g7a (by omega)) (by omega)) (by rintro _ _ ⟨rfl, rfl⟩; rfl) ?_)
        rintro _ _ ⟨rfl, rfl⟩
        refine At.gy (t := 53) rfl (by simp only [hLe]; first | (simp at g1; simp [g1]; done) | (simp at g1; simp only [decide_eq_false g1, Bool.false_or]; rw [Bool.beq_eq_decide_eq]; simp only [decide_eq_true_eq]; exact len_beq l)) rfl rfl ?_
        refine At.p (some 60) (P_eql_bool rfl Try.underlying4 rfl rfl) ?_
        refine At.p (some 61) (P_pick_t rfl rfl (by simp only [hLe]; first | (simp at g1; simp [g1]; done) | (simp at g1; simp only [decide_eq_false g1, Bool.false_or]; rw [Bool.beq_eq_decide_eq]; simp only [decide_eq_true_eq]; exact len_beq l)) rfl) ?_
        refine At.p (some 6) (P_assign rfl rfl) ?_
        refine At.nil ?_
        refine At.next ?_
        refine At.ret ?_
        refine At.give (.inl rfl) [] (rows' := []) (vs := [_]) rfl ⟨rfl, trivial⟩ rfl (by simp) (by simp) ⟨congrArg Value.bool (by simp [eq_comm]), rfl⟩
end Go.Proofs.Ytdkeadfhejkidaa
