import Derived.Test.YtdkeadfhejkidaaXS2
import Derived.Test.YtdkeadfhejkidaaLN
import Derived.Test.YtdkeadfhejkidaaSE20
import Derived.Test.YtdkeadfhejkidaaSE25
import Derived.Test.YtdkeadfhejkidaaSE29
import Derived.Test.YtdkeadfhejkidaaSE34
namespace Go.Proofs.Ytdkeadfhejkidaa
set_option maxRecDepth 20000
set_option linter.unusedVariables false
set_option linter.unusedSimpArgs false
open Go.SE Go.RowKit
attribute [local irreducible] sumS macS

set_option maxHeartbeats 2000000 in
theorem c_sums   :
    Con Try.prog 14 [] [] (fun v rs => v = .bool true ∧ rs = []) := by
  refine Con.enter Try.func14 Try.ntmps14 (Nat.le_of_ble_eq_true rfl) rfl fun w => ?_
  refine At.seq ?_
  have hs1 := sumS_len abc
  refine At.region ?_
  refine At.p (some 0) (P_assign rfl rfl) ?_
  refine At.nil ?_
  refine At.next ?_
  refine At.seq ?_
  refine At.region ?_
  refine At.s (S_buildSliceV (some 2) 2 ((abc).map u8V) rfl Try.underlying22 sz5 ze5 rfl rfl (by decide) (by decide) rfl ⟨rfl, rfl, rfl⟩ (fun b2 => ?_))
  refine At.s (S_convB (some 3) (k := 2) rfl Try.underlying22 Try.underlying5 rfl rfl (by simp) ?_)
  refine At.s (S_callV (some 4) [(2, _)] [] (vs := [_]) rfl en15 rfl (VN (by simp) rfl View.all V0) (by simp) (c_SumN (l := abc) (n := 3) (A := (some ⟨b2, 0, none⟩)) (bq := b2) (q := 0) LN (fun _ => rfl) OG) (by rintro _ _ ⟨rfl, rfl⟩; rfl) ?_)
  rintro _ _ ⟨rfl, rfl⟩
  have := sumS_len abc
  refine At.s (S_alloc (some 1) 1 (zs := (List.replicate 32 0#8).map u8V) rfl ze25 rfl (fun b1 => ?_))
  refine At.s (S_storeA none (k := 1) (vs := (sumS abc).map u8V) rfl rfl rfl (by rw [sz25]; exact congrArg some LN) rfl (one_map (fun _ => rfl)) NG rfl LN ?_)
  refine At.nil ?_
  refine At.next ?_
  refine At.seq ?_
  refine At.draws 16 [] [.q false [0, 1, 2, 3, 4, 5, 6, 7, 8, 9, 10, 11, 12, 13, 14, 15]] (by kernel_rfl) (by kernel_rfl) ?_
  refine At.wp (some 5) (P_indexAddr_arr1 (j := 0) rfl Try.underlying25 sz5 rfl rfl rfl (by decide)) ?_
  refine At.wq (some 6) (Q_loadM (k := 1) (f := u8V) (l := (sumS abc)) (0#8) rfl rfl Try.underlying5 rfl rfl OG) ?_
  refine At.wp (some 7) (P_eql_w (n := 8) (b := 186#8) rfl rfl rfl) ?_
  refine At.wp (some 8) (P_move rfl rfl) ?_
  refine At.wgy (some 9) (t := 8) rfl (by rw [abc_sum]; rfl) rfl rfl (P_indexAddr_arr1 (j := 1) rfl Try.underlying25 sz5 rfl rfl rfl (by decide)) ?_
  refine At.wgyq (some 10) (t := 8) rfl (by rw [abc_sum]; rfl) rfl rfl (Q_loadM (k := 1) (f := u8V) (l := (sumS abc)) (0#8) rfl rfl Try.underlying5 rfl rfl OG) ?_
  refine At.wgy (some 11) (t := 8) rfl (by rw [abc_sum]; rfl) rfl rfl (P_eql_w (n := 8) (b := 120#8) rfl rfl rfl) ?_
  refine At.wp (some 12) (P_pick_t rfl rfl (by rw [abc_sum]; rfl) rfl) ?_
  refine At.wp (some 13) (P_move rfl rfl) ?_
  refine At.wgy (some 14) (t := 13) rfl (by rw [abc_sum]; rfl) rfl rfl (P_indexAddr_arr1 (j := 31) rfl Try.underlying25 sz5 rfl rfl rfl (by decide)) ?_
  refine At.wgyq (some 15) (t := 13) rfl (by rw [abc_sum]; rfl) rfl rfl (Q_loadM (k := 1) (f := u8V) (l := (sumS abc)) (0#8) rfl rfl Try.underlying5 rfl rfl OG) ?_
  refine At.wgy (some 16) (t := 13) rfl (by rw [abc_sum]; rfl) rfl rfl (P_eql_w (n := 8) (b := 173#8) rfl rfl rfl) ?_
  refine At.wp (some 17) (P_pick_t rfl rfl (by rw [abc_sum]; rfl) rfl) ?_
  refine At.wp (some 18) (P_move rfl rfl) ?_
  refine At.wgy (some 19) (t := 18) rfl (by rw [abc_sum]; rfl) rfl rfl (P_slice_arr1 (l := 0) (h := 32) (m := 32) rfl Try.underlying25 sz5 rfl rfl rfl rfl DO DO DO DO) ?_
  refine At.wgy (some 20) (t := 18) rfl (by rw [abc_sum]; rfl) rfl rfl (P_slice_arr1 (l := 0) (h := 32) (m := 32) rfl Try.underlying25 sz5 rfl rfl rfl rfl DO DO DO DO) ?_
  refine At.wqn ?_
  refine At.wt rfl ?_
  refine At.gy (t := 18) rfl (by rw [abc_sum]; rfl) rfl rfl ?_
  refine At.s (S_callV (some 21) [(1, _), (1, _)] [] (vs := [_, _]) rfl en17 rfl (VN (by simp) rfl View.all (VN (by simp) rfl View.all V0)) (by simp) (c_SameN (a := (sumS abc)) (n := 32) (A := (some ⟨b1, 0, none⟩)) (bq := b1) (q := 0) (b := (sumS abc)) (m := 32) (A2 := (some ⟨b1, 0, none⟩)) (br := b1) (r := 0) LN LN (fun _ => rfl) (fun _ => rfl) OG) (by rintro _ _ ⟨rfl, rfl⟩; rfl) ?_)
  rintro _ _ ⟨rfl, rfl⟩
  refine At.p (some 22) (P_pick_t rfl rfl (by rw [abc_sum]; rfl) rfl) ?_
  refine At.p (some 0) (P_assign rfl rfl) ?_
  refine At.nil ?_
  refine At.next ?_
  refine At.ret ?_
  have hq0 : (decide ((sumS abc) = (sumS abc))) = true := (by simp)
  refine At.give (.inl rfl) [] (rows' := []) (vs := [_]) rfl ⟨rfl, trivial⟩ rfl (by simp) (by simp) ⟨(by first | (rw [hq0]; try rfl; done) | (rw [← hq0]; try rfl; done) | (simp only [hq0]; try rfl; done) | (simp only [← hq0]; try rfl; done) | rfl), (by first | (rw [hq0]; try rfl; done) | (rw [← hq0]; try rfl; done) | (simp only [hq0]; try rfl; done) | (simp only [← hq0]; try rfl; done) | rfl)⟩

set_option maxHeartbeats 2000000 in
theorem l_Lengths {b : BitVec 8} {n : Int}  :
    Con Try.prog 5 [u8V b, iV n] [] (fun v rs => v = .bool true ∧ rs = []) := by
  refine Con.enter Try.func5 Try.ntmps5 (Nat.le_of_ble_eq_true rfl) rfl fun w => ?_
  refine At.seq ?_
  refine At.region ?_
  refine At.p (some 4) (P_assign rfl rfl) ?_
  refine At.nil ?_
  refine At.next ?_
  refine At.seq ?_
  refine At.region ?_
  refine At.p (some 10) (P_move rfl rfl) ?_
  refine At.p (some 11) (P_conv_iw UK.u64 rfl Try.underlying3 Try.underlying23 rfl) ?_
  refine At.p (some 12) (P_rem_w UK.u64 (b := 140#64) rfl rfl rfl (by decide)) ?_
  obtain ⟨k13, hk13, hek13, hdk13⟩ := umod_c ((BitVec.ofInt 64 n)) 140#64 (by decide) (by decide)
  have hk13 : k13 < 140 := hk13
  refine At.p (some 13) (P_conv_WiE hek13 rfl Try.underlying23 Try.underlying3 rfl) ?_
  refine At.p (some 5) (P_assign rfl rfl) ?_
  refine At.nil ?_
  refine At.next ?_
  refine At.seq ?_
  refine At.region ?_
  refine At.p (some 14) (P_move rfl rfl) ?_
  refine At.s (S_makeN (some 15) 15 (n := k13) (cs := ((List.replicate k13 0#8)).map u8V) rfl Try.underlying22 sz5 by5 ze5 rfl rfl (by omega) (by omega) (by omega) (by omega) ((made_one (n := k13) (by omega)).trans (by rw [List.map_replicate]; rfl)) (fun b15 => ?_))
  refine At.p (some 6) (P_assign rfl rfl) ?_
  refine At.nil ?_
  refine At.next ?_
  refine At.seq ?_
  refine At.seq ?_
  refine At.region ?_
  refine At.p (some 7) (P_assign rfl rfl) ?_
  refine At.nil ?_
  refine At.next ?_
  refine At.block ?_
  refine At.loopx (I := fun m fr H => ∃ (i : Nat), m = k13 - i ∧ fr = frOf [(0, u8V b), (1, iV n), (4, .bool false), (5, iV (k13 : Int)), (6, .slice (some ⟨b15, 0, none⟩) k13 k13), (7, iV (i : Int)), (10, iV n), (11, u64V (BitVec.ofInt 64 n)), (12, u64V ((BitVec.ofInt 64 n) % 140#64)), (13, iV (k13 : Int)), (14, iV (k13 : Int)), (15, .slice (some ⟨b15, 0, none⟩) k13 k13)] ∧ H = hOf [(15, ⟨true, b15, 0, 5, ((fillT b k13 i)).map u8V, 0⟩)] ∧ (i ≤ k13)) ?_ ?_
  · intro Kc0 hKc0
    refine At.to [(0, _), (1, _), (4, _), (5, _), (6, _), (7, _), (10, _), (11, _), (12, _), (13, _), (14, _), (15, _)] [(15, ⟨true, b15, 0, 5, ((fillT b k13 0)).map u8V, 0⟩)] (AllL.cons_ (rfl) (AllL.cons_ (rfl) (AllL.cons_ (rfl) (AllL.cons_ (rfl) (AllL.cons_ (rfl) (AllL.cons_ (rfl) (AllL.cons_ (rfl) (AllL.cons_ (rfl) (AllL.cons_ (rfl) (AllL.cons_ (rfl) (AllL.cons_ (rfl) (AllL.cons_ (rfl) trivial)))))))))))) (AllL.cons_ ((by rw [fillT_0]; rfl)) trivial) ?_
    exact hKc0 _ _ _ ⟨0, rfl, rfl, rfl, (by omega)⟩
  · rintro m fr H ⟨i, rfl, rfl, rfl, hi⟩ Kc0 hKc0
    have hfl := fillT_len b hi
    refine At.seq ?_
    refine At.seq ?_
    refine At.region ?_
    refine At.p (some 16) (P_move rfl rfl) ?_
    refine At.p (some 17) (P_move rfl rfl) ?_
    refine At.p (some 18) (P_cmp rfl rfl rfl rfl rfl rfl) ?_
    refine At.nil ?_
    refine At.next ?_
    refine At.cond rfl (fun h18 => ?_) (fun h18 => ?_)
    · -- cond 18 t
      have e18 : (i : Int) < (k13 : Int) := of_decide_eq_true h18
      refine At.skip ?_
      refine At.next ?_
      refine At.seq ?_
      refine At.block ?_
      refine At.region ?_
      refine At.p (some 21) (P_move rfl rfl) ?_
      refine At.p (some 22) (P_move rfl rfl) ?_
      refine At.p (some 23) (P_move rfl rfl) ?_
      refine At.p (some 24) (P_indexAddr_slz (b := b15) (j := i) rfl Try.underlying22 sz5 rfl ((fun _ => rfl) OG) rfl RO OG) ?_
      refine At.s (S_storeM none (f := u8V) (l := (fillT b k13 i)) (u := b) (k := 15) rfl rfl rfl sz5 rfl rfl rfl OG ?_)
      refine At.nil ?_
      refine At.inb_n ?_
      refine At.next ?_
      refine At.region ?_
      refine At.p (some 19) (P_move rfl rfl) ?_
      refine At.p (some 20) (P_add_i rfl rfl rfl (by omega)) ?_
      refine At.p (some 7) (P_assign rfl rfl) ?_
      refine At.nil ?_
      refine At.next ?_
      refine At.to [(0, _), (1, _), (4, _), (5, _), (6, _), (7, _), (10, _), (11, _), (12, _), (13, _), (14, _), (15, _)] [(15, ⟨true, b15, 0, 5, ((fillT b k13 (i + 1))).map u8V, 0⟩)] (AllL.cons_ (rfl) (AllL.cons_ (rfl) (AllL.cons_ (rfl) (AllL.cons_ (rfl) (AllL.cons_ (rfl) (AllL.cons_ (rfl) (AllL.cons_ (rfl) (AllL.cons_ (rfl) (AllL.cons_ (rfl) (AllL.cons_ (rfl) (AllL.cons_ (rfl) (AllL.cons_ (rfl) trivial)))))))))))) (AllL.cons_ ((by rw [← fillT_set (by omega)]; rfl)) trivial) ?_
      exact hKc0 _ _ _ (by omega) ⟨i + 1, rfl, rfl, rfl, (by omega)⟩
    · -- cond 18 f
      have e18 : ¬ (i : Int) < (k13 : Int) := of_decide_eq_false h18
      refine At.exit ?_
      refine At.thn_e ?_
      refine At.thn_e ?_
      refine At.inb_hit ?_
      refine At.next ?_
      refine At.seq ?_
      obtain rfl : k13 = i := by omega
      have hs1 := sumS_len (fillT b k13 k13)
      have hs2 := sumS_len (fillT b k13 k13 ++ [b])
      refine At.region ?_
      refine At.p (some 25) (P_move rfl rfl) ?_
      refine At.s (S_callV (some 26) [(15, _)] [] (vs := [_]) rfl en15 rfl (VN (by simp) rfl View.all V0) (by simp) (c_SumN (l := (fillT b k13 k13)) (n := k13) (A := (some ⟨b15, 0, none⟩)) (bq := b15) (q := 0) LN (fun _ => rfl) OG) (by rintro _ _ ⟨rfl, rfl⟩; rfl) ?_)
      rintro _ _ ⟨rfl, rfl⟩
      have := sumS_len (fillT b k13 k13)
      refine At.s (S_alloc (some 8) 8 (zs := (List.replicate 32 0#8).map u8V) rfl ze25 rfl (fun b8 => ?_))
      refine At.s (S_storeA none (k := 8) (vs := (sumS (fillT b k13 k13)).map u8V) rfl rfl rfl (by rw [sz25]; exact congrArg some LN) rfl (one_map (fun _ => rfl)) NG rfl LN ?_)
      refine At.nil ?_
      refine At.next ?_
      refine At.seq ?_
      refine At.region ?_
      refine At.p (some 27) (P_move rfl rfl) ?_
      refine At.p (some 28) (P_move rfl rfl) ?_
      refine At.s (S_buildSliceV (some 29) 29 (([b]).map u8V) rfl Try.underlying22 sz5 ze5 rfl rfl (by decide) (by decide) rfl rfl (fun b29 => ?_))
      refine At.s (S_appendV (some 30) 30 (((fillT b k13 k13) ++ [b])) (f := u8V) (l := (fillT b k13 k13)) (L := [b]) (m := 1) rfl Try.underlying22 Try.underlying22 (.inr ⟨_, rfl⟩) sz5 by5 ze5 rfl rfl (Src.all (k := 15) (l := (fillT b k13 k13)) rfl (fun _ => rfl) (fun _ => ⟨rfl, rfl, rfl⟩) LN) OG (Src.all (k := 29) (l := [b]) rfl (fun _ => rfl) (fun _ => ⟨rfl, rfl, rfl⟩) LN) OG OG rfl ?_)
      intro b30 c30 g30b
      refine At.s (S_callV (some 31) [(30, _)] [] (vs := [_]) rfl en15 rfl (VN (by simp) rfl View.all V0) (by simp) (c_SumN (l := ((fillT b k13 k13) ++ [b])) (n := (((fillT b k13 k13) ++ [b]).length)) (A := (some ⟨b30, 0, none⟩)) (bq := b30) (q := 0) LN (fun _ => rfl) OG) (by rintro _ _ ⟨rfl, rfl⟩; rfl) ?_)
      rintro _ _ ⟨rfl, rfl⟩
      have := sumS_len ((fillT b k13 k13) ++ [b])
      refine At.s (S_alloc (some 9) 9 (zs := (List.replicate 32 0#8).map u8V) rfl ze25 rfl (fun b9 => ?_))
      refine At.s (S_storeA none (k := 9) (vs := (sumS ((fillT b k13 k13) ++ [b])).map u8V) rfl rfl rfl (by rw [sz25]; exact congrArg some LN) rfl (one_map (fun _ => rfl)) NG rfl LN ?_)
      refine At.nil ?_
      refine At.next ?_
      refine At.seq ?_
      have := sumS_len (fillT b k13 k13)
      have := sumS_len ((fillT b k13 k13) ++ [b])
      refine At.bBruteG [12] (fun fr H => ∃ (b43 : Nat) (b44 c44 : Nat), fr = frOf [(4, .bool (!((sumS (fillT b k13 k13)) == (sumS ((fillT b k13 k13) ++ [b])))))] ∧ H = hOf [] ∧ (((fillT b k13 k13) ++ [b]).length ≤ c44) ∧ True) (by kernel_rfl) ?_ ?_
      · intro Kb hKb G hGi hGo
        have hG9_0 (b43 : Nat) (b44 c44 : Nat) (g44b : ((fillT b k13 k13) ++ [b]).length ≤ c44) : G 0 #[true, true, true, true, true, true, true, true, true, true, true, true, true, true, true, true, true, true, true, true, true, true] (frOf [(4, .bool (!((sumS (fillT b k13 k13)) == (sumS ((fillT b k13 k13) ++ [b])))))]) (hOf []) := by
          refine hGo ?_
          refine At.bEnd (by kernel_rfl) ?_
          refine At.next ?_
          exact hKb _ _ ⟨b43, b44, c44, rfl, rfl, g44b, trivial⟩
        have hG9_1 (b43 : Nat) : G 10 #[true, true, true, true, true, true, true, true, true, true, true, true, false, false, false, false, false, false, false, false, false, false] (frOf [(4, .bool false), (8, ptr b8 0), (9, ptr b9 0), (39, .bool ((sumS (fillT b k13 k13)) == (sumS (fillT b k13 k13)))), (40, aggK (sumS ((fillT b k13 k13) ++ [b]))), (41, .slice (some ⟨b15, 0, none⟩) k13 k13), (43, .slice (some ⟨b43, 0, none⟩) 1 1)]) (hOf [(8, ⟨true, b8, 0, 25, (sumS (fillT b k13 k13)).map u8V, 0⟩), (9, ⟨true, b9, 0, 25, (sumS ((fillT b k13 k13) ++ [b])).map u8V, 0⟩), (15, ⟨true, b15, 0, 5, ((fillT b k13 k13)).map u8V, 0⟩), (43, ⟨true, b43, 0, 5, ([b]).map u8V, 0⟩)]) := by
          refine hGo ?_
          refine At.bStep [12] (by kernel_rfl) (by simp) ?_
          refine At.bSg (tt := 39) (j := 7) (want := true) true (by kernel_rfl) rfl (by simp) (S_appendV (some 44) 44 (((fillT b k13 k13) ++ [b])) (f := u8V) (l := (fillT b k13 k13)) (L := [b]) (m := 1) rfl Try.underlying22 Try.underlying22 (.inr ⟨_, rfl⟩) sz5 by5 ze5 rfl rfl (Src.all (k := 15) (l := (fillT b k13 k13)) rfl (fun _ => rfl) (fun _ => ⟨rfl, rfl, rfl⟩) LN) OG (Src.all (k := 43) (l := [b]) rfl (fun _ => rfl) (fun _ => ⟨rfl, rfl, rfl⟩) LN) OG OG rfl ?_)
          intro b44 c44 g44b
          refine At.bCg (tt := 39) (j := 7) (want := true) 13 (some 45) [(44, _)] (vs := [_]) rfl (by simp) (by kernel_rfl) (by kernel_rfl) rfl en16 rfl (VN (by simp) rfl View.all V0) (r_SumN (l := ((fillT b k13 k13) ++ [b])) (n := (((fillT b k13 k13) ++ [b]).length)) (A := (some ⟨b44, 0, none⟩)) (bq := b44) (q := 0) LN (fun _ => rfl) OG) ?_
          refine At.bPg (tt := 39) (j := 7) (want := true) 14 (some 46) rfl (by simp) (P_eql_arr (k := .u8) (xs := (sumS ((fillT b k13 k13) ++ [b]))) (ys := (sumS ((fillT b k13 k13) ++ [b]))) rfl Try.underlying25 Try.underlying5 sz5 Try.eqGuardType25 rfl rfl LN LN) (by kernel_rfl) (by kernel_rfl) ?_
          refine At.bP  15 (some 47) (P_pick_t rfl rfl (by simp) rfl) (by kernel_rfl) (by kernel_rfl) ?_
          refine At.bP  16 (some 48) (P_move rfl rfl) (by kernel_rfl) (by kernel_rfl) ?_
          refine At.bQg (tt := 48) (j := 16) (want := true) 17 (some 49) rfl (by simp) (Q_loadA (k := 8) rfl rfl Try.underlying25 rfl sz25 LN rfl) (by kernel_rfl) (by kernel_rfl) ?_
          refine At.bQg (tt := 48) (j := 16) (want := true) 18 (some 50) rfl (by simp) (Q_loadA (k := 9) rfl rfl Try.underlying25 rfl sz25 LN rfl) (by kernel_rfl) (by kernel_rfl) ?_
          refine At.bPg (tt := 48) (j := 16) (want := true) 19 (some 51) rfl (by simp) (P_neq_arr (k := .u8) (xs := (sumS (fillT b k13 k13))) (ys := (sumS ((fillT b k13 k13) ++ [b]))) rfl Try.underlying25 Try.underlying5 sz5 Try.eqGuardType25 rfl rfl LN LN) (by kernel_rfl) (by kernel_rfl) ?_
          refine At.bP  20 (some 52) (P_pick_t rfl rfl (by simp) rfl) (by kernel_rfl) (by kernel_rfl) ?_
          refine At.bP  21 (some 4) (P_assign rfl rfl) (by kernel_rfl) (by kernel_rfl) ?_
          exact At.into (hGi (hG9_0 b43 b44 c44 g44b)) rfl rfl
        have hG9_2  : G 11 #[true, true, true, true, true, true, true, true, true, true, true, false, false, false, false, false, false, false, false, false, false, false] (frOf [(4, .bool false), (8, ptr b8 0), (9, ptr b9 0), (39, .bool ((sumS (fillT b k13 k13)) == (sumS (fillT b k13 k13)))), (40, aggK (sumS ((fillT b k13 k13) ++ [b]))), (41, .slice (some ⟨b15, 0, none⟩) k13 k13), (42, u8V b)]) (hOf [(8, ⟨true, b8, 0, 25, (sumS (fillT b k13 k13)).map u8V, 0⟩), (9, ⟨true, b9, 0, 25, (sumS ((fillT b k13 k13) ++ [b])).map u8V, 0⟩), (15, ⟨true, b15, 0, 5, ((fillT b k13 k13)).map u8V, 0⟩)]) := by
          refine hGo ?_
          refine At.bStep [11] (by kernel_rfl) (by simp) ?_
          refine At.bSg (tt := 39) (j := 7) (want := true) false (by kernel_rfl) rfl (by simp) (S_buildSliceV (some 43) 43 (([b]).map u8V) rfl Try.underlying22 sz5 ze5 rfl rfl (by decide) (by decide) rfl rfl (fun b43 => ?_))
          exact At.into (hGi (hG9_1 b43)) rfl rfl
        have hG9_3 (b43 : Nat) : G 11 #[true, true, true, true, true, true, true, true, false, true, true, true, false, false, false, false, false, false, false, false, false, false] (frOf [(4, .bool false), (8, ptr b8 0), (9, ptr b9 0), (39, .bool ((sumS (fillT b k13 k13)) == (sumS (fillT b k13 k13)))), (41, .slice (some ⟨b15, 0, none⟩) k13 k13), (43, .slice (some ⟨b43, 0, none⟩) 1 1)]) (hOf [(8, ⟨true, b8, 0, 25, (sumS (fillT b k13 k13)).map u8V, 0⟩), (9, ⟨true, b9, 0, 25, (sumS ((fillT b k13 k13) ++ [b])).map u8V, 0⟩), (15, ⟨true, b15, 0, 5, ((fillT b k13 k13)).map u8V, 0⟩), (43, ⟨true, b43, 0, 5, ([b]).map u8V, 0⟩)]) := by
          refine hGo ?_
          refine At.bStep [8, 12] (by kernel_rfl) (by simp) ?_
          refine ⟨?_, ?_⟩
          ·
            refine At.bSQg (tt := 39) (j := 7) (want := true) rfl (by simp) (some 40) (Q_loadA (k := 9) rfl rfl Try.underlying25 rfl sz25 LN rfl) ?_
            exact At.into (hGi (hG9_1 b43)) rfl rfl
          ·
            refine At.bSg (tt := 39) (j := 7) (want := true) true (by kernel_rfl) rfl (by simp) (S_appendV (some 44) 44 (((fillT b k13 k13) ++ [b])) (f := u8V) (l := (fillT b k13 k13)) (L := [b]) (m := 1) rfl Try.underlying22 Try.underlying22 (.inr ⟨_, rfl⟩) sz5 by5 ze5 rfl rfl (Src.all (k := 15) (l := (fillT b k13 k13)) rfl (fun _ => rfl) (fun _ => ⟨rfl, rfl, rfl⟩) LN) OG (Src.all (k := 43) (l := [b]) rfl (fun _ => rfl) (fun _ => ⟨rfl, rfl, rfl⟩) LN) OG OG rfl ?_)
            intro b44 c44 g44b
            refine At.bQg (tt := 39) (j := 7) (want := true) 8 (some 40) rfl (by simp) (Q_loadA (k := 9) rfl rfl Try.underlying25 rfl sz25 LN rfl) (by kernel_rfl) (by kernel_rfl) ?_
            refine At.bCg (tt := 39) (j := 7) (want := true) 13 (some 45) [(44, _)] (vs := [_]) rfl (by simp) (by kernel_rfl) (by kernel_rfl) rfl en16 rfl (VN (by simp) rfl View.all V0) (r_SumN (l := ((fillT b k13 k13) ++ [b])) (n := (((fillT b k13 k13) ++ [b]).length)) (A := (some ⟨b44, 0, none⟩)) (bq := b44) (q := 0) LN (fun _ => rfl) OG) ?_
            refine At.bPg (tt := 39) (j := 7) (want := true) 14 (some 46) rfl (by simp) (P_eql_arr (k := .u8) (xs := (sumS ((fillT b k13 k13) ++ [b]))) (ys := (sumS ((fillT b k13 k13) ++ [b]))) rfl Try.underlying25 Try.underlying5 sz5 Try.eqGuardType25 rfl rfl LN LN) (by kernel_rfl) (by kernel_rfl) ?_
            refine At.bP  15 (some 47) (P_pick_t rfl rfl (by simp) rfl) (by kernel_rfl) (by kernel_rfl) ?_
            refine At.bP  16 (some 48) (P_move rfl rfl) (by kernel_rfl) (by kernel_rfl) ?_
            refine At.bQg (tt := 48) (j := 16) (want := true) 17 (some 49) rfl (by simp) (Q_loadA (k := 8) rfl rfl Try.underlying25 rfl sz25 LN rfl) (by kernel_rfl) (by kernel_rfl) ?_
            refine At.bQg (tt := 48) (j := 16) (want := true) 18 (some 50) rfl (by simp) (Q_loadA (k := 9) rfl rfl Try.underlying25 rfl sz25 LN rfl) (by kernel_rfl) (by kernel_rfl) ?_
            refine At.bPg (tt := 48) (j := 16) (want := true) 19 (some 51) rfl (by simp) (P_neq_arr (k := .u8) (xs := (sumS (fillT b k13 k13))) (ys := (sumS ((fillT b k13 k13) ++ [b]))) rfl Try.underlying25 Try.underlying5 sz5 Try.eqGuardType25 rfl rfl LN LN) (by kernel_rfl) (by kernel_rfl) ?_
            refine At.bP  20 (some 52) (P_pick_t rfl rfl (by simp) rfl) (by kernel_rfl) (by kernel_rfl) ?_
            refine At.bP  21 (some 4) (P_assign rfl rfl) (by kernel_rfl) (by kernel_rfl) ?_
            exact At.into (hGi (hG9_0 b43 b44 c44 g44b)) rfl rfl
        have hG9_4  : G 12 #[true, true, true, true, true, true, true, true, false, true, true, false, false, false, false, false, false, false, false, false, false, false] (frOf [(4, .bool false), (8, ptr b8 0), (9, ptr b9 0), (39, .bool ((sumS (fillT b k13 k13)) == (sumS (fillT b k13 k13)))), (41, .slice (some ⟨b15, 0, none⟩) k13 k13), (42, u8V b)]) (hOf [(8, ⟨true, b8, 0, 25, (sumS (fillT b k13 k13)).map u8V, 0⟩), (9, ⟨true, b9, 0, 25, (sumS ((fillT b k13 k13) ++ [b])).map u8V, 0⟩), (15, ⟨true, b15, 0, 5, ((fillT b k13 k13)).map u8V, 0⟩)]) := by
          refine hGo ?_
          refine At.bStep [8, 11] (by kernel_rfl) (by simp) ?_
          refine ⟨?_, ?_⟩
          ·
            refine At.bSQg (tt := 39) (j := 7) (want := true) rfl (by simp) (some 40) (Q_loadA (k := 9) rfl rfl Try.underlying25 rfl sz25 LN rfl) ?_
            exact At.into (hGi (hG9_2 )) rfl rfl
          ·
            refine At.bSg (tt := 39) (j := 7) (want := true) false (by kernel_rfl) rfl (by simp) (S_buildSliceV (some 43) 43 (([b]).map u8V) rfl Try.underlying22 sz5 ze5 rfl rfl (by decide) (by decide) rfl rfl (fun b43 => ?_))
            exact At.into (hGi (hG9_3 b43)) rfl rfl
        have hG9_5  : G 18 #[true, true, true, true, false, false, false, false, false, false, false, false, false, false, false, false, false, false, false, false, false, false] (frOf [(0, u8V b), (4, .bool false), (6, .slice (some ⟨b15, 0, none⟩) k13 k13), (8, ptr b8 0), (9, ptr b9 0), (33, .bool true), (34, aggK (sumS (fillT b k13 k13))), (35, .slice (some ⟨b15, 0, none⟩) k13 k13)]) (hOf [(8, ⟨true, b8, 0, 25, (sumS (fillT b k13 k13)).map u8V, 0⟩), (9, ⟨true, b9, 0, 25, (sumS ((fillT b k13 k13) ++ [b])).map u8V, 0⟩), (15, ⟨true, b15, 0, 5, ((fillT b k13 k13)).map u8V, 0⟩)]) := by
          refine hGo ?_
          refine At.bStep [4] (by kernel_rfl) (by simp) ?_
          refine At.bSg (tt := 33) (j := 1) (want := true) false (by kernel_rfl) rfl (by simp) (S_callV (some 36) [(15, _)] [] (vs := [_]) rfl en16 rfl (VN (by simp) rfl View.all V0) (by simp) (r_SumN (l := (fillT b k13 k13)) (n := k13) (A := (some ⟨b15, 0, none⟩)) (bq := b15) (q := 0) LN (fun _ => rfl) OG) (by rintro _ _ ⟨rfl, rfl⟩; rfl) ?_)
          rintro _ _ ⟨rfl, rfl⟩
          refine At.bPg (tt := 33) (j := 1) (want := true) 5 (some 37) rfl (by simp) (P_eql_arr (k := .u8) (xs := (sumS (fillT b k13 k13))) (ys := (sumS (fillT b k13 k13))) rfl Try.underlying25 Try.underlying5 sz5 Try.eqGuardType25 rfl rfl LN LN) (by kernel_rfl) (by kernel_rfl) ?_
          refine At.bP  6 (some 38) (P_pick_t rfl rfl (by simp) rfl) (by kernel_rfl) (by kernel_rfl) ?_
          refine At.bP  7 (some 39) (P_move rfl rfl) (by kernel_rfl) (by kernel_rfl) ?_
          refine At.bPg (tt := 39) (j := 7) (want := true) 9 (some 41) rfl (by simp) (P_move rfl rfl) (by kernel_rfl) (by kernel_rfl) ?_
          refine At.bPg (tt := 39) (j := 7) (want := true) 10 (some 42) rfl (by simp) (P_move rfl rfl) (by kernel_rfl) (by kernel_rfl) ?_
          exact At.into (hGi (hG9_4 )) rfl rfl
        have hG9_6  : G 18 #[true, true, false, true, true, false, false, false, false, false, false, false, false, false, false, false, false, false, false, false, false, false] (frOf [(0, u8V b), (4, .bool false), (6, .slice (some ⟨b15, 0, none⟩) k13 k13), (8, ptr b8 0), (9, ptr b9 0), (33, .bool true), (36, aggK (sumS (fillT b k13 k13)))]) (hOf [(8, ⟨true, b8, 0, 25, (sumS (fillT b k13 k13)).map u8V, 0⟩), (9, ⟨true, b9, 0, 25, (sumS ((fillT b k13 k13) ++ [b])).map u8V, 0⟩), (15, ⟨true, b15, 0, 5, ((fillT b k13 k13)).map u8V, 0⟩)]) := by
          refine hGo ?_
          refine At.bStep [2] (by kernel_rfl) (by simp) ?_
          refine At.bSQg (tt := 33) (j := 1) (want := true) rfl (by simp) (some 34) (Q_loadA (k := 8) rfl rfl Try.underlying25 rfl sz25 LN rfl) ?_
          refine At.bPg (tt := 33) (j := 1) (want := true) 5 (some 37) rfl (by simp) (P_eql_arr (k := .u8) (xs := (sumS (fillT b k13 k13))) (ys := (sumS (fillT b k13 k13))) rfl Try.underlying25 Try.underlying5 sz5 Try.eqGuardType25 rfl rfl LN LN) (by kernel_rfl) (by kernel_rfl) ?_
          refine At.bP  6 (some 38) (P_pick_t rfl rfl (by simp) rfl) (by kernel_rfl) (by kernel_rfl) ?_
          refine At.bP  7 (some 39) (P_move rfl rfl) (by kernel_rfl) (by kernel_rfl) ?_
          refine At.bPg (tt := 39) (j := 7) (want := true) 9 (some 41) rfl (by simp) (P_move rfl rfl) (by kernel_rfl) (by kernel_rfl) ?_
          refine At.bPg (tt := 39) (j := 7) (want := true) 10 (some 42) rfl (by simp) (P_move rfl rfl) (by kernel_rfl) (by kernel_rfl) ?_
          exact At.into (hGi (hG9_4 )) rfl rfl
        have hG9_7  : G 19 #[true, true, false, true, false, false, false, false, false, false, false, false, false, false, false, false, false, false, false, false, false, false] (frOf [(0, u8V b), (4, .bool false), (6, .slice (some ⟨b15, 0, none⟩) k13 k13), (8, ptr b8 0), (9, ptr b9 0), (33, .bool true), (35, .slice (some ⟨b15, 0, none⟩) k13 k13)]) (hOf [(8, ⟨true, b8, 0, 25, (sumS (fillT b k13 k13)).map u8V, 0⟩), (9, ⟨true, b9, 0, 25, (sumS ((fillT b k13 k13) ++ [b])).map u8V, 0⟩), (15, ⟨true, b15, 0, 5, ((fillT b k13 k13)).map u8V, 0⟩)]) := by
          refine hGo ?_
          refine At.bStep [2, 4] (by kernel_rfl) (by simp) ?_
          refine ⟨?_, ?_⟩
          ·
            refine At.bSQg (tt := 33) (j := 1) (want := true) rfl (by simp) (some 34) (Q_loadA (k := 8) rfl rfl Try.underlying25 rfl sz25 LN rfl) ?_
            exact At.into (hGi (hG9_5 )) rfl rfl
          ·
            refine At.bSg (tt := 33) (j := 1) (want := true) false (by kernel_rfl) rfl (by simp) (S_callV (some 36) [(15, _)] [] (vs := [_]) rfl en16 rfl (VN (by simp) rfl View.all V0) (by simp) (r_SumN (l := (fillT b k13 k13)) (n := k13) (A := (some ⟨b15, 0, none⟩)) (bq := b15) (q := 0) LN (fun _ => rfl) OG) (by rintro _ _ ⟨rfl, rfl⟩; rfl) ?_)
            rintro _ _ ⟨rfl, rfl⟩
            exact At.into (hGi (hG9_6 )) rfl rfl
        have hG9_8  : G 22 #[false, false, false, false, false, false, false, false, false, false, false, false, false, false, false, false, false, false, false, false, false, false] (frOf [(0, u8V b), (4, .bool false), (6, .slice (some ⟨b15, 0, none⟩) k13 k13), (8, ptr b8 0), (9, ptr b9 0)]) (hOf [(8, ⟨true, b8, 0, 25, (sumS (fillT b k13 k13)).map u8V, 0⟩), (9, ⟨true, b9, 0, 25, (sumS ((fillT b k13 k13) ++ [b])).map u8V, 0⟩), (15, ⟨true, b15, 0, 5, ((fillT b k13 k13)).map u8V, 0⟩)]) := by
          refine hGo ?_
          refine At.bStep [0] (by kernel_rfl) (by simp) ?_
          refine At.bS false (by kernel_rfl) (S_callV (some 32) [] [] (vs := []) rfl en14 rfl V0 (by simp) (c_sums  ) (by rintro _ _ ⟨rfl, rfl⟩; rfl) ?_)
          rintro _ _ ⟨rfl, rfl⟩
          refine At.bP  1 (some 33) (P_move rfl rfl) (by kernel_rfl) (by kernel_rfl) ?_
          refine At.bPg (tt := 33) (j := 1) (want := true) 3 (some 35) rfl (by simp) (P_move rfl rfl) (by kernel_rfl) (by kernel_rfl) ?_
          exact At.into (hGi (hG9_7 )) rfl rfl
        refine hGo ?_
        exact At.into (hGi (hG9_8 )) rfl rfl
      · rintro fr H ⟨b43, b44, c44, rfl, rfl, g44b, -⟩
        refine At.next ?_
        refine At.ret ?_
        have hq0 : (!((sumS (fillT b k13 k13)) == (sumS ((fillT b k13 k13) ++ [b])))) = true := (by first | exact bne_iff_ne.2 (fillT_apart hk13) | (simp; exact fillT_apart hk13))
        refine At.give (.inl rfl) [] (rows' := []) (vs := [_]) rfl ⟨rfl, trivial⟩ rfl (by simp) (by simp) ⟨(by first | (rw [hq0]; try rfl; done) | (rw [← hq0]; try rfl; done) | (simp only [hq0]; try rfl; done) | (simp only [← hq0]; try rfl; done) | rfl), (by first | (rw [hq0]; try rfl; done) | (rw [← hq0]; try rfl; done) | (simp only [hq0]; try rfl; done) | (simp only [← hq0]; try rfl; done) | rfl)⟩

end Go.Proofs.Ytdkeadfhejkidaa
