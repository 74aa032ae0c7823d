import Derived.Test.YtcjfkmhijfcciaaDoorXT4
import Derived.Test.YtcjfkmhijfcciaaDoorRV2
import Derived.Test.YtcjfkmhijfcciaaDoorTG
import Derived.Test.YtcjfkmhijfcciaaDoorKN
namespace Go.Proofs.YtcjfkmhijfcciaaDoor
set_option maxRecDepth 20000
set_option linter.unusedVariables false
set_option linter.unusedSimpArgs false
open Go.SE Go.RowKit
/-! turns -/
def gN (i : Nat) : Nat := if i = 0 then 0 else (i - 1) % 64 + 1
def gE (i : Nat) : Nat := (i - 1) / 64
def gU (i : Nat) : Nat := 8 * ((gN i + 7) / 8)
def gV (i : Nat) : Nat := if gN i = 64 then 0 else gU i
def gP (i : Nat) : Nat := i / 64
def gQ (i : Nat) : Nat := i % 64
theorem gN_le (i : Nat) : gN i ≤ 64 := by unfold gN; split <;> omega
theorem gU_le (i : Nat) : gN i ≤ gU i ∧ gU i ≤ 64 ∧ gU i % 8 = 0 := by have := gN_le i; unfold gU; omega
theorem g_T {i : Nat} (h : gN i = 64) : gP i = gE i + 1 ∧ gQ i = 0 ∧ gV i = 0 := by
 refine ⟨?_, ?_, ?_⟩
 · unfold gN at h; unfold gE gP; split at h <;> omega
 · unfold gN at h; unfold gQ; split at h <;> omega
 · unfold gV; rw [if_pos h]
theorem g_F {i : Nat} (h : gN i ≠ 64) : gP i = gE i ∧ gQ i = gN i ∧ gV i = gU i := by
 refine ⟨?_, ?_, ?_⟩
 · unfold gN at h; unfold gE gP; split at h <;> omega
 · unfold gN at *; unfold gQ; split at h <;> split <;> omega
 · unfold gV; rw [if_neg h]
theorem gP_le (i : Nat) (h : i ≤ 200) : gP i ≤ 1000 ∧ gE i ≤ 1000 ∧ gQ i < 64 := by unfold gP gE gQ; omega
theorem gV_le (i : Nat) : gQ i ≤ gV i ∧ gV i ≤ 64 ∧ gV i % 8 = 0 ∧ gV i ≤ 8 * ((gQ i + 8) / 8) := by
 by_cases h : gN i = 64
 · obtain ⟨_, h2, h3⟩ := g_T h; omega
 ·
  obtain ⟨_, h2, h3⟩ := g_F h
  have := gU_le i
  have h5 : gU i = 8 * ((gN i + 7) / 8) := rfl
  omega
theorem wN_i (i : Nat) : wN (gQ i) (gV i) 1 = 8 * ((gQ i + 8) / 8) := by
 have := gV_le i
 have hq : gQ i < 64 := by unfold gQ; omega
 unfold wN
 omega
theorem g_S (i : Nat) : gE (i + 1) = gP i ∧ gN (i + 1) = gQ i + 1 ∧ gU (i + 1) = wN (gQ i) (gV i) 1 := by
 rw [wN_i]
 refine ⟨by simp [gE, gP], by simp [gN, gQ], by simp [gU, gN, gQ]; omega⟩
theorem gE_0 : gE 0 = 0 := rfl
theorem gN_0 : gN 0 = 0 := rfl
theorem gU_0 : gU 0 = 0 := rfl
theorem gP_i (i : Nat) : ((gP i : Nat) : Int) = (i : Int) / 64 := by unfold gP; omega
theorem gQ_i (i : Nat) : ((gQ i : Nat) : Int) = (i : Int) % 64 := by unfold gQ; omega
attribute [local irreducible] dkS dvS nxS nnS nnI hdR rsT rsB rsE roE roK roT roX roO kdOk trN trL trK inR nxI gN gE gU gV gP gQ wN sumS macS labS
theorem sum_abc : sumS [97#8, 98#8, 99#8] = [186#8, 120#8, 22#8, 191#8, 143#8, 1#8, 207#8, 234#8, 65#8, 65#8, 64#8, 222#8, 93#8, 174#8, 34#8, 35#8, 176#8, 3#8, 97#8, 163#8, 150#8, 23#8, 122#8, 156#8, 180#8, 16#8, 255#8, 97#8, 242#8, 0#8, 21#8, 173#8] := abc_sum

set_option maxHeartbeats 2000000 in
theorem c_stands   :
  Con Tryd.prog 15 [] [] (fun v rs => v = .bool true ∧ rs = []) := by
 refine Con.enter Tryd.func15 Tryd.ntmps15 (Nat.le_of_ble_eq_true rfl) rfl fun w => ?_
 refine At.seq ?_
 refine At.region ?_
 refine At.p (some 0) (P_assign rfl rfl) ?_
 refine At.nil ?_
 refine At.next ?_
 refine At.seq ?_
 refine At.region ?_
 refine At.s (S_buildSliceV (some 2) 2 (([97#8, 98#8, 99#8]).map u8V) rfl Tryd.underlying36 sz5 ze5 rfl rfl (by decide) (by decide) rfl ⟨rfl, rfl, rfl⟩ (fun b2 => ?_))
 refine At.s (S_convB (some 3) (k := 2) rfl Tryd.underlying36 Tryd.underlying5 rfl rfl (by simp) ?_)
 refine At.s (S_callV (some 4) [(2, _)] [] (vs := [_]) rfl en29 rfl (VN (by simp) rfl View.all V0) (by simp) (c_SumN (l := [97#8, 98#8, 99#8]) (n := 3) (A := (some ⟨b2, 0, none⟩)) (bq := b2) (q := 0) LN (fun _ => rfl) OG) (by rintro _ _ ⟨rfl, rfl⟩; rfl) ?_)
 rintro _ _ ⟨rfl, rfl⟩
 have := sumS_len [97#8, 98#8, 99#8]
 simp only [sum_abc]
 refine At.s (S_alloc (some 1) 1 (zs := (List.replicate 32 0#8).map u8V) rfl ze22 rfl (fun b1 => ?_))
 refine At.s (S_storeA none (k := 1) (vs := ([186#8, 120#8, 22#8, 191#8, 143#8, 1#8, 207#8, 234#8, 65#8, 65#8, 64#8, 222#8, 93#8, 174#8, 34#8, 35#8, 176#8, 3#8, 97#8, 163#8, 150#8, 23#8, 122#8, 156#8, 180#8, 16#8, 255#8, 97#8, 242#8, 0#8, 21#8, 173#8]).map u8V) rfl rfl rfl (by rw [sz22]; exact congrArg some LN) rfl (one_map (fun _ => rfl)) NG rfl LN ?_)
 refine At.nil ?_
 refine At.next ?_
 refine At.seq ?_
 refine At.region ?_
 refine At.p (some 5) (P_indexAddr_arr1 (j := 0) rfl Tryd.underlying22 sz5 rfl rfl rfl (by decide)) ?_
 refine At.q (some 6) (Q_loadM (k := 1) (f := u8V) (l := [186#8, 120#8, 22#8, 191#8, 143#8, 1#8, 207#8, 234#8, 65#8, 65#8, 64#8, 222#8, 93#8, 174#8, 34#8, 35#8, 176#8, 3#8, 97#8, 163#8, 150#8, 23#8, 122#8, 156#8, 180#8, 16#8, 255#8, 97#8, 242#8, 0#8, 21#8, 173#8]) (0#8) rfl rfl Tryd.underlying5 rfl rfl OG) ?_
 refine At.p (some 7) (P_eql_w (n := 8) (b := 186#8) rfl rfl rfl) ?_
 refine At.p (some 8) (P_move rfl rfl) ?_
 refine At.gy (t := 8) rfl (by decide) rfl rfl ?_
 refine At.p (some 9) (P_indexAddr_arr1 (j := 31) rfl Tryd.underlying22 sz5 rfl rfl rfl (by decide)) ?_
 refine At.gy (t := 8) rfl (by decide) rfl rfl ?_
 refine At.q (some 10) (Q_loadM (k := 1) (f := u8V) (l := [186#8, 120#8, 22#8, 191#8, 143#8, 1#8, 207#8, 234#8, 65#8, 65#8, 64#8, 222#8, 93#8, 174#8, 34#8, 35#8, 176#8, 3#8, 97#8, 163#8, 150#8, 23#8, 122#8, 156#8, 180#8, 16#8, 255#8, 97#8, 242#8, 0#8, 21#8, 173#8]) (0#8) rfl rfl Tryd.underlying5 rfl rfl OG) ?_
 refine At.gy (t := 8) rfl (by decide) rfl rfl ?_
 refine At.p (some 11) (P_eql_w (n := 8) (b := 173#8) rfl rfl rfl) ?_
 refine At.p (some 12) (P_pick_t rfl rfl (by decide) rfl) ?_
 refine At.p (some 0) (P_assign rfl rfl) ?_
 refine At.nil ?_
 refine At.next ?_
 refine At.ret ?_
 have hq0 : (([186#8, 120#8, 22#8, 191#8, 143#8, 1#8, 207#8, 234#8, 65#8, 65#8, 64#8, 222#8, 93#8, 174#8, 34#8, 35#8, 176#8, 3#8, 97#8, 163#8, 150#8, 23#8, 122#8, 156#8, 180#8, 16#8, 255#8, 97#8, 242#8, 0#8, 21#8, 173#8].getD 31 0#8) == (173#8)) = true := (by decide)
 refine At.give (.inl rfl) [] (rows' := []) (vs := [_]) rfl ⟨rfl, trivial⟩ rfl (by simp) (by simp) ⟨(by first | (rw [hq0]; try rfl; done) | (rw [← hq0]; try rfl; done) | (simp only [hq0]; try rfl; done) | (simp only [← hq0]; try rfl; done) | rfl), (by first | (rw [hq0]; try rfl; done) | (rw [← hq0]; try rfl; done) | (simp only [hq0]; try rfl; done) | (simp only [← hq0]; try rfl; done) | rfl)⟩

set_option maxHeartbeats 2000000 in
theorem l_Turns {s : List (BitVec 8)} {n : Int} (hs : s.length = 32) :
  Con Tryd.prog 3 [aggK s, iV n] [] (fun v rs => v = .bool true ∧ rs = []) := by
 refine Con.enter Tryd.func3 Tryd.ntmps3 (Nat.le_of_ble_eq_true rfl) rfl fun w => ?_
 refine At.seq ?_
 refine At.region ?_
 refine At.s (S_box (some 2) 2 (zs := (s).map u8V) rfl rfl rfl (fun b2 => ?_))
 refine At.p (some 4) (P_assign rfl rfl) ?_
 refine At.nil ?_
 refine At.next ?_
 refine At.seq ?_
 refine At.ord [.q (aggK s), .q (aggK s), .al 5 22 ((List.replicate 32 0#8).map u8V), .al 6 22 ((List.replicate 32 0#8).map u8V), .st 5 none 22 ((s).map u8V) 0, .st 6 none 22 ((s).map u8V) 0] [0, 1, 2, 3, 4, 5] (by kernel_rfl) (by kernel_rfl) (by kernel_rfl) (by kernel_rfl) (by kernel_rfl) ?_ (fun A => ?_)
 ·
  refine ⟨?_, ?_, ?_, ?_, ?_, ?_⟩
  ·
   intro L A f h I R
   exact OGoal.q rfl (OStep.weak (sl := [(2, _)]) (rw_ := [(2, _)]) (AllL.cons_ (I.init _ _ rfl (by kernel_rfl)) trivial) (AllL.cons_ (I.get0 R rfl (by kernel_rfl)) trivial) (QStep.o (Q_loadA (k := 2) rfl rfl Tryd.underlying22 rfl sz22 LN rfl)))
  ·
   intro L A f h I R
   exact OGoal.q rfl (OStep.weak (sl := [(2, _)]) (rw_ := [(2, _)]) (AllL.cons_ (I.init _ _ rfl (by kernel_rfl)) trivial) (AllL.cons_ (I.get0 R rfl (by kernel_rfl)) trivial) (QStep.o (Q_loadA (k := 2) rfl rfl Tryd.underlying22 rfl sz22 LN rfl)))
  ·
   intro L A f h I R
   exact OGoal.al rfl rfl ze22 rfl
  ·
   intro L A f h I R
   exact OGoal.al rfl rfl ze22 rfl
  ·
   intro L A f h I R
   exact OGoal.st rfl (S_storeA none (k := 5) (vs := (s).map u8V) rfl (I.slotD R 2 (by kernel_rfl) rfl rfl) (I.slotD R 0 (by kernel_rfl) rfl rfl) (by rw [sz22]; exact congrArg some LN) rfl (one_map (fun _ => rfl)) NG (I.getA R 2 (by kernel_rfl) rfl) LN ⟨rfl, rfl⟩)
  ·
   intro L A f h I R
   exact OGoal.st rfl (S_storeA none (k := 6) (vs := (s).map u8V) rfl (I.slotD R 3 (by kernel_rfl) rfl rfl) (I.slotD R 1 (by kernel_rfl) rfl rfl) (by rw [sz22]; exact congrArg some LN) rfl (one_map (fun _ => rfl)) NG (I.getA R 3 (by kernel_rfl) rfl) LN ⟨rfl, rfl⟩)
 ·
  refine At.into (l := [(1, iV n), (4, .bool false), (5, ptr (A 5) 0), (6, ptr (A 6) 0)]) (m := [(5, ⟨true, (A 5), 0, 22, (s).map u8V, 0⟩), (6, ⟨true, (A 6), 0, 22, (s).map u8V, 0⟩)]) ?_ rfl rfl
  generalize A 5 = b5
  generalize A 6 = b6
  clear A
  refine At.next ?_
  refine At.seq ?_
  refine At.region ?_
  refine At.s (S_callV (some 22) [] [] (vs := [_]) rfl en5 rfl V0 (by simp) (c_gN (n := 0) ) (by rintro _ _ ⟨rfl, rfl⟩; rfl) ?_)
  rintro _ _ ⟨rfl, rfl⟩
  refine At.s (S_alloc (some 7) 7 (zs := [iV 0, iV 0, iV 0]) rfl ze24 rfl (fun b7 => ?_))
  refine At.s (S_storeA none (k := 7) (vs := [iV (0 : Int), iV 0, iV 0]) rfl rfl rfl (by rw [sz24]; exact congrArg some LN) rfl (one_cons rfl (one_cons rfl (one_cons rfl one_nil))) NG rfl LN ?_)
  refine At.nil ?_
  refine At.next ?_
  refine At.seq ?_
  refine At.region ?_
  refine At.p (some 8) (P_assign rfl rfl) ?_
  refine At.nil ?_
  refine At.next ?_
  refine At.seq ?_
  refine At.seq ?_
  refine At.region ?_
  refine At.p (some 9) (P_assign rfl rfl) ?_
  refine At.nil ?_
  refine At.next ?_
  refine At.block ?_
  refine At.loopx (I := fun m fr H => ∃ (i : Nat), m = 200 - i ∧ fr = frOf [(1, iV n), (5, ptr b5 0), (6, ptr b6 0), (7, ptr b7 0), (8, iV ((gN i) : Int)), (9, iV (i : Int))] ∧ H = hOf [(5, ⟨true, b5, 0, 22, ((nxI s (gE i))).map u8V, 0⟩), (6, ⟨true, b6, 0, 22, ((nxI s (gE i))).map u8V, 0⟩), (7, ⟨true, b7, 0, 24, [iV ((gE i) : Int), iV ((gN i) : Int), iV ((gU i) : Int)], 0⟩)] ∧ (i ≤ 200)) ?_ ?_
  ·
   intro Kc0 hKc0
   refine At.to [(1, _), (5, _), (6, _), (7, _), (8, iV ((gN 0) : Int)), (9, _)] [(5, ⟨true, b5, 0, 22, ((nxI s (gE 0))).map u8V, 0⟩), (6, ⟨true, b6, 0, 22, ((nxI s (gE 0))).map u8V, 0⟩), (7, ⟨true, b7, 0, 24, [iV ((gE 0) : Int), iV ((gN 0) : Int), iV ((gU 0) : Int)], 0⟩)] (AllL.cons_ (rfl) (AllL.cons_ (rfl) (AllL.cons_ (rfl) (AllL.cons_ (rfl) (AllL.cons_ ((by rw [gN_0]; rfl)) (AllL.cons_ (rfl) trivial)))))) (AllL.cons_ ((by rw [gE_0, nxI_zero]; rfl)) (AllL.cons_ ((by rw [gE_0, nxI_zero]; rfl)) (AllL.cons_ ((by rw [gE_0, gN_0, gU_0]; rfl)) trivial))) ?_
   exact hKc0 _ _ _ ⟨0, rfl, rfl, rfl, (by omega)⟩
  ·
   rintro m fr H ⟨i, rfl, rfl, rfl, hi⟩ Kc0 hKc0
   have hgn := gN_le i
   have hgu := gU_le i
   have hgv := gV_le i
   have hnl := nxI_len hs (gE i)
   have hnl2 := nxI_len hs (gP i)
   have hwn := wN_i i
   have hgp := gP_le i hi
   refine At.seq ?_
   refine At.seq ?_
   refine At.region ?_
   refine At.p (some 23) (P_move rfl rfl) ?_
   refine At.p (some 24) (P_move rfl rfl) ?_
   refine At.p (some 25) (P_conv_iw UK.u64 rfl Tryd.underlying3 Tryd.underlying26 rfl) ?_
   refine At.p (some 26) (P_rem_w UK.u64 (b := 200#64) rfl rfl rfl (by decide)) ?_
   obtain ⟨k27, hk27, hek27, hdk27⟩ := umod_c ((BitVec.ofInt 64 n)) 200#64 (by decide) (by decide)
   have hk27 : k27 < 200 := hk27
   refine At.p (some 27) (P_conv_WiE hek27 rfl Tryd.underlying26 Tryd.underlying3 rfl) ?_
   refine At.p (some 28) (P_cmp rfl rfl rfl rfl rfl rfl) ?_
   refine At.nil ?_
   refine At.next ?_
   refine At.cond rfl (fun h28 => ?_) (fun h28 => ?_)
   · -- cond 28 t
    have e28 : (i : Int) < (k27 : Int) := of_decide_eq_true h28
    refine At.skip ?_
    refine At.next ?_
    refine At.seq ?_
    refine At.block ?_
    refine At.seqJ (fun fr H => fr = frOf [(1, iV n), (5, ptr b5 0), (6, ptr b6 0), (7, ptr b7 0), (8, iV ((gN i) : Int)), (9, iV (i : Int))] ∧ H = hOf [(5, ⟨true, b5, 0, 22, ((nxI s (gP i))).map u8V, 0⟩), (6, ⟨true, b6, 0, 22, ((nxI s (gE i))).map u8V, 0⟩), (7, ⟨true, b7, 0, 24, [iV ((gP i) : Int), iV ((gQ i) : Int), iV ((gV i) : Int)], 0⟩)] ∧ True) ?_ ?_
    ·
     intro Kj1 hKj1
     refine At.seq ?_
     refine At.region ?_
     refine At.q (some 31) (Q_loadA (k := 7) rfl rfl Tryd.underlying24 rfl sz24 LN rfl) ?_
     refine At.s (S_callV (some 32) [] [] (vs := [_]) rfl en6 rfl V0 (by simp) (c_gL (e := (gE i)) (n := (gN i)) (u := (gU i)) OG OG OG) (by rintro _ _ ⟨rfl, rfl⟩; rfl) ?_)
     rintro _ _ ⟨rfl, rfl⟩
     refine At.p (some 33) (P_cmp rfl rfl rfl rfl rfl rfl) ?_
     refine At.nil ?_
     refine At.next ?_
     refine At.cond rfl (fun h33 => ?_) (fun h33 => ?_)
     · -- cond 33 t
      have e33 : (64 - ((gN i) : Int)) = 0 := eq_of_beq h33
      refine At.draws 3 [] [.q false [0, 1, 2]] (by kernel_rfl) (by kernel_rfl) ?_
      refine At.wq (some 34) (Q_loadA (k := 7) rfl rfl Tryd.underlying24 rfl sz24 LN rfl) ?_
      refine At.wcV (some 35) [] (vs := [_]) rfl en7 rfl V0 (c_gT (e := (gE i)) (n := (gN i)) (u := (gU i)) OG OG OG OG) ?_
      refine At.wq (some 36) (Q_loadA (k := 5) rfl rfl Tryd.underlying22 rfl sz22 LN rfl) ?_
      refine At.wqn ?_
      refine At.wt rfl ?_
      refine At.s (S_callV (some 37) [] [] (vs := [_]) rfl en8 rfl V0 (by simp) (c_Nx (s := (nxI s (gE i))) LN) (by rintro _ _ ⟨rfl, rfl⟩; rfl) ?_)
      rintro _ _ ⟨rfl, rfl⟩
      have := nxS_len (nxI s (gE i))
      refine At.s (S_storeA none (k := 7) (vs := [iV (((gE i) + 1 : Nat) : Int), iV 0, iV 0]) rfl rfl rfl (by rw [sz24]; exact congrArg some LN) rfl (one_cons rfl (one_cons rfl (one_cons rfl one_nil))) NG rfl LN ?_)
      refine At.s (S_storeA none (k := 5) (vs := (nxS (nxI s (gE i))).map u8V) rfl rfl rfl (by rw [sz22]; exact congrArg some LN) rfl (one_map (fun _ => rfl)) NG rfl LN ?_)
      refine At.nil ?_
      refine At.next ?_
      refine At.to [(1, _), (5, _), (6, _), (7, _), (8, _), (9, _)] [(5, ⟨true, b5, 0, 22, ((nxI s (gP i))).map u8V, 0⟩), (6, _), (7, ⟨true, b7, 0, 24, [iV ((gP i) : Int), iV ((gQ i) : Int), iV ((gV i) : Int)], 0⟩)] (AllL.cons_ (rfl) (AllL.cons_ (rfl) (AllL.cons_ (rfl) (AllL.cons_ (rfl) (AllL.cons_ (rfl) (AllL.cons_ (rfl) trivial)))))) (AllL.cons_ ((by rw [(g_T (i := i) (by omega)).1, nxI_succ]; rfl)) (AllL.cons_ (rfl) (AllL.cons_ ((by rw [(g_T (i := i) (by omega)).1, (g_T (i := i) (by omega)).2.1, (g_T (i := i) (by omega)).2.2]; rfl)) trivial))) ?_
      exact hKj1 _ _ ⟨rfl, rfl, trivial⟩
     · -- cond 33 f
      have e33 : (64 - ((gN i) : Int)) ≠ 0 := beq_eq_false_iff_ne.1 h33
      refine At.skip ?_
      refine At.next ?_
      refine At.to [(1, _), (5, _), (6, _), (7, _), (8, _), (9, _)] [(5, ⟨true, b5, 0, 22, ((nxI s (gP i))).map u8V, 0⟩), (6, _), (7, ⟨true, b7, 0, 24, [iV ((gP i) : Int), iV ((gQ i) : Int), iV ((gV i) : Int)], 0⟩)] (AllL.cons_ (rfl) (AllL.cons_ (rfl) (AllL.cons_ (rfl) (AllL.cons_ (rfl) (AllL.cons_ (rfl) (AllL.cons_ (rfl) trivial)))))) (AllL.cons_ ((by rw [(g_F (i := i) (by omega)).1]; rfl)) (AllL.cons_ (rfl) (AllL.cons_ ((by rw [(g_F (i := i) (by omega)).1, (g_F (i := i) (by omega)).2.1, (g_F (i := i) (by omega)).2.2]; rfl)) trivial))) ?_
      exact hKj1 _ _ ⟨rfl, rfl, trivial⟩
    ·
     rintro fr H ⟨rfl, rfl, -⟩
     refine At.seq ?_
     refine At.draws 9 [8] [.q false [0, 1, 2, 3, 4, 5], .q true [6], .e false 7, .e true 8] (by kernel_rfl) (by kernel_rfl) ?_
     refine At.wq (some 39) (Q_loadA (k := 7) rfl rfl Tryd.underlying24 rfl sz24 LN rfl) ?_
     refine At.wq (some 40) (Q_loadA (k := 7) rfl rfl Tryd.underlying24 rfl sz24 LN rfl) ?_
     refine At.wcV (some 41) [] (vs := [_, _]) rfl en10 rfl V0 (c_gW (e := (gP i)) (n := (gQ i)) (u := (gV i)) (m := 1) OG OG OG OG) ?_
     refine At.wcV (some 42) [] (vs := [_, _]) rfl en9 rfl V0 (c_gV (e := (gP i)) (n := (gQ i)) (u := (gV i)) (y := (wN (gQ i) (gV i) 1)) OG OG OG OG OG OG) ?_
     refine At.wp (some 38) (P_move rfl rfl) ?_
     refine At.wp (some 43) (P_extract rfl rfl rfl) ?_
     refine At.wqn ?_
     refine At.wp (some 44) (P_extract rfl rfl rfl) ?_
     refine At.wqn ?_
     refine At.we ?_
     refine S_alloc (some 10) 10 (zs := [iV 0, iV 0, iV 0]) rfl ze24 rfl (fun b10 => ?_)
     refine At.we ?_
     refine S_storeA none (k := 10) (vs := [iV ((gP i) : Int), iV ((gQ i) : Int), iV ((wN (gQ i) (gV i) 1) : Int)]) rfl rfl rfl (by rw [sz24]; exact congrArg some LN) rfl (one_cons rfl (one_cons rfl (one_cons rfl one_nil))) NG rfl LN ?_
     refine At.wt rfl ?_
     refine At.p (some 11) (P_assign rfl rfl) ?_
     refine At.nil ?_
     refine At.next ?_
     refine At.seq ?_
     refine At.seq ?_
     refine At.region ?_
     refine At.p (some 45) (P_move rfl rfl) ?_
     refine At.p (some 46) (P_cmp rfl rfl rfl rfl rfl rfl) ?_
     refine At.nil ?_
     refine At.next ?_
     refine At.cond rfl (fun h46 => (by simp at h46)) (fun h46 => ?_)
     have e46 : 0 = 0 := bne_eq_false_iff_eq.1 h46
     refine At.skip ?_
     refine At.next ?_
     refine At.seq ?_
     refine At.region ?_
     refine At.q (some 48) (Q_loadA (k := 10) rfl rfl Tryd.underlying24 rfl sz24 LN rfl) ?_
     refine At.s (S_callV (some 49) [] [] (vs := [_]) rfl en11 rfl V0 (by simp) (c_gU (e := (gP i)) (n := (gQ i)) (u := (wN (gQ i) (gV i) 1)) OG OG OG OG) (by rintro _ _ ⟨rfl, rfl⟩; rfl) ?_)
     rintro _ _ ⟨rfl, rfl⟩
     refine At.p (some 47) (P_move rfl rfl) ?_
     refine At.p (some 50) (P_extract rfl rfl rfl) ?_
     refine At.p (some 51) (P_extract rfl rfl rfl) ?_
     refine At.p (some 52) (P_extract rfl rfl rfl) ?_
     refine At.s (S_alloc (some 12) 12 (zs := [iV 0, iV 0, iV 0]) rfl ze24 rfl (fun b12 => ?_))
     refine At.s (S_storeA none (k := 12) (vs := [iV ((gP i) : Int), iV (((gQ i) + 1 : Nat) : Int), iV ((wN (gQ i) (gV i) 1) : Int)]) rfl rfl rfl (by rw [sz24]; exact congrArg some LN) rfl (one_cons rfl (one_cons rfl (one_cons rfl one_nil))) NG rfl LN ?_)
     refine At.p (some 13) (P_assign rfl rfl) ?_
     refine At.p (some 14) (P_assign rfl rfl) ?_
     refine At.nil ?_
     refine At.next ?_
     refine At.seq ?_
     refine At.region ?_
     refine At.q (some 54) (Q_loadA (k := 5) rfl rfl Tryd.underlying22 rfl sz22 LN rfl) ?_
     refine At.s (S_callV (some 55) [] [] (vs := [_]) rfl en13 rfl V0 (by simp) (c_Der (s := (nxI s (gP i))) LN) (by rintro _ _ ⟨rfl, rfl⟩; rfl) ?_)
     rintro _ _ ⟨rfl, rfl⟩
     have := dkS_len (nxI s (gP i))
     have := dvS_len (nxI s (gP i))
     refine At.p (some 56) (P_move rfl rfl) ?_
     refine At.p (some 57) (P_conv_iw UK.u64 rfl Tryd.underlying3 Tryd.underlying26 rfl) ?_
     refine At.p (some 58) (P_move rfl rfl) ?_
     refine At.p (some 59) (P_conv_iw UK.u8 rfl Tryd.underlying3 Tryd.underlying5 rfl) ?_
     refine At.s (S_buildSliceV (some 60) 60 (([(BitVec.ofInt 8 (i : Int))]).map u8V) rfl Tryd.underlying36 sz5 ze5 rfl rfl (by decide) (by decide) rfl rfl (fun b60 => ?_))
     refine At.s (S_callV (some 61) [(60, _)] [61] (vs := [_, _, _, _, _]) rfl en12 rfl (VN (by simp) rfl View.all V0) (by simp) (c_RSeal (key := (dkS (nxI s (gP i)))) (iv := (dvS (nxI s (gP i)))) (seq := (BitVec.ofInt 64 ((gQ i) : Int))) (kd := 23) (txt := [(BitVec.ofInt 8 (i : Int))]) (ntxt := 1) (Atxt := (some ⟨b60, 0, none⟩)) (ctxt := 1) (btxt := b60) (qtxt := 0) (pad := 0) LN LN LN (fun _ => rfl) OG) (by rintro _ _ ⟨A61, b61, c61, g61a, g61b, rfl, rfl⟩; rfl) ?_)
     rintro _ _ ⟨A61, b61, c61, g61a, g61b, rfl, rfl⟩
     have := rsT_le (dkS (nxI s (gP i))) (dvS (nxI s (gP i))) (BitVec.ofInt 64 ((gQ i) : Int)) 23 [(BitVec.ofInt 8 (i : Int))] 0
     refine At.p (some 53) (P_move rfl rfl) ?_
     refine At.p (some 62) (P_extract rfl rfl rfl) ?_
     refine At.p (some 63) (P_extract rfl rfl rfl) ?_
     refine At.p (some 15) (P_assign rfl rfl) ?_
     refine At.p (some 16) (P_assign rfl rfl) ?_
     refine At.nil ?_
     refine At.next ?_
     refine At.seq ?_
     refine At.seq ?_
     have hv : rsOk 23 ([BitVec.ofInt 8 (i : Int)] : List (BitVec 8)).length 0 = true := show rsOk 23 1 0 = true by decide
     have zE := rsE_t hv
     obtain ⟨z0, z1, z2⟩ := rs_open (key := dkS (nxI s (gP i))) (iv := dvS (nxI s (gP i))) (seq := (BitVec.ofInt 64 ((gQ i) : Int))) hv
     have zL := rsT_len (key := dkS (nxI s (gP i))) (iv := dvS (nxI s (gP i))) (seq := (BitVec.ofInt 64 ((gQ i) : Int))) hv
     have zM := zL.trans (show _ = 23 from rfl)
     have z3 := (congrArg List.length z2).trans (show _ = 1 from rfl)
     refine At.region ?_
     refine At.p (some 64) (P_move rfl rfl) ?_
     refine At.p (some 65) (P_cmp rfl rfl rfl rfl rfl rfl) ?_
     refine At.p (some 66) (P_move rfl rfl) ?_
     refine At.gy (t := 66) rfl (by first | rfl | exact bne_eq_false_iff_eq.2 zE | exact bne_eq_false_iff_eq.2 z0 | exact bne_eq_false_iff_eq.2 z1 | (simp; done) | (simp; omega) | (rw [gP_i]; simp; done) | (rw [gQ_i]; simp; done) | (simp [zM]; done) | (simp [z3]; done) | (rw [z2]; simp; done)) rfl rfl ?_
     refine At.p (some 67) (P_move rfl rfl) ?_
     refine At.gy (t := 66) rfl (by first | rfl | exact bne_eq_false_iff_eq.2 zE | exact bne_eq_false_iff_eq.2 z0 | exact bne_eq_false_iff_eq.2 z1 | (simp; done) | (simp; omega) | (rw [gP_i]; simp; done) | (rw [gQ_i]; simp; done) | (simp [zM]; done) | (simp [z3]; done) | (rw [z2]; simp; done)) rfl rfl ?_
     refine At.p (some 68) (P_cmp rfl rfl rfl rfl rfl rfl) ?_
     refine At.p (some 69) (P_pick_f rfl rfl (by first | rfl | exact bne_eq_false_iff_eq.2 zE | exact bne_eq_false_iff_eq.2 z0 | exact bne_eq_false_iff_eq.2 z1 | (simp; done) | (simp; omega) | (rw [gP_i]; simp; done) | (rw [gQ_i]; simp; done) | (simp [zM]; done) | (simp [z3]; done) | (rw [z2]; simp; done)) rfl) ?_
     refine At.p (some 70) (P_move rfl rfl) ?_
     refine At.gy (t := 70) rfl (by first | rfl | exact bne_eq_false_iff_eq.2 zE | exact bne_eq_false_iff_eq.2 z0 | exact bne_eq_false_iff_eq.2 z1 | (simp; done) | (simp; omega) | (rw [gP_i]; simp; done) | (rw [gQ_i]; simp; done) | (simp [zM]; done) | (simp [z3]; done) | (rw [z2]; simp; done)) rfl rfl ?_
     refine At.p (some 71) (P_fieldAddr0 (off := 0) rfl Tryd.underlying24 rfl sz3 rfl rfl) ?_
     refine At.gy (t := 70) rfl (by first | rfl | exact bne_eq_false_iff_eq.2 zE | exact bne_eq_false_iff_eq.2 z0 | exact bne_eq_false_iff_eq.2 z1 | (simp; done) | (simp; omega) | (rw [gP_i]; simp; done) | (rw [gQ_i]; simp; done) | (simp [zM]; done) | (simp [z3]; done) | (rw [z2]; simp; done)) rfl rfl ?_
     refine At.q (some 72) (Q_loadO (k := 12) rfl rfl Tryd.underlying3 rfl rfl rfl) ?_
     refine At.gy (t := 70) rfl (by first | rfl | exact bne_eq_false_iff_eq.2 zE | exact bne_eq_false_iff_eq.2 z0 | exact bne_eq_false_iff_eq.2 z1 | (simp; done) | (simp; omega) | (rw [gP_i]; simp; done) | (rw [gQ_i]; simp; done) | (simp [zM]; done) | (simp [z3]; done) | (rw [z2]; simp; done)) rfl rfl ?_
     refine At.p (some 73) (P_move rfl rfl) ?_
     refine At.gy (t := 70) rfl (by first | rfl | exact bne_eq_false_iff_eq.2 zE | exact bne_eq_false_iff_eq.2 z0 | exact bne_eq_false_iff_eq.2 z1 | (simp; done) | (simp; omega) | (rw [gP_i]; simp; done) | (rw [gQ_i]; simp; done) | (simp [zM]; done) | (simp [z3]; done) | (rw [z2]; simp; done)) rfl rfl ?_
     refine At.p (some 74) (P_quo_i rfl rfl rfl (by omega) (by omega) (by first | decide | omega)) ?_
     refine At.gy (t := 70) rfl (by first | rfl | exact bne_eq_false_iff_eq.2 zE | exact bne_eq_false_iff_eq.2 z0 | exact bne_eq_false_iff_eq.2 z1 | (simp; done) | (simp; omega) | (rw [gP_i]; simp; done) | (rw [gQ_i]; simp; done) | (simp [zM]; done) | (simp [z3]; done) | (rw [z2]; simp; done)) rfl rfl ?_
     refine At.p (some 75) (P_cmp rfl rfl rfl rfl rfl rfl) ?_
     refine At.p (some 76) (P_pick_f rfl rfl (by first | rfl | exact bne_eq_false_iff_eq.2 zE | exact bne_eq_false_iff_eq.2 z0 | exact bne_eq_false_iff_eq.2 z1 | (simp; done) | (simp; omega) | (rw [gP_i]; simp; done) | (rw [gQ_i]; simp; done) | (simp [zM]; done) | (simp [z3]; done) | (rw [z2]; simp; done)) rfl) ?_
     refine At.p (some 77) (P_move rfl rfl) ?_
     refine At.gy (t := 77) rfl (by first | rfl | exact bne_eq_false_iff_eq.2 zE | exact bne_eq_false_iff_eq.2 z0 | exact bne_eq_false_iff_eq.2 z1 | (simp; done) | (simp; omega) | (rw [gP_i]; simp; done) | (rw [gQ_i]; simp; done) | (simp [zM]; done) | (simp [z3]; done) | (rw [z2]; simp; done)) rfl rfl ?_
     refine At.p (some 78) (P_move rfl rfl) ?_
     refine At.gy (t := 77) rfl (by first | rfl | exact bne_eq_false_iff_eq.2 zE | exact bne_eq_false_iff_eq.2 z0 | exact bne_eq_false_iff_eq.2 z1 | (simp; done) | (simp; omega) | (rw [gP_i]; simp; done) | (rw [gQ_i]; simp; done) | (simp [zM]; done) | (simp [z3]; done) | (rw [z2]; simp; done)) rfl rfl ?_
     refine At.p (some 79) (P_move rfl rfl) ?_
     refine At.gy (t := 77) rfl (by first | rfl | exact bne_eq_false_iff_eq.2 zE | exact bne_eq_false_iff_eq.2 z0 | exact bne_eq_false_iff_eq.2 z1 | (simp; done) | (simp; omega) | (rw [gP_i]; simp; done) | (rw [gQ_i]; simp; done) | (simp [zM]; done) | (simp [z3]; done) | (rw [z2]; simp; done)) rfl rfl ?_
     refine At.p (some 80) (P_rem_i rfl rfl rfl (by omega) (by first | decide | omega)) ?_
     refine At.gy (t := 77) rfl (by first | rfl | exact bne_eq_false_iff_eq.2 zE | exact bne_eq_false_iff_eq.2 z0 | exact bne_eq_false_iff_eq.2 z1 | (simp; done) | (simp; omega) | (rw [gP_i]; simp; done) | (rw [gQ_i]; simp; done) | (simp [zM]; done) | (simp [z3]; done) | (rw [z2]; simp; done)) rfl rfl ?_
     refine At.p (some 81) (P_cmp rfl rfl rfl rfl rfl rfl) ?_
     refine At.p (some 82) (P_pick_f rfl rfl (by first | rfl | exact bne_eq_false_iff_eq.2 zE | exact bne_eq_false_iff_eq.2 z0 | exact bne_eq_false_iff_eq.2 z1 | (simp; done) | (simp; omega) | (rw [gP_i]; simp; done) | (rw [gQ_i]; simp; done) | (simp [zM]; done) | (simp [z3]; done) | (rw [z2]; simp; done)) rfl) ?_
     refine At.p (some 83) (P_move rfl rfl) ?_
     refine At.gy (t := 83) rfl (by first | rfl | exact bne_eq_false_iff_eq.2 zE | exact bne_eq_false_iff_eq.2 z0 | exact bne_eq_false_iff_eq.2 z1 | (simp; done) | (simp; omega) | (rw [gP_i]; simp; done) | (rw [gQ_i]; simp; done) | (simp [zM]; done) | (simp [z3]; done) | (rw [z2]; simp; done)) rfl rfl ?_
     refine At.p (some 84) (P_move rfl rfl) ?_
     refine At.gy (t := 83) rfl (by first | rfl | exact bne_eq_false_iff_eq.2 zE | exact bne_eq_false_iff_eq.2 z0 | exact bne_eq_false_iff_eq.2 z1 | (simp; done) | (simp; omega) | (rw [gP_i]; simp; done) | (rw [gQ_i]; simp; done) | (simp [zM]; done) | (simp [z3]; done) | (rw [z2]; simp; done)) rfl rfl ?_
     refine At.p (some 85) (P_len_sl rfl rfl ⟨_, Tryd.underlying36⟩ rfl) ?_
     refine At.gy (t := 83) rfl (by first | rfl | exact bne_eq_false_iff_eq.2 zE | exact bne_eq_false_iff_eq.2 z0 | exact bne_eq_false_iff_eq.2 z1 | (simp; done) | (simp; omega) | (rw [gP_i]; simp; done) | (rw [gQ_i]; simp; done) | (simp [zM]; done) | (simp [z3]; done) | (rw [z2]; simp; done)) rfl rfl ?_
     refine At.p (some 86) (P_cmp rfl rfl rfl rfl rfl rfl) ?_
     refine At.p (some 87) (P_pick_f rfl rfl (by first | rfl | exact bne_eq_false_iff_eq.2 zE | exact bne_eq_false_iff_eq.2 z0 | exact bne_eq_false_iff_eq.2 z1 | (simp; done) | (simp; omega) | (rw [gP_i]; simp; done) | (rw [gQ_i]; simp; done) | (simp [zM]; done) | (simp [z3]; done) | (rw [z2]; simp; done)) rfl) ?_
     refine At.nil ?_
     refine At.next ?_
     refine At.cond rfl (fun h87 => (by exfalso; have h9 := of_decide_eq_true h87; omega)) (fun h87 => ?_)
     have e87 : ¬ ((rsT (dkS (nxI s (gP i))) (dvS (nxI s (gP i))) (BitVec.ofInt 64 ((gQ i) : Int)) 23 [(BitVec.ofInt 8 (i : Int))] 0).length : Int) < 5 := of_decide_eq_false h87
     refine At.skip ?_
     refine At.next ?_
     refine At.seq ?_
     refine At.region ?_
     refine At.q (some 88) (Q_loadA (k := 12) rfl rfl Tryd.underlying24 rfl sz24 LN rfl) ?_
     refine At.s (S_storeA none (k := 7) (vs := [iV ((gP i) : Int), iV (((gQ i) + 1 : Nat) : Int), iV ((wN (gQ i) (gV i) 1) : Int)]) rfl rfl rfl (by rw [sz24]; exact congrArg some LN) rfl (one_cons rfl (one_cons rfl (one_cons rfl one_nil))) NG rfl LN ?_)
     refine At.nil ?_
     refine At.next ?_
     refine At.seqJ (fun fr H => fr = frOf [(1, iV n), (5, ptr b5 0), (6, ptr b6 0), (7, ptr b7 0), (8, iV ((gQ i) : Int)), (9, iV (i : Int)), (15, .slice A61 ((rsT (dkS (nxI s (gP i))) (dvS (nxI s (gP i))) (BitVec.ofInt 64 ((gQ i) : Int)) 23 [(BitVec.ofInt 8 (i : Int))] 0).length) c61)] ∧ H = hOf [(5, ⟨true, b5, 0, 22, ((nxI s (gP i))).map u8V, 0⟩), (6, ⟨true, b6, 0, 22, ((nxI s (gP i))).map u8V, 0⟩), (7, ⟨true, b7, 0, 24, [iV ((gP i) : Int), iV (((gQ i) + 1 : Nat) : Int), iV ((wN (gQ i) (gV i) 1) : Int)], 0⟩), (61, ⟨true, b61, 0, 5, (rsT (dkS (nxI s (gP i))) (dvS (nxI s (gP i))) (BitVec.ofInt 64 ((gQ i) : Int)) 23 [(BitVec.ofInt 8 (i : Int))] 0).map u8V, c61 - (rsT (dkS (nxI s (gP i))) (dvS (nxI s (gP i))) (BitVec.ofInt 64 ((gQ i) : Int)) 23 [(BitVec.ofInt 8 (i : Int))] 0).length⟩)] ∧ True) ?_ ?_
     ·
      intro Kj2 hKj2
      refine At.seq ?_
      refine At.region ?_
      refine At.p (some 89) (P_move rfl rfl) ?_
      refine At.p (some 90) (P_cmp rfl rfl rfl rfl rfl rfl) ?_
      refine At.nil ?_
      refine At.next ?_
      refine At.cond rfl (fun h90 => ?_) (fun h90 => ?_)
      · -- cond 90 t
       have e90 : ((gN i) : Int) = 64 := eq_of_beq h90
       refine At.region ?_
       refine At.q (some 91) (Q_loadA (k := 6) rfl rfl Tryd.underlying22 rfl sz22 LN rfl) ?_
       refine At.s (S_callV (some 92) [] [] (vs := [_]) rfl en8 rfl V0 (by simp) (c_Nx (s := (nxI s (gE i))) LN) (by rintro _ _ ⟨rfl, rfl⟩; rfl) ?_)
       rintro _ _ ⟨rfl, rfl⟩
       have := nxS_len (nxI s (gE i))
       refine At.p (some 8) (P_assign rfl rfl) ?_
       refine At.s (S_storeA none (k := 6) (vs := (nxS (nxI s (gE i))).map u8V) rfl rfl rfl (by rw [sz22]; exact congrArg some LN) rfl (one_map (fun _ => rfl)) NG rfl LN ?_)
       refine At.nil ?_
       refine At.next ?_
       refine At.to [(1, _), (5, _), (6, _), (7, _), (8, iV ((gQ i) : Int)), (9, _), (15, _)] [(5, _), (6, ⟨true, b6, 0, 22, ((nxI s (gP i))).map u8V, 0⟩), (7, _), (61, _)] (AllL.cons_ (rfl) (AllL.cons_ (rfl) (AllL.cons_ (rfl) (AllL.cons_ (rfl) (AllL.cons_ ((by rw [(g_T (i := i) (by omega)).2.1]; rfl)) (AllL.cons_ (rfl) (AllL.cons_ (rfl) trivial))))))) (AllL.cons_ (rfl) (AllL.cons_ ((by rw [(g_T (i := i) (by omega)).1, nxI_succ]; rfl)) (AllL.cons_ (rfl) (AllL.cons_ (rfl) trivial)))) ?_
       exact hKj2 _ _ ⟨rfl, rfl, trivial⟩
      · -- cond 90 f
       have e90 : ((gN i) : Int) ≠ 64 := beq_eq_false_iff_ne.1 h90
       refine At.skip ?_
       refine At.next ?_
       refine At.to [(1, _), (5, _), (6, _), (7, _), (8, iV ((gQ i) : Int)), (9, _), (15, _)] [(5, _), (6, ⟨true, b6, 0, 22, ((nxI s (gP i))).map u8V, 0⟩), (7, _), (61, _)] (AllL.cons_ (rfl) (AllL.cons_ (rfl) (AllL.cons_ (rfl) (AllL.cons_ (rfl) (AllL.cons_ ((by rw [(g_F (i := i) (by omega)).2.1]; rfl)) (AllL.cons_ (rfl) (AllL.cons_ (rfl) trivial))))))) (AllL.cons_ (rfl) (AllL.cons_ ((by rw [(g_F (i := i) (by omega)).1]; rfl)) (AllL.cons_ (rfl) (AllL.cons_ (rfl) trivial)))) ?_
       exact hKj2 _ _ ⟨rfl, rfl, trivial⟩
     ·
      rintro fr H ⟨rfl, rfl, -⟩
      refine At.seq ?_
      refine At.draws 13 [] [.q false [0, 1, 2, 3, 4, 5], .e false 6, .q false [7, 8, 9, 10, 11, 12]] (by kernel_rfl) (by kernel_rfl) ?_
      refine At.wq (some 94) (Q_loadA (k := 6) rfl rfl Tryd.underlying22 rfl sz22 LN rfl) ?_
      refine At.wcV (some 95) [] (vs := [_]) rfl en13 rfl V0 (c_Der (s := (nxI s (gP i))) LN) ?_
      have := dkS_len (nxI s (gP i))
      have := dvS_len (nxI s (gP i))
      refine At.wp (some 96) (P_move rfl rfl) ?_
      refine At.wp (some 97) (P_conv_iw UK.u64 rfl Tryd.underlying3 Tryd.underlying26 rfl) ?_
      refine At.wp (some 98) (P_move rfl rfl) ?_
      refine At.wp (some 99) (P_slice_sl (l := 5) (h := (rsT (dkS (nxI s (gP i))) (dvS (nxI s (gP i))) (BitVec.ofInt 64 ((gQ i) : Int)) 23 [(BitVec.ofInt 8 (i : Int))] 0).length) (m := c61) rfl Tryd.underlying36 sz5 rfl ⟨_, _, rfl, rfl⟩ rfl rfl DO DO DO) ?_
      refine At.wqn ?_
      refine At.we ?_
      refine SStep.up (S_callV (some 100) [(61, _)] [100] (vs := [_, _, _]) rfl en14 rfl (VN (by simp) rfl (View.sub (j := 5) (m := (((rsT (dkS (nxI s (gP i))) (dvS (nxI s (gP i))) (BitVec.ofInt 64 ((gQ i) : Int)) 23 [(BitVec.ofInt 8 (i : Int))] 0).length) - 5)) rfl rfl) V0) (by simp) (c_ROpen (key := (dkS (nxI s (gP i)))) (iv := (dvS (nxI s (gP i)))) (seq := (BitVec.ofInt 64 ((gQ i) : Int))) (b := (((rsT (dkS (nxI s (gP i))) (dvS (nxI s (gP i))) (BitVec.ofInt 64 ((gQ i) : Int)) 23 [(BitVec.ofInt 8 (i : Int))] 0).drop 5).take (((rsT (dkS (nxI s (gP i))) (dvS (nxI s (gP i))) (BitVec.ofInt 64 ((gQ i) : Int)) 23 [(BitVec.ofInt 8 (i : Int))] 0).length) - 5))) (nb := (((rsT (dkS (nxI s (gP i))) (dvS (nxI s (gP i))) (BitVec.ofInt 64 ((gQ i) : Int)) 23 [(BitVec.ofInt 8 (i : Int))] 0).length) - 5)) (Ab := (cut A61 5 c61 1)) (cb := (c61 - 5)) (bb := b61) (qb := (0 + 5)) LN LN LN (fun h => cut_addr1 ((fun h => g61a (by omega)) (by omega)) (by omega)) OG OG) (by rintro _ _ ⟨A100, b100, c100, r100, m100, g100a, g100b, rfl, rfl⟩; rfl) ?_)
      rintro _ _ ⟨A100, b100, c100, r100, m100, g100a, g100b, rfl, rfl⟩
      refine At.forgetM 100 rfl ?_
      refine At.wp (some 93) (P_move rfl rfl) ?_
      refine At.wp (some 101) (P_extract rfl rfl rfl) ?_
      refine At.wp (some 102) (P_extract rfl rfl rfl) ?_
      refine At.wp (some 103) (P_extract rfl rfl rfl) ?_
      refine At.wp (some 17) (P_assign rfl rfl) ?_
      refine At.wp (some 18) (P_assign rfl rfl) ?_
      refine At.wqn ?_
      refine At.wt rfl ?_
      refine At.p (some 19) (P_assign rfl rfl) ?_
      refine At.nil ?_
      refine At.next ?_
      refine At.seq ?_
      refine At.seq ?_
      refine At.region ?_
      refine At.p (some 104) (P_move rfl rfl) ?_
      refine At.p (some 105) (P_cmp rfl rfl rfl rfl rfl rfl) ?_
      refine At.p (some 106) (P_move rfl rfl) ?_
      refine At.gy (t := 106) rfl (by first | rfl | exact bne_eq_false_iff_eq.2 zE | exact bne_eq_false_iff_eq.2 z0 | exact bne_eq_false_iff_eq.2 z1 | (simp; done) | (simp; omega) | (rw [gP_i]; simp; done) | (rw [gQ_i]; simp; done) | (simp [zM]; done) | (simp [z3]; done) | (rw [z2]; simp; done)) rfl rfl ?_
      refine At.p (some 107) (P_move rfl rfl) ?_
      refine At.gy (t := 106) rfl (by first | rfl | exact bne_eq_false_iff_eq.2 zE | exact bne_eq_false_iff_eq.2 z0 | exact bne_eq_false_iff_eq.2 z1 | (simp; done) | (simp; omega) | (rw [gP_i]; simp; done) | (rw [gQ_i]; simp; done) | (simp [zM]; done) | (simp [z3]; done) | (rw [z2]; simp; done)) rfl rfl ?_
      refine At.p (some 108) (P_cmp rfl rfl rfl rfl rfl rfl) ?_
      refine At.p (some 109) (P_pick_f rfl rfl (by first | rfl | exact bne_eq_false_iff_eq.2 zE | exact bne_eq_false_iff_eq.2 z0 | exact bne_eq_false_iff_eq.2 z1 | (simp; done) | (simp; omega) | (rw [gP_i]; simp; done) | (rw [gQ_i]; simp; done) | (simp [zM]; done) | (simp [z3]; done) | (rw [z2]; simp; done)) rfl) ?_
      refine At.p (some 110) (P_move rfl rfl) ?_
      refine At.gy (t := 110) rfl (by first | rfl | exact bne_eq_false_iff_eq.2 zE | exact bne_eq_false_iff_eq.2 z0 | exact bne_eq_false_iff_eq.2 z1 | (simp; done) | (simp; omega) | (rw [gP_i]; simp; done) | (rw [gQ_i]; simp; done) | (simp [zM]; done) | (simp [z3]; done) | (rw [z2]; simp; done)) rfl rfl ?_
      refine At.p (some 111) (P_move rfl rfl) ?_
      refine At.gy (t := 110) rfl (by first | rfl | exact bne_eq_false_iff_eq.2 zE | exact bne_eq_false_iff_eq.2 z0 | exact bne_eq_false_iff_eq.2 z1 | (simp; done) | (simp; omega) | (rw [gP_i]; simp; done) | (rw [gQ_i]; simp; done) | (simp [zM]; done) | (simp [z3]; done) | (rw [z2]; simp; done)) rfl rfl ?_
      refine At.p (some 112) (P_len_sl rfl rfl ⟨_, Tryd.underlying36⟩ rfl) ?_
      refine At.gy (t := 110) rfl (by first | rfl | exact bne_eq_false_iff_eq.2 zE | exact bne_eq_false_iff_eq.2 z0 | exact bne_eq_false_iff_eq.2 z1 | (simp; done) | (simp; omega) | (rw [gP_i]; simp; done) | (rw [gQ_i]; simp; done) | (simp [zM]; done) | (simp [z3]; done) | (rw [z2]; simp; done)) rfl rfl ?_
      refine At.p (some 113) (P_cmp rfl rfl rfl rfl rfl rfl) ?_
      refine At.p (some 114) (P_pick_f rfl rfl (by first | rfl | exact bne_eq_false_iff_eq.2 zE | exact bne_eq_false_iff_eq.2 z0 | exact bne_eq_false_iff_eq.2 z1 | (simp; done) | (simp; omega) | (rw [gP_i]; simp; done) | (rw [gQ_i]; simp; done) | (simp [zM]; done) | (simp [z3]; done) | (rw [z2]; simp; done)) rfl) ?_
      refine At.p (some 115) (P_move rfl rfl) ?_
      refine At.gy (t := 115) rfl (by first | rfl | exact bne_eq_false_iff_eq.2 zE | exact bne_eq_false_iff_eq.2 z0 | exact bne_eq_false_iff_eq.2 z1 | (simp; done) | (simp; omega) | (rw [gP_i]; simp; done) | (rw [gQ_i]; simp; done) | (simp [zM]; done) | (simp [z3]; done) | (rw [z2]; simp; done)) rfl rfl ?_
      refine At.p (some 116) (P_move rfl rfl) ?_
      refine At.gy (t := 115) rfl (by first | rfl | exact bne_eq_false_iff_eq.2 zE | exact bne_eq_false_iff_eq.2 z0 | exact bne_eq_false_iff_eq.2 z1 | (simp; done) | (simp; omega) | (rw [gP_i]; simp; done) | (rw [gQ_i]; simp; done) | (simp [zM]; done) | (simp [z3]; done) | (rw [z2]; simp; done)) rfl rfl ?_
      refine At.p (some 117) (P_indexAddr_slz (b := b100) (j := 0) rfl Tryd.underlying36 sz5 rfl (g100a OG) rfl rfl OG) ?_
      refine At.gy (t := 115) rfl (by first | rfl | exact bne_eq_false_iff_eq.2 zE | exact bne_eq_false_iff_eq.2 z0 | exact bne_eq_false_iff_eq.2 z1 | (simp; done) | (simp; omega) | (rw [gP_i]; simp; done) | (rw [gQ_i]; simp; done) | (simp [zM]; done) | (simp [z3]; done) | (rw [z2]; simp; done)) rfl rfl ?_
      refine At.q (some 118) (Q_loadM (k := 100) (f := u8V) (l := (roT (dkS (nxI s (gP i))) (dvS (nxI s (gP i))) (BitVec.ofInt 64 ((gQ i) : Int)) (((rsT (dkS (nxI s (gP i))) (dvS (nxI s (gP i))) (BitVec.ofInt 64 ((gQ i) : Int)) 23 [(BitVec.ofInt 8 (i : Int))] 0).drop 5).take (((rsT (dkS (nxI s (gP i))) (dvS (nxI s (gP i))) (BitVec.ofInt 64 ((gQ i) : Int)) 23 [(BitVec.ofInt 8 (i : Int))] 0).length) - 5)))) (0#8) rfl rfl Tryd.underlying5 rfl rfl OG) ?_
      refine At.gy (t := 115) rfl (by first | rfl | exact bne_eq_false_iff_eq.2 zE | exact bne_eq_false_iff_eq.2 z0 | exact bne_eq_false_iff_eq.2 z1 | (simp; done) | (simp; omega) | (rw [gP_i]; simp; done) | (rw [gQ_i]; simp; done) | (simp [zM]; done) | (simp [z3]; done) | (rw [z2]; simp; done)) rfl rfl ?_
      refine At.p (some 119) (P_move rfl rfl) ?_
      refine At.gy (t := 115) rfl (by first | rfl | exact bne_eq_false_iff_eq.2 zE | exact bne_eq_false_iff_eq.2 z0 | exact bne_eq_false_iff_eq.2 z1 | (simp; done) | (simp; omega) | (rw [gP_i]; simp; done) | (rw [gQ_i]; simp; done) | (simp [zM]; done) | (simp [z3]; done) | (rw [z2]; simp; done)) rfl rfl ?_
      refine At.p (some 120) (P_conv_iw UK.u8 rfl Tryd.underlying3 Tryd.underlying5 rfl) ?_
      refine At.gy (t := 115) rfl (by first | rfl | exact bne_eq_false_iff_eq.2 zE | exact bne_eq_false_iff_eq.2 z0 | exact bne_eq_false_iff_eq.2 z1 | (simp; done) | (simp; omega) | (rw [gP_i]; simp; done) | (rw [gQ_i]; simp; done) | (simp [zM]; done) | (simp [z3]; done) | (rw [z2]; simp; done)) rfl rfl ?_
      refine At.p (some 121) (P_neq_w (n := 8) rfl rfl rfl) ?_
      refine At.p (some 122) (P_pick_f rfl rfl (by first | rfl | exact bne_eq_false_iff_eq.2 zE | exact bne_eq_false_iff_eq.2 z0 | exact bne_eq_false_iff_eq.2 z1 | (simp; done) | (simp; omega) | (rw [gP_i]; simp; done) | (rw [gQ_i]; simp; done) | (simp [zM]; done) | (simp [z3]; done) | (rw [z2]; simp; done)) rfl) ?_
      refine At.nil ?_
      refine At.next ?_
      refine At.cond rfl (fun h122 => (by exfalso; revert h122; first | (simp [z2]; done) | (rw [z2]; simp; done) | (simp; omega))) (fun h122 => ?_)
      have e122 : ((roT (dkS (nxI s (gP i))) (dvS (nxI s (gP i))) (BitVec.ofInt 64 ((gQ i) : Int)) (((rsT (dkS (nxI s (gP i))) (dvS (nxI s (gP i))) (BitVec.ofInt 64 ((gQ i) : Int)) 23 [(BitVec.ofInt 8 (i : Int))] 0).drop 5).take (((rsT (dkS (nxI s (gP i))) (dvS (nxI s (gP i))) (BitVec.ofInt 64 ((gQ i) : Int)) 23 [(BitVec.ofInt 8 (i : Int))] 0).length) - 5))).getD 0 0#8) = (BitVec.ofInt 8 (i : Int)) := bne_eq_false_iff_eq.1 h122
      refine At.skip ?_
      refine At.next ?_
      refine At.region ?_
      refine At.p (some 123) (P_move rfl rfl) ?_
      refine At.p (some 124) (P_add_i rfl rfl rfl (by omega)) ?_
      refine At.p (some 8) (P_assign rfl rfl) ?_
      refine At.nil ?_
      refine At.inb_n ?_
      refine At.next ?_
      refine At.region ?_
      refine At.p (some 29) (P_move rfl rfl) ?_
      refine At.p (some 30) (P_add_i rfl rfl rfl (by omega)) ?_
      refine At.p (some 9) (P_assign rfl rfl) ?_
      refine At.nil ?_
      refine At.next ?_
      refine At.to [(1, _), (5, _), (6, _), (7, _), (8, iV ((gN (i + 1)) : Int)), (9, _)] [(5, ⟨true, b5, 0, 22, ((nxI s (gE (i + 1)))).map u8V, 0⟩), (6, ⟨true, b6, 0, 22, ((nxI s (gE (i + 1)))).map u8V, 0⟩), (7, ⟨true, b7, 0, 24, [iV ((gE (i + 1)) : Int), iV ((gN (i + 1)) : Int), iV ((gU (i + 1)) : Int)], 0⟩)] (AllL.cons_ (rfl) (AllL.cons_ (rfl) (AllL.cons_ (rfl) (AllL.cons_ (rfl) (AllL.cons_ ((by rw [(g_S i).2.1]; rfl)) (AllL.cons_ (rfl) trivial)))))) (AllL.cons_ ((by rw [(g_S i).1]; rfl)) (AllL.cons_ ((by rw [(g_S i).1]; rfl)) (AllL.cons_ ((by rw [(g_S i).1, (g_S i).2.1, (g_S i).2.2]; rfl)) trivial))) ?_
      exact hKc0 _ _ _ (by omega) ⟨i + 1, rfl, rfl, rfl, (by omega)⟩
   · -- cond 28 f
    have e28 : ¬ (i : Int) < (k27 : Int) := of_decide_eq_false h28
    refine At.exit ?_
    refine At.thn_e ?_
    refine At.thn_e ?_
    refine At.inb_hit ?_
    refine At.next ?_
    refine At.seq ?_
    refine At.region ?_
    refine At.s (S_callV (some 125) [] [] (vs := []) rfl en15 rfl V0 (by simp) (c_stands  ) (by rintro _ _ ⟨rfl, rfl⟩; rfl) ?_)
    rintro _ _ ⟨rfl, rfl⟩
    refine At.p (some 4) (P_assign rfl rfl) ?_
    refine At.nil ?_
    refine At.next ?_
    refine At.ret ?_
    have hq0 : true = true := rfl
    refine At.give (.inl rfl) [] (rows' := []) (vs := [_]) rfl ⟨rfl, trivial⟩ rfl (by simp) (by simp) ⟨(by first | (rw [hq0]; try rfl; done) | (rw [← hq0]; try rfl; done) | (simp only [hq0]; try rfl; done) | (simp only [← hq0]; try rfl; done) | rfl), (by first | (rw [hq0]; try rfl; done) | (rw [← hq0]; try rfl; done) | (simp only [hq0]; try rfl; done) | (simp only [← hq0]; try rfl; done) | rfl)⟩


end Go.Proofs.YtcjfkmhijfcciaaDoor
