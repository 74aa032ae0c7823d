import Derived.Test.YtcjfkmhijfcciaaGR6
namespace Go.Proofs.Ytcjfkmhijfcciaa
set_option maxRecDepth 20000
set_option linter.unusedVariables false
set_option linter.unusedSimpArgs false
open Go.SE Go.RowKit
attribute [local irreducible] sumS
set_option maxHeartbeats 2000000 in
theorem k_num1 {br bl cr q : Nat} {Ar : Option Addr} {ns : List Int} {nn : Nat} {bo : Nat} (hAr : 0 < (nsB ns).length → Ar = some ⟨bl, q, none⟩) (hcr : (nsB ns).length ≤ cr) (hnn : ns.length = nn) (hns : ∀ e ∈ ns, 0 ≤ e ∧ e < 65536) (h8 : nn ≤ 8) :
  Con Try.prog 89 [ptr br 0, ptr bo 0] [⟨true, br, 0, 83, [.slice Ar ((nsB ns).length) cr, iV 0], 0⟩, ⟨true, bo, 0, 24, [.slice none 0 0], 0⟩, pRow bl q (nsB ns)] (fun v rs => ∃ A1 c1 A2 b2 c2, (0 < c2 → A2 = some ⟨b2, 0, none⟩) ∧ nn ≤ c2 ∧ v = .tuple #[] ∧ rs = [⟨true, br, 0, 83, [.slice A1 0 c1, iV 0], 0⟩, ⟨true, bo, 0, 24, [.slice A2 nn c2], 0⟩, ⟨true, b2, 0, 3, ns.map iV, c2 - nn⟩]) := by
 refine Con.enter Try.func89 Try.ntmps89 (Nat.le_of_ble_eq_true rfl) rfl fun w => ?_
 refine At.block ?_
 refine At.empty 54 0 3 ?_
 refine At.loopx (I := fun m fr H => ∃ (k : Nat) (A1 : Option Addr) (c1 : Nat) (A2 : Option Addr) (b2 c2 : Nat), m = 2 * (nn - k) ∧ fr = frOf [(0, ptr br 0), (1, ptr bo 0)] ∧ H = hOf [(0, ⟨true, br, 0, 83, [.slice A1 ((nsB (ns.drop k)).length) c1, iV 0], 0⟩), (1, ⟨true, bo, 0, 24, [.slice A2 ((ns.take k).length) c2], 0⟩), (2, pRow bl q (nsB ns)), (54, ⟨true, b2, 0, 3, ((ns.take k)).map iV, c2 - ((ns.take k)).length⟩)] ∧ (k ≤ nn) ∧ (0 < (nsB (ns.drop k)).length → A1 = some ⟨bl, q + 2 * k, none⟩) ∧ ((nsB (ns.drop k)).length ≤ c1) ∧ (0 < c2 → A2 = some ⟨b2, 0, none⟩) ∧ ((ns.take k).length ≤ c2)) ?_ ?_
 ·
  intro Kc0 hKc0
  refine At.to [(0, _), (1, _)] [(0, _), (1, _), (2, _), (54, _)] (AllL.cons_ (rfl) (AllL.cons_ (rfl) trivial)) (AllL.cons_ (rfl) (AllL.cons_ (rfl) (AllL.cons_ (rfl) (AllL.cons_ (rfl) trivial)))) ?_
  exact hKc0 _ _ _ ⟨0, Ar, cr, none, 0, 0, rfl, rfl, rfl, (Nat.zero_le _), hAr, hcr, (fun h => absurd h (Nat.lt_irrefl 0)), (Nat.le_refl _)⟩
 ·
  rintro m fr H ⟨k, A1, c1, A2, b2, c2, rfl, rfl, rfl, hk, hA1, hc1, hA2, hc2⟩ Kc0 hKc0
  refine At.seq ?_
  refine At.seq ?_
  rcases Nat.lt_or_ge k nn with hlt | hge
  · -- case 0
   obtain ⟨m, hm, hm2⟩ := nsNat hns (k := k) (by omega)
   rw [nsB_drop (by omega) hm] at hA1 hc1
   rw [nsB_drop (by omega) hm]
   refine At.region ?_
   refine At.p (some 3) (P_move rfl rfl) ?_
   refine At.s (S_callV (some 4) [(0, _), (2, _)] [] (vs := [_]) rfl en42 rfl (VN (by simp) rfl View.all (VN (by simp) rfl (View.sub (j := (2 * k)) (m := (beN 2 m ++ nsB (ns.drop (k + 1))).length) (by omega) (viewS ((nsB_dropv _ _ (by omega)).trans (nsB_drop (by omega) hm)))) V0)) (by simp) (k_Left (br := br) (bl := bl) (cr := c1) (q := (q + 2 * k)) (Ar := A1) (l := (beN 2 m ++ nsB (ns.drop (k + 1)))) hA1 LN) (by rintro _ _ ⟨rfl, rfl⟩; rfl) ?_)
   rintro _ _ ⟨rfl, rfl⟩
   refine At.p (some 5) (P_cmp rfl rfl rfl rfl rfl rfl) ?_
   refine At.p (some 6) (P_move rfl rfl) ?_
   refine At.gy (t := 6) rfl (decide_eq_true LN) rfl rfl ?_
   refine At.p (some 7) (P_move rfl rfl) ?_
   refine At.gy (t := 6) rfl (decide_eq_true LN) rfl rfl ?_
   refine At.s (S_callV (some 8) [(0, _)] [] (vs := [_]) rfl en90 rfl (VN (by simp) rfl View.all V0) (by simp) (k_Wrong (br := br) (sv := .slice A1 ((beN 2 m ++ nsB (ns.drop (k + 1))).length) c1)) (by rintro _ _ ⟨rfl, rfl⟩; rfl) ?_)
   rintro _ _ ⟨rfl, rfl⟩
   refine At.gy (t := 6) rfl (decide_eq_true LN) rfl rfl ?_
   refine At.p (some 9) (P_not rfl rfl) ?_
   refine At.p (some 10) (P_pick_t rfl rfl (decide_eq_true LN) rfl) ?_
   refine At.nil ?_
   refine At.next ?_
   refine At.cond rfl (fun h10 => ?_) (fun h10 => by exfalso; first | (simp at h10; done) | (simp at h10; omega))
   refine At.skip ?_
   refine At.next ?_
   refine At.block ?_
   refine At.bBruteG [2, 4, 5] (fun fr H => ∃ (B13 : Option Addr) (e13 : Nat) (b14 : Nat) (A15 : Option Addr) (b15 c15 : Nat), fr = frOf [(0, ptr br 0), (1, ptr bo 0), (3, ptr br 0), (4, iV ((beN 2 m ++ nsB (ns.drop (k + 1))).length : Int)), (5, .bool (decide (((beN 2 m ++ nsB (ns.drop (k + 1))).length : Int) > 0))), (6, .bool (decide (((beN 2 m ++ nsB (ns.drop (k + 1))).length : Int) > 0))), (7, ptr br 0), (8, .bool false), (9, .bool (!false)), (11, .slice A2 ((ns.take k).length) c2), (12, ptr br 0), (13, iV (m : Int)), (14, .slice (some ⟨b14, 0, none⟩) 1 1), (15, .slice A15 ((ns.take (k + 1)).length) c15)] ∧ H = hOf [(0, ⟨true, br, 0, 83, [.slice B13 ((nsB (ns.drop (k + 1))).length) e13, iV 0], 0⟩), (1, ⟨true, bo, 0, 24, [.slice A15 ((ns.take (k + 1)).length) c15], 0⟩), (2, pRow bl q (nsB ns)), (14, ⟨true, b14, 0, 3, ([(m : Int)]).map iV, 0⟩), (54, ⟨true, b15, 0, 3, ((ns.take (k + 1))).map iV, c15 - ((ns.take (k + 1))).length⟩)] ∧ (0 < (nsB (ns.drop (k + 1))).length → B13 = some ⟨bl, ((q + 2 * k) + 2), none⟩) ∧ ((nsB (ns.drop (k + 1))).length ≤ e13) ∧ (0 < c15 → A15 = some ⟨b15, 0, none⟩) ∧ ((ns.take (k + 1)).length ≤ c15) ∧ True) (by kernel_rfl) ?_ ?_
   ·
    intro Kb hKb G hGi hGo
    have hG1_0 (B13 : Option Addr) (e13 : Nat) (b14 : Nat) (A15 : Option Addr) (b15 c15 : Nat) (g13c : 0 < (nsB (ns.drop (k + 1))).length → B13 = some ⟨bl, ((q + 2 * k) + 2), none⟩) (g13d : (nsB (ns.drop (k + 1))).length ≤ e13) (g15a : 0 < c15 → A15 = some ⟨b15, 0, none⟩) (g15b : (ns.take (k + 1)).length ≤ c15) : G 0 #[true, true, true, true, true, true] (frOf [(0, ptr br 0), (1, ptr bo 0), (3, ptr br 0), (4, iV ((beN 2 m ++ nsB (ns.drop (k + 1))).length : Int)), (5, .bool (decide (((beN 2 m ++ nsB (ns.drop (k + 1))).length : Int) > 0))), (6, .bool (decide (((beN 2 m ++ nsB (ns.drop (k + 1))).length : Int) > 0))), (7, ptr br 0), (8, .bool false), (9, .bool (!false)), (11, .slice A2 ((ns.take k).length) c2), (12, ptr br 0), (13, iV (m : Int)), (14, .slice (some ⟨b14, 0, none⟩) 1 1), (15, .slice A15 ((ns.take (k + 1)).length) c15)]) (hOf [(0, ⟨true, br, 0, 83, [.slice B13 ((nsB (ns.drop (k + 1))).length) e13, iV 0], 0⟩), (1, ⟨true, bo, 0, 24, [.slice A15 ((ns.take (k + 1)).length) c15], 0⟩), (2, pRow bl q (nsB ns)), (14, ⟨true, b14, 0, 3, ([(m : Int)]).map iV, 0⟩), (54, ⟨true, b15, 0, 3, ((ns.take (k + 1))).map iV, c15 - ((ns.take (k + 1))).length⟩)]) := by
     refine hGo ?_
     refine At.bEnd (by kernel_rfl) ?_
     refine At.next ?_
     exact hKb _ _ ⟨B13, e13, b14, A15, b15, c15, rfl, rfl, g13c, g13d, g15a, g15b, trivial⟩
    have hG1_1 (B13 : Option Addr) (e13 : Nat) (b14 : Nat) (A15 : Option Addr) (b15 c15 : Nat) (g13c : 0 < (nsB (ns.drop (k + 1))).length → B13 = some ⟨bl, ((q + 2 * k) + 2), none⟩) (g13d : (nsB (ns.drop (k + 1))).length ≤ e13) (g15a : 0 < c15 → A15 = some ⟨b15, 0, none⟩) (g15b : (ns.take (k + 1)).length ≤ c15) : G 1 #[true, true, true, true, true, false] (frOf [(0, ptr br 0), (1, ptr bo 0), (3, ptr br 0), (4, iV ((beN 2 m ++ nsB (ns.drop (k + 1))).length : Int)), (5, .bool (decide (((beN 2 m ++ nsB (ns.drop (k + 1))).length : Int) > 0))), (6, .bool (decide (((beN 2 m ++ nsB (ns.drop (k + 1))).length : Int) > 0))), (7, ptr br 0), (8, .bool false), (9, .bool (!false)), (11, .slice A2 ((ns.take k).length) c2), (12, ptr br 0), (13, iV (m : Int)), (14, .slice (some ⟨b14, 0, none⟩) 1 1), (15, .slice A15 ((ns.take (k + 1)).length) c15)]) (hOf [(0, ⟨true, br, 0, 83, [.slice B13 ((nsB (ns.drop (k + 1))).length) e13, iV 0], 0⟩), (1, ⟨true, bo, 0, 24, [.slice A2 ((ns.take k).length) c2], 0⟩), (2, pRow bl q (nsB ns)), (14, ⟨true, b14, 0, 3, ([(m : Int)]).map iV, 0⟩), (54, ⟨true, b15, 0, 3, ((ns.take (k + 1))).map iV, c15 - ((ns.take (k + 1))).length⟩)]) := by
     refine hGo ?_
     refine At.bStep [5] (by kernel_rfl) (by simp) ?_
     refine At.bS true (by kernel_rfl) (S_store none (k := 1) rfl rfl rfl sz24 rfl rfl rfl LN ?_)
     exact At.into (hGi (hG1_0 B13 e13 b14 A15 b15 c15 g13c g13d g15a g15b)) rfl rfl
    have hG1_2 (B13 : Option Addr) (e13 : Nat) (b14 : Nat) (g13c : 0 < (nsB (ns.drop (k + 1))).length → B13 = some ⟨bl, ((q + 2 * k) + 2), none⟩) (g13d : (nsB (ns.drop (k + 1))).length ≤ e13) : G 2 #[true, true, true, true, false, false] (frOf [(0, ptr br 0), (1, ptr bo 0), (3, ptr br 0), (4, iV ((beN 2 m ++ nsB (ns.drop (k + 1))).length : Int)), (5, .bool (decide (((beN 2 m ++ nsB (ns.drop (k + 1))).length : Int) > 0))), (6, .bool (decide (((beN 2 m ++ nsB (ns.drop (k + 1))).length : Int) > 0))), (7, ptr br 0), (8, .bool false), (9, .bool (!false)), (11, .slice A2 ((ns.take k).length) c2), (12, ptr br 0), (13, iV (m : Int)), (14, .slice (some ⟨b14, 0, none⟩) 1 1)]) (hOf [(0, ⟨true, br, 0, 83, [.slice B13 ((nsB (ns.drop (k + 1))).length) e13, iV 0], 0⟩), (1, ⟨true, bo, 0, 24, [.slice A2 ((ns.take k).length) c2], 0⟩), (2, pRow bl q (nsB ns)), (14, ⟨true, b14, 0, 3, ([(m : Int)]).map iV, 0⟩), (54, ⟨true, b2, 0, 3, ((ns.take k)).map iV, c2 - ((ns.take k)).length⟩)]) := by
     clear hG1_0
     refine hGo ?_
     refine At.bStep [4] (by kernel_rfl) (by simp) ?_
     refine At.bS true (by kernel_rfl) (S_appendM (some 15) 54 ((ns.take (k + 1))) (f := iV) (l := (ns.take k)) (L := [(m : Int)]) (m := 1) rfl Try.underlying24 Try.underlying24 (.inr ⟨_, rfl⟩) sz3 by3 ze3 rfl rfl (fun h => ⟨hA2 h, rfl⟩) LN OG (Src.all (k := 14) (l := [(m : Int)]) rfl (fun _ => rfl) (fun _ => ⟨rfl, rfl, rfl⟩) LN) (fun _ => rfl) OG OG (take_succ_i (by omega) hm) LN ?_)
     intro A15 b15 c15 g15a g15b
     exact At.into (hGi (hG1_1 B13 e13 b14 A15 b15 c15 g13c g13d g15a g15b)) rfl rfl
    have hG1_3 (B13 : Option Addr) (e13 : Nat) (g13c : 0 < (nsB (ns.drop (k + 1))).length → B13 = some ⟨bl, ((q + 2 * k) + 2), none⟩) (g13d : (nsB (ns.drop (k + 1))).length ≤ e13) : G 3 #[true, true, true, false, false, false] (frOf [(0, ptr br 0), (1, ptr bo 0), (3, ptr br 0), (4, iV ((beN 2 m ++ nsB (ns.drop (k + 1))).length : Int)), (5, .bool (decide (((beN 2 m ++ nsB (ns.drop (k + 1))).length : Int) > 0))), (6, .bool (decide (((beN 2 m ++ nsB (ns.drop (k + 1))).length : Int) > 0))), (7, ptr br 0), (8, .bool false), (9, .bool (!false)), (11, .slice A2 ((ns.take k).length) c2), (12, ptr br 0), (13, iV (m : Int))]) (hOf [(0, ⟨true, br, 0, 83, [.slice B13 ((nsB (ns.drop (k + 1))).length) e13, iV 0], 0⟩), (1, ⟨true, bo, 0, 24, [.slice A2 ((ns.take k).length) c2], 0⟩), (2, pRow bl q (nsB ns)), (54, ⟨true, b2, 0, 3, ((ns.take k)).map iV, c2 - ((ns.take k)).length⟩)]) := by
     clear hG1_0 hG1_1
     refine hGo ?_
     refine At.bStep [3] (by kernel_rfl) (by simp) ?_
     refine At.bS false (by kernel_rfl) (S_buildSliceV (some 14) 14 (([(m : Int)]).map iV) rfl Try.underlying24 sz3 ze3 rfl rfl (by decide) (by decide) rfl rfl (fun b14 => ?_))
     exact At.into (hGi (hG1_2 B13 e13 b14 g13c g13d)) rfl rfl
    have hG1_4  : G 4 #[true, true, false, false, false, false] (frOf [(0, ptr br 0), (1, ptr bo 0), (3, ptr br 0), (4, iV ((beN 2 m ++ nsB (ns.drop (k + 1))).length : Int)), (5, .bool (decide (((beN 2 m ++ nsB (ns.drop (k + 1))).length : Int) > 0))), (6, .bool (decide (((beN 2 m ++ nsB (ns.drop (k + 1))).length : Int) > 0))), (7, ptr br 0), (8, .bool false), (9, .bool (!false)), (11, .slice A2 ((ns.take k).length) c2), (12, ptr br 0)]) (hOf [(0, ⟨true, br, 0, 83, [.slice A1 ((beN 2 m ++ nsB (ns.drop (k + 1))).length) c1, iV 0], 0⟩), (1, ⟨true, bo, 0, 24, [.slice A2 ((ns.take k).length) c2], 0⟩), (2, pRow bl q (nsB ns)), (54, ⟨true, b2, 0, 3, ((ns.take k)).map iV, c2 - ((ns.take k)).length⟩)]) := by
     clear hG1_0 hG1_1 hG1_2
     refine hGo ?_
     refine At.bStep [2] (by kernel_rfl) (by simp) ?_
     refine At.bS true (by kernel_rfl) (S_callR (some 13) [(0, _)] [(2, _)] [0] (vs := [_, _]) rfl en39 rfl (ON rfl rfl O0) (by simp) (VN (by simp) rfl (View.sub (j := (2 * k)) (m := (beN 2 m ++ nsB (ns.drop (k + 1))).length) (by omega) (viewS ((nsB_dropv _ _ (by omega)).trans (nsB_drop (by omega) hm)))) V0) (by simp) (k_UintN (br := br) (bl := bl) (cr := c1) (q := (q + 2 * k)) (Ar := A1) (w := 2) (m := m) (rest := nsB (ns.drop (k + 1))) (beI_beN2 LN) (by decide) (by decide) hA1 LN) (by rintro _ _ ⟨B13, e13, g13c, g13d, rfl, rfl⟩; rfl) ?_)
     rintro _ _ ⟨B13, e13, g13c, g13d, rfl, rfl⟩
     exact At.into (hGi (hG1_3 B13 e13 g13c g13d)) rfl rfl
    have hG1_5  : G 5 #[false, true, false, false, false, false] (frOf [(0, ptr br 0), (1, ptr bo 0), (3, ptr br 0), (4, iV ((beN 2 m ++ nsB (ns.drop (k + 1))).length : Int)), (5, .bool (decide (((beN 2 m ++ nsB (ns.drop (k + 1))).length : Int) > 0))), (6, .bool (decide (((beN 2 m ++ nsB (ns.drop (k + 1))).length : Int) > 0))), (7, ptr br 0), (8, .bool false), (9, .bool (!false)), (12, ptr br 0)]) (hOf [(0, ⟨true, br, 0, 83, [.slice A1 ((beN 2 m ++ nsB (ns.drop (k + 1))).length) c1, iV 0], 0⟩), (1, ⟨true, bo, 0, 24, [.slice A2 ((ns.take k).length) c2], 0⟩), (2, pRow bl q (nsB ns)), (54, ⟨true, b2, 0, 3, ((ns.take k)).map iV, c2 - ((ns.take k)).length⟩)]) := by
     clear hG1_0 hG1_1 hG1_2
     refine hGo ?_
     refine At.bStep [0, 2] (by kernel_rfl) (by simp) ?_
     refine ⟨?_, ?_⟩
     ·
      refine At.bSQ (some 11) (Q_loadO (k := 1) rfl rfl Try.underlying24 rfl rfl rfl) ?_
      exact At.into (hGi (hG1_4 )) rfl rfl
     ·
      refine At.bS true (by kernel_rfl) (S_callR (some 13) [(0, _)] [(2, _)] [0] (vs := [_, _]) rfl en39 rfl (ON rfl rfl O0) (by simp) (VN (by simp) rfl (View.sub (j := (2 * k)) (m := (beN 2 m ++ nsB (ns.drop (k + 1))).length) (by omega) (viewS ((nsB_dropv _ _ (by omega)).trans (nsB_drop (by omega) hm)))) V0) (by simp) (k_UintN (br := br) (bl := bl) (cr := c1) (q := (q + 2 * k)) (Ar := A1) (w := 2) (m := m) (rest := nsB (ns.drop (k + 1))) (beI_beN2 LN) (by decide) (by decide) hA1 LN) (by rintro _ _ ⟨B13, e13, g13c, g13d, rfl, rfl⟩; rfl) ?_)
      rintro _ _ ⟨B13, e13, g13c, g13d, rfl, rfl⟩
      refine At.bQ  0 (some 11) (Q_loadO (k := 1) rfl rfl Try.underlying24 rfl rfl rfl) (by kernel_rfl) (by kernel_rfl) ?_
      exact At.into (hGi (hG1_3 B13 e13 g13c g13d)) rfl rfl
    clear hG1_0 hG1_1 hG1_2 hG1_3 hG1_4
    refine hGo ?_
    refine At.bP  1 (some 12) (P_move rfl rfl) (by kernel_rfl) (by kernel_rfl) ?_
    exact At.into (hGi (hG1_5 )) rfl rfl
   ·
    rintro fr H ⟨B13, e13, b14, A15, b15, c15, rfl, rfl, g13c, g13d, g15a, g15b, -⟩
    refine At.inb_n ?_
    refine At.next ?_
    refine At.to [(0, _), (1, _)] [(0, _), (1, _), (2, _), (54, _)] (AllL.cons_ (rfl) (AllL.cons_ (rfl) trivial)) (AllL.cons_ (rfl) (AllL.cons_ (rfl) (AllL.cons_ (rfl) (AllL.cons_ (rfl) trivial)))) ?_
    exact hKc0 _ _ _ (by omega) ⟨(k + 1), B13, e13, A15, b15, c15, rfl, rfl, rfl, (by omega), (fun h => g13c h), g13d, g15a, g15b⟩
  · -- case 1
   have hkn : k = nn := by omega
   subst hkn
   have hz : (nsB (ns.drop k)).length = 0 := by rw [nsB_len, List.length_drop]; omega
   refine At.region ?_
   refine At.p (some 3) (P_move rfl rfl) ?_
   refine At.s (S_callV (some 4) [(0, _), (2, _)] [] (vs := [_]) rfl en42 rfl (VN (by simp) rfl View.all (VN (by simp) rfl (View.sub (j := (2 * k)) (m := (nsB (ns.drop k)).length) (by omega) (viewS (nsB_dropv _ _ (by omega)))) V0)) (by simp) (k_Left (br := br) (bl := bl) (cr := c1) (q := (q + 2 * k)) (Ar := A1) (l := (nsB (ns.drop k))) hA1 LN) (by rintro _ _ ⟨rfl, rfl⟩; rfl) ?_)
   rintro _ _ ⟨rfl, rfl⟩
   refine At.p (some 5) (P_cmp rfl rfl rfl rfl rfl rfl) ?_
   refine At.p (some 6) (P_move rfl rfl) ?_
   refine At.gn (some 7) (t := 6) rfl (decide_eq_false LN) rfl rfl ?_
   refine At.gn (some 8) (t := 6) rfl (decide_eq_false LN) rfl rfl ?_
   refine At.gn (some 9) (t := 6) rfl (decide_eq_false LN) rfl rfl ?_
   refine At.p (some 10) (P_pick_f rfl rfl (decide_eq_false LN) rfl) ?_
   refine At.nil ?_
   refine At.next ?_
   refine At.cond rfl (fun h10 => by exfalso; first | (simp at h10; done) | (simp at h10; omega)) (fun h10 => ?_)
   refine At.exit ?_
   refine At.thn_e ?_
   refine At.thn_e ?_
   refine At.inb_hit ?_
   have hts : ns.take k = ns := List.take_of_length_le (by omega)
   refine At.give (.inr rfl) [0, 1, 54] (rows' := [_, _, _]) (vs := []) rfl trivial rfl (by simp) (by simp) ⟨A1, c1, A2, b2, c2, hA2, by rw [← hnn]; exact Nat.le_trans (Nat.le_of_eq (by rw [hts])) hc2, rfl, by rw [hz, hts, hnn]⟩

set_option maxHeartbeats 2000000 in
theorem k_insN {br : Nat} {ns : List Int} {nn : Nat} {Ab : Option Addr} {cb bb qb : Nat} {bo : Nat} (hnn : ns.length = nn) (hns : ∀ e ∈ ns, 0 ≤ e ∧ e < 65536) (hAb : 0 < (nsB ns).length → Ab = some ⟨bb, qb, none⟩) (h8 : nn ≤ 8) :
  Con Try.prog 93 [ptr br 0, .slice Ab (nsB ns).length cb, .func (.func 89) #[] #[ptr bo 0]] [⟨true, bo, 0, 24, [.slice none 0 0], 0⟩, pRow bb qb (nsB ns)] (fun v rs => ∃ A2 b2 c2, (0 < c2 → A2 = some ⟨b2, 0, none⟩) ∧ nn ≤ c2 ∧ v = .tuple #[] ∧ rs = [⟨true, bo, 0, 24, [.slice A2 nn c2], 0⟩, ⟨true, b2, 0, 3, ns.map iV, c2 - nn⟩]) := by
 refine Con.enter Try.func93 Try.ntmps93 (Nat.le_of_ble_eq_true rfl) rfl fun w => ?_
 refine At.seq ?_
 refine At.region ?_
 refine At.p (some 7) (P_move rfl rfl) ?_
 refine At.s (S_callV (some 8) [(1, _)] [8, 2008] (vs := [_]) rfl en9 rfl (VN (by simp) rfl View.all V0) (by simp) (k_New (b := (nsB ns)) (Ab := Ab) (nb := ((nsB ns).length)) (cb := cb) (bb := bb) (qb := qb) LN hAb LN) (by rintro _ _ ⟨b8, bb8, A8, c8, g8a, g8b, rfl, rfl⟩; rfl) ?_)
 rintro _ _ ⟨b8, bb8, A8, c8, g8a, g8b, rfl, rfl⟩
 refine At.p (some 6) (P_assign rfl rfl) ?_
 refine At.nil ?_
 refine At.next ?_
 refine At.seq ?_
 refine At.region ?_
 refine At.p (some 9) (P_move rfl rfl) ?_
 refine At.p (some 10) (P_move rfl rfl) ?_
 refine At.s (S_callF (some 11) [(8, _), (0, _)] [(2008, _)] [8, 0, 54] (fb := []) (vs := [_]) (lb := [_]) rfl rfl en89 rfl (ON rfl rfl (ON rfl rfl O0)) (by simp) (VN (by simp) rfl (View.sub (j := 0) (m := (nsB ns).length) (by omega) (viewS List.drop_zero)) V0) (by simp) (k_num1 (br := b8) (bl := bb8) (cr := c8) (q := 0) (Ar := A8) (ns := ns) (nn := nn) (bo := bo) (fun h => g8a (by omega)) LN hnn hns LN) (by rintro _ _ ⟨X11, x11, A11i, b11i, c11i, g11i, g11j, rfl, rfl⟩; rfl) ?_)
 rintro _ _ ⟨X11, x11, A11i, b11i, c11i, g11i, g11j, rfl, rfl⟩
 refine At.nil ?_
 refine At.next ?_
 refine At.seq ?_
 refine At.region ?_
 refine At.p (some 12) (P_move rfl rfl) ?_
 refine At.s (S_callV (some 13) [(8, _), (98, _)] [] (vs := [_]) rfl en13 rfl (VN (by simp) rfl View.all (VE rfl rfl V0)) (by simp) (k_Done (br := b8) (bl := bb8) (cr := x11) (q := 0) (Ar := X11) (l := ([] : List (BitVec 8))) (fun h => absurd h (Nat.lt_irrefl 0)) LN LN) (by rintro _ _ ⟨rfl, rfl⟩; rfl) ?_)
 rintro _ _ ⟨rfl, rfl⟩
 refine At.p (some 14) (P_cmp rfl rfl rfl rfl rfl rfl) ?_
 refine At.nil ?_
 refine At.next ?_
 refine At.cond rfl (fun h14 => by simp at h14) (fun h14 => ?_)
 have e14 : 0 = 0 := bne_eq_false_iff_eq.1 h14
 refine At.skip ?_
 refine At.give (.inr rfl) [0, 54] (rows' := [_, _]) (vs := []) rfl trivial rfl (by simp) (by simp) ⟨A11i, b11i, c11i, g11i, g11j, rfl, rfl⟩

set_option maxHeartbeats 2000000 in
theorem k_witN1 {br bl cr q : Nat} {Ar : Option Addr} {ns : List Int} {nn : Nat} {rest : List (BitVec 8)} {bo : Nat} (hAr : 0 < (beN 1 (2 * nn) ++ (nsB ns ++ rest)).length → Ar = some ⟨bl, q, none⟩) (hcr : (beN 1 (2 * nn) ++ (nsB ns ++ rest)).length ≤ cr) (hnn : ns.length = nn) (hns : ∀ e ∈ ns, 0 ≤ e ∧ e < 65536) (h8 : nn ≤ 8) (hl : rest.length ≤ 500000) :
  Con Try.prog 88 [ptr br 0, iV 1, .func (.func 89) #[] #[ptr bo 0]] [⟨true, br, 0, 83, [.slice Ar ((beN 1 (2 * nn) ++ (nsB ns ++ rest)).length) cr, iV 0], 0⟩, ⟨true, bo, 0, 24, [.slice none 0 0], 0⟩, pRow bl q (beN 1 (2 * nn) ++ (nsB ns ++ rest))] (fun v rs => ∃ A1 c1 A2 b2 c2, (0 < rest.length → A1 = some ⟨bl, q + 1 + 2 * nn, none⟩) ∧ rest.length ≤ c1 ∧ (0 < c2 → A2 = some ⟨b2, 0, none⟩) ∧ nn ≤ c2 ∧ v = .tuple #[] ∧ rs = [⟨true, br, 0, 83, [.slice A1 rest.length c1, iV 0], 0⟩, ⟨true, bo, 0, 24, [.slice A2 nn c2], 0⟩, ⟨true, b2, 0, 3, ns.map iV, c2 - nn⟩]) := by
 refine Con.enter Try.func88 Try.ntmps88 (Nat.le_of_ble_eq_true rfl) rfl fun w => ?_
 refine At.region ?_
 refine At.p (some 6) (P_move rfl rfl) ?_
 refine At.p (some 7) (P_move rfl rfl) ?_
 refine At.p (some 8) (P_move rfl rfl) ?_
 refine At.s (S_callR (some 9) [(0, _)] [(2, _)] [0, 9] (vs := [_, _, _, _]) rfl en10 rfl (ON rfl rfl O0) (by simp) (VN (by simp) rfl (View.sub (j := 0) (m := (beN 1 (2 * nn) ++ (nsB ns ++ rest)).length) (by omega) (viewS List.drop_zero)) V0) (by simp) (k_VecA (br := br) (bl := bl) (cr := cr) (q := q) (Ar := Ar) (w := 1) (m := (2 * nn)) (lo := 0) (hi := 65535) (x := nsB ns) (rest := rest) (beI_beN1 LN) (by decide) (by decide) LN LN LN LN hAr LN) (by rintro _ _ ⟨B9, e9, A9, b9, c9, g9c, g9d, g9a, g9b, rfl, rfl⟩; rfl) ?_)
 rintro _ _ ⟨B9, e9, A9, b9, c9, g9c, g9d, g9a, g9b, rfl, rfl⟩
 refine At.p (some 10) (P_move rfl rfl) ?_
 refine At.s (S_callR (some 11) [(1, _)] [(9, _)] [1, 54] (vs := [_, _, _]) rfl en93 rfl (ON rfl rfl O0) (by simp) (VN (by simp) rfl View.all V0) (by simp) (k_insN (br := br) (ns := ns) (nn := nn) (Ab := A9) (cb := c9) (bb := b9) (qb := 0) (bo := bo) hnn hns (fun h => g9a (by omega)) LN) (by rintro _ _ ⟨A11i, b11i, c11i, g11i, g11j, rfl, rfl⟩; rfl) ?_)
 rintro _ _ ⟨A11i, b11i, c11i, g11i, g11j, rfl, rfl⟩
 refine At.nil ?_
 refine At.give (.inr rfl) [0, 1, 54] (rows' := [_, _, _]) (vs := []) rfl trivial rfl (by simp) (by simp) ⟨B9, e9, A11i, b11i, c11i, g9c, g9d, g11i, g11j, rfl, rfl⟩

set_option maxHeartbeats 2000000 in
theorem k_witN2 {br bl cr q : Nat} {Ar : Option Addr} {ns : List Int} {nn : Nat} {rest : List (BitVec 8)} {bo : Nat} (hAr : 0 < (beN 2 (2 * nn) ++ (nsB ns ++ rest)).length → Ar = some ⟨bl, q, none⟩) (hcr : (beN 2 (2 * nn) ++ (nsB ns ++ rest)).length ≤ cr) (hnn : ns.length = nn) (hns : ∀ e ∈ ns, 0 ≤ e ∧ e < 65536) (h8 : nn ≤ 8) (hl : rest.length ≤ 500000) :
  Con Try.prog 88 [ptr br 0, iV 2, .func (.func 89) #[] #[ptr bo 0]] [⟨true, br, 0, 83, [.slice Ar ((beN 2 (2 * nn) ++ (nsB ns ++ rest)).length) cr, iV 0], 0⟩, ⟨true, bo, 0, 24, [.slice none 0 0], 0⟩, pRow bl q (beN 2 (2 * nn) ++ (nsB ns ++ rest))] (fun v rs => ∃ A1 c1 A2 b2 c2, (0 < rest.length → A1 = some ⟨bl, q + 2 + 2 * nn, none⟩) ∧ rest.length ≤ c1 ∧ (0 < c2 → A2 = some ⟨b2, 0, none⟩) ∧ nn ≤ c2 ∧ v = .tuple #[] ∧ rs = [⟨true, br, 0, 83, [.slice A1 rest.length c1, iV 0], 0⟩, ⟨true, bo, 0, 24, [.slice A2 nn c2], 0⟩, ⟨true, b2, 0, 3, ns.map iV, c2 - nn⟩]) := by
 refine Con.enter Try.func88 Try.ntmps88 (Nat.le_of_ble_eq_true rfl) rfl fun w => ?_
 refine At.region ?_
 refine At.p (some 6) (P_move rfl rfl) ?_
 refine At.p (some 7) (P_move rfl rfl) ?_
 refine At.p (some 8) (P_move rfl rfl) ?_
 refine At.s (S_callR (some 9) [(0, _)] [(2, _)] [0, 9] (vs := [_, _, _, _]) rfl en10 rfl (ON rfl rfl O0) (by simp) (VN (by simp) rfl (View.sub (j := 0) (m := (beN 2 (2 * nn) ++ (nsB ns ++ rest)).length) (by omega) (viewS List.drop_zero)) V0) (by simp) (k_VecA (br := br) (bl := bl) (cr := cr) (q := q) (Ar := Ar) (w := 2) (m := (2 * nn)) (lo := 0) (hi := 65535) (x := nsB ns) (rest := rest) (beI_beN2 LN) (by decide) (by decide) LN LN LN LN hAr LN) (by rintro _ _ ⟨B9, e9, A9, b9, c9, g9c, g9d, g9a, g9b, rfl, rfl⟩; rfl) ?_)
 rintro _ _ ⟨B9, e9, A9, b9, c9, g9c, g9d, g9a, g9b, rfl, rfl⟩
 refine At.p (some 10) (P_move rfl rfl) ?_
 refine At.s (S_callR (some 11) [(1, _)] [(9, _)] [1, 54] (vs := [_, _, _]) rfl en93 rfl (ON rfl rfl O0) (by simp) (VN (by simp) rfl View.all V0) (by simp) (k_insN (br := br) (ns := ns) (nn := nn) (Ab := A9) (cb := c9) (bb := b9) (qb := 0) (bo := bo) hnn hns (fun h => g9a (by omega)) LN) (by rintro _ _ ⟨A11i, b11i, c11i, g11i, g11j, rfl, rfl⟩; rfl) ?_)
 rintro _ _ ⟨A11i, b11i, c11i, g11i, g11j, rfl, rfl⟩
 refine At.nil ?_
 refine At.give (.inr rfl) [0, 1, 54] (rows' := [_, _, _]) (vs := []) rfl trivial rfl (by simp) (by simp) ⟨B9, e9, A11i, b11i, c11i, g9c, g9d, g11i, g11j, rfl, rfl⟩

set_option maxHeartbeats 2000000 in
theorem k_nums1 {br bl cr q : Nat} {Ar : Option Addr} {ns : List Int} {nn : Nat} {rest : List (BitVec 8)} {most : Nat} (hAr : 0 < (beN 1 (2 * nn) ++ (nsB ns ++ rest)).length → Ar = some ⟨bl, q, none⟩) (hcr : (beN 1 (2 * nn) ++ (nsB ns ++ rest)).length ≤ cr) (hnn : ns.length = nn) (hns : ∀ e ∈ ns, 0 ≤ e ∧ e < 65536) (h1 : 1 ≤ nn) (hm : nn ≤ most) (h8 : nn ≤ 8) (hl : rest.length ≤ 500000) :
  Con Try.prog 45 [ptr br 0, iV 1, iV (most : Int)] [⟨true, br, 0, 83, [.slice Ar ((beN 1 (2 * nn) ++ (nsB ns ++ rest)).length) cr, iV 0], 0⟩, pRow bl q (beN 1 (2 * nn) ++ (nsB ns ++ rest))] (fun v rs => ∃ A1 c1 A2 b2 c2, (0 < rest.length → A1 = some ⟨bl, q + 1 + 2 * nn, none⟩) ∧ rest.length ≤ c1 ∧ (0 < c2 → A2 = some ⟨b2, 0, none⟩) ∧ nn ≤ c2 ∧ v = .slice A2 nn c2 ∧ rs = [⟨true, br, 0, 83, [.slice A1 rest.length c1, iV 0], 0⟩, ⟨true, b2, 0, 3, ns.map iV, c2 - nn⟩]) := by
 refine Con.enter Try.func45 Try.ntmps45 (Nat.le_of_ble_eq_true rfl) rfl fun w => ?_
 refine At.seq ?_
 refine At.region ?_
 refine At.p (some 6) (P_assign rfl rfl) ?_
 refine At.nil ?_
 refine At.next ?_
 refine At.seq ?_
 refine At.region ?_
 refine At.s (S_alloc (some 7) 7 (zs := [.slice none 0 0]) rfl ze24 rfl (fun b7 => ?_))
 refine At.nil ?_
 refine At.next ?_
 refine At.seq ?_
 refine At.region ?_
 refine At.p (some 8) (P_move rfl rfl) ?_
 refine At.p (some 9) (P_move rfl rfl) ?_
 refine At.p (some 10) (P_makeFunc (vs := [_]) rfl rfl) ?_
 refine At.s (S_callR (some 11) [(0, _), (7, _)] [(1, _)] [0, 7, 54] (vs := [_, _, _]) rfl en88 rfl (ON rfl rfl (ON rfl rfl O0)) (by simp) (VN (by simp) rfl (View.sub (j := 0) (m := (beN 1 (2 * nn) ++ (nsB ns ++ rest)).length) (by omega) (viewS List.drop_zero)) V0) (by simp) (k_witN1 (br := br) (bl := bl) (cr := cr) (q := q) (Ar := Ar) (ns := ns) (nn := nn) (rest := rest) (bo := b7) hAr LN hnn hns LN LN) (by rintro _ _ ⟨B11, e11, A11i, b11i, c11i, g11c, g11d, g11i, g11j, rfl, rfl⟩; rfl) ?_)
 rintro _ _ ⟨B11, e11, A11i, b11i, c11i, g11c, g11d, g11i, g11j, rfl, rfl⟩
 refine At.nil ?_
 refine At.next ?_
 refine At.seq ?_
 refine At.region ?_
 refine At.p (some 12) (P_move rfl rfl) ?_
 refine At.q (some 13) (Q_loadO (k := 7) rfl rfl Try.underlying24 rfl rfl rfl) ?_
 refine At.p (some 14) (P_len_sl rfl rfl ⟨_, Try.underlying24⟩ rfl) ?_
 refine At.p (some 15) (P_move rfl rfl) ?_
 refine At.s (S_callV (some 16) [] [] (vs := [_, _, _]) rfl en91 rfl V0 (by simp) (k_counted (br := br) (n := nn) (most := most) LN LN) (by rintro _ _ ⟨rfl, rfl⟩; rfl) ?_)
 rintro _ _ ⟨rfl, rfl⟩
 refine At.nil ?_
 refine At.next ?_
 refine At.seq ?_
 refine At.region ?_
 refine At.q (some 17) (Q_loadO (k := 7) rfl rfl Try.underlying24 rfl rfl rfl) ?_
 refine At.p (some 6) (P_assign rfl rfl) ?_
 refine At.nil ?_
 refine At.next ?_
 refine At.ret ?_
 refine At.give (.inl rfl) [0, 54] (rows' := [_, _]) (vs := [_]) rfl ⟨rfl, trivial⟩ rfl (by simp) (by simp) ⟨B11, e11, A11i, b11i, c11i, g11c, g11d, g11i, g11j, rfl, rfl⟩

set_option maxHeartbeats 2000000 in
theorem k_nums2 {br bl cr q : Nat} {Ar : Option Addr} {ns : List Int} {nn : Nat} {rest : List (BitVec 8)} {most : Nat} (hAr : 0 < (beN 2 (2 * nn) ++ (nsB ns ++ rest)).length → Ar = some ⟨bl, q, none⟩) (hcr : (beN 2 (2 * nn) ++ (nsB ns ++ rest)).length ≤ cr) (hnn : ns.length = nn) (hns : ∀ e ∈ ns, 0 ≤ e ∧ e < 65536) (h1 : 1 ≤ nn) (hm : nn ≤ most) (h8 : nn ≤ 8) (hl : rest.length ≤ 500000) :
  Con Try.prog 45 [ptr br 0, iV 2, iV (most : Int)] [⟨true, br, 0, 83, [.slice Ar ((beN 2 (2 * nn) ++ (nsB ns ++ rest)).length) cr, iV 0], 0⟩, pRow bl q (beN 2 (2 * nn) ++ (nsB ns ++ rest))] (fun v rs => ∃ A1 c1 A2 b2 c2, (0 < rest.length → A1 = some ⟨bl, q + 2 + 2 * nn, none⟩) ∧ rest.length ≤ c1 ∧ (0 < c2 → A2 = some ⟨b2, 0, none⟩) ∧ nn ≤ c2 ∧ v = .slice A2 nn c2 ∧ rs = [⟨true, br, 0, 83, [.slice A1 rest.length c1, iV 0], 0⟩, ⟨true, b2, 0, 3, ns.map iV, c2 - nn⟩]) := by
 refine Con.enter Try.func45 Try.ntmps45 (Nat.le_of_ble_eq_true rfl) rfl fun w => ?_
 refine At.seq ?_
 refine At.region ?_
 refine At.p (some 6) (P_assign rfl rfl) ?_
 refine At.nil ?_
 refine At.next ?_
 refine At.seq ?_
 refine At.region ?_
 refine At.s (S_alloc (some 7) 7 (zs := [.slice none 0 0]) rfl ze24 rfl (fun b7 => ?_))
 refine At.nil ?_
 refine At.next ?_
 refine At.seq ?_
 refine At.region ?_
 refine At.p (some 8) (P_move rfl rfl) ?_
 refine At.p (some 9) (P_move rfl rfl) ?_
 refine At.p (some 10) (P_makeFunc (vs := [_]) rfl rfl) ?_
 refine At.s (S_callR (some 11) [(0, _), (7, _)] [(1, _)] [0, 7, 54] (vs := [_, _, _]) rfl en88 rfl (ON rfl rfl (ON rfl rfl O0)) (by simp) (VN (by simp) rfl (View.sub (j := 0) (m := (beN 2 (2 * nn) ++ (nsB ns ++ rest)).length) (by omega) (viewS List.drop_zero)) V0) (by simp) (k_witN2 (br := br) (bl := bl) (cr := cr) (q := q) (Ar := Ar) (ns := ns) (nn := nn) (rest := rest) (bo := b7) hAr LN hnn hns LN LN) (by rintro _ _ ⟨B11, e11, A11i, b11i, c11i, g11c, g11d, g11i, g11j, rfl, rfl⟩; rfl) ?_)
 rintro _ _ ⟨B11, e11, A11i, b11i, c11i, g11c, g11d, g11i, g11j, rfl, rfl⟩
 refine At.nil ?_
 refine At.next ?_
 refine At.seq ?_
 refine At.region ?_
 refine At.p (some 12) (P_move rfl rfl) ?_
 refine At.q (some 13) (Q_loadO (k := 7) rfl rfl Try.underlying24 rfl rfl rfl) ?_
 refine At.p (some 14) (P_len_sl rfl rfl ⟨_, Try.underlying24⟩ rfl) ?_
 refine At.p (some 15) (P_move rfl rfl) ?_
 refine At.s (S_callV (some 16) [] [] (vs := [_, _, _]) rfl en91 rfl V0 (by simp) (k_counted (br := br) (n := nn) (most := most) LN LN) (by rintro _ _ ⟨rfl, rfl⟩; rfl) ?_)
 rintro _ _ ⟨rfl, rfl⟩
 refine At.nil ?_
 refine At.next ?_
 refine At.seq ?_
 refine At.region ?_
 refine At.q (some 17) (Q_loadO (k := 7) rfl rfl Try.underlying24 rfl rfl rfl) ?_
 refine At.p (some 6) (P_assign rfl rfl) ?_
 refine At.nil ?_
 refine At.next ?_
 refine At.ret ?_
 refine At.give (.inl rfl) [0, 54] (rows' := [_, _]) (vs := [_]) rfl ⟨rfl, trivial⟩ rfl (by simp) (by simp) ⟨B11, e11, A11i, b11i, c11i, g11c, g11d, g11i, g11j, rfl, rfl⟩


end Go.Proofs.Ytcjfkmhijfcciaa

