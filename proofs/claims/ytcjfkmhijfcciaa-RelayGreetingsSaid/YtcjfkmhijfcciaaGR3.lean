import Derived.Test.YtcjfkmhijfcciaaGR2
namespace Go.Proofs.Ytcjfkmhijfcciaa
set_option maxRecDepth 20000
set_option linter.unusedVariables false
set_option linter.unusedSimpArgs false
open Go.SE Go.RowKit
attribute [local irreducible] sumS
set_option maxHeartbeats 2000000 in
theorem k_MPut {x : List (BitVec 8)} {Ax : Option Addr} {nx cx bx qx : Nat} (hnx : x.length = nx) (hAx : 0 < nx → Ax = some ⟨bx, qx, none⟩) (hl : nx ≤ 2048) :
  Con Try.prog 7 [.agg #[iV 1, .slice Ax nx cx]] [pRow bx qx x] (fun v rs => ∃ (A' : Option Addr) (b' c' : Nat), (0 < c' → A' = some ⟨b', 0, none⟩) ∧ (beN 1 1 ++ beN 3 nx ++ x).length ≤ c' ∧ v = .tuple #[.slice A' (beN 1 1 ++ beN 3 nx ++ x).length c', iV 0] ∧ rs = [⟨true, b', 0, 5, (beN 1 1 ++ beN 3 nx ++ x).map u8V, c' - (beN 1 1 ++ beN 3 nx ++ x).length⟩]) := by
 refine Con.enter Try.func7 Try.ntmps7 (Nat.le_of_ble_eq_true rfl) rfl fun w => ?_
 refine At.seq ?_
 refine At.region ?_
 refine At.s (S_box (some 1) 1 (zs := [iV 1, .slice Ax nx cx]) rfl rfl rfl (fun b1 => ?_))
 refine At.p (some 2) (P_assign rfl rfl) ?_
 refine At.p (some 3) (P_assign rfl rfl) ?_
 refine At.nil ?_
 refine At.next ?_
 refine At.seq ?_
 refine At.region ?_
 refine At.p (some 5) (P_fieldAddr0 (off := 0) rfl Try.underlying36 rfl sz3 rfl rfl) ?_
 refine At.q (some 6) (Q_loadO (k := 1) rfl rfl Try.underlying3 rfl rfl rfl) ?_
 refine At.s (S_callV (some 7) [(98, _)] [7] (vs := [_, _, _]) rfl en37 rfl (VE rfl rfl V0) (by simp) (k_PutUint1 (b := ([] : List (BitVec 8))) (Ab := none) (nb := 0) (cb := 0) (bb := 0) (qb := 0) (n := 1) LN (fun h => absurd h (Nat.lt_irrefl 0)) (by omega) (by omega)) (by rintro _ _ ⟨A7, b7, c7, g7a, g7b, rfl, rfl⟩; rfl) ?_)
 rintro _ _ ⟨A7, b7, c7, g7a, g7b, rfl, rfl⟩
 have hbn := beN_len 1 1
 refine At.p (some 4) (P_assign rfl rfl) ?_
 refine At.nil ?_
 refine At.next ?_
 refine At.seq ?_
 refine At.seq ?_
 have h7p : 0 < c7 := by rw [List.nil_append] at g7b; omega
 refine At.region ?_
 refine At.p (some 8) (P_move rfl rfl) ?_
 refine At.p (some 9) (P_eql_slnil rfl Try.underlying23 rfl rfl) ?_
 refine At.p (some 10) (P_move rfl rfl) ?_
 refine At.gy (t := 10) rfl (by rw [g7a h7p]; rfl) rfl rfl ?_
 refine At.p (some 11) (P_fieldAddr0 (off := 1) rfl Try.underlying36 rfl sz23 rfl rfl) ?_
 refine At.gy (t := 10) rfl (by rw [g7a h7p]; rfl) rfl rfl ?_
 refine At.q (some 12) (Q_loadO (k := 1) rfl rfl Try.underlying23 rfl rfl rfl) ?_
 refine At.gy (t := 10) rfl (by rw [g7a h7p]; rfl) rfl rfl ?_
 refine At.p (some 13) (P_len_sl rfl rfl ⟨_, Try.underlying23⟩ rfl) ?_
 refine At.gy (t := 10) rfl (by rw [g7a h7p]; rfl) rfl rfl ?_
 refine At.p (some 14) (P_cmp rfl rfl rfl rfl rfl rfl) ?_
 refine At.p (some 15) (P_pick_f rfl rfl (by rw [g7a h7p]; rfl) rfl) ?_
 refine At.nil ?_
 refine At.next ?_
 refine At.cond rfl (fun h15 => by have := of_decide_eq_true h15; omega) (fun h15 => ?_)
 have e15 : ¬ (nx : Int) > 2048 := of_decide_eq_false h15
 refine At.skip ?_
 refine At.next ?_
 refine At.seq ?_
 refine At.region ?_
 refine At.p (some 16) (P_move rfl rfl) ?_
 refine At.p (some 17) (P_fieldAddr0 (off := 1) rfl Try.underlying36 rfl sz23 rfl rfl) ?_
 refine At.q (some 18) (Q_loadO (k := 1) rfl rfl Try.underlying23 rfl rfl rfl) ?_
 refine At.s (S_callV (some 19) [(7, _), (0, _)] [19] (vs := [_, _, _]) rfl en8 rfl (VN (by simp) rfl View.all (VN (by simp) rfl View.all V0)) (by simp) (k_PutVec3 (b := (beN 1 1)) (Ab := A7) (nb := ((beN 1 1).length)) (cb := c7) (bb := b7) (qb := 0) (x := x) (Ax := Ax) (nx := nx) (cx := cx) (bx := bx) (qx := qx) LN (fun h => g7a (by omega)) LN hAx (by first | omega | (simp [beN_len]; done) | (simp [beN_len]; omega)) LN) (by rintro _ _ ⟨A19, b19, c19, g19a, g19b, rfl, rfl⟩; rfl) ?_)
 rintro _ _ ⟨A19, b19, c19, g19a, g19b, rfl, rfl⟩
 have hbn := beN_len 3 nx
 refine At.p (some 2) (P_assign rfl rfl) ?_
 refine At.p (some 3) (P_assign rfl rfl) ?_
 refine At.nil ?_
 refine At.next ?_
 refine At.ret ?_
 refine At.give (.inl rfl) [19] (rows' := [_]) (vs := [_, _]) rfl ⟨rfl, rfl, trivial⟩ rfl (by simp) (by simp) ⟨A19, b19, c19, g19a, (by first | omega | (simp; done) | (simp <;> omega) | exact Nat.le_refl _), rfl, rfl⟩


end Go.Proofs.Ytcjfkmhijfcciaa

