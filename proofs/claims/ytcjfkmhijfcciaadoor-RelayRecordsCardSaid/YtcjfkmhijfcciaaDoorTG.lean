import Derived.Test.YtcjfkmhijfcciaaDoorXT3
import Derived.Test.YtcjfkmhijfcciaaDoorG1
namespace Go.Proofs.YtcjfkmhijfcciaaDoor
set_option maxRecDepth 20000
set_option linter.unusedVariables false
set_option linter.unusedSimpArgs false
open Go.SE Go.RowKit
/-! gates -/
def wN (n u m : Nat) : Nat := min (max (8 * ((n + m + 7) / 8)) u) 64

set_option maxHeartbeats 2000000 in
theorem c_gR {e : Nat} {n : Nat} {u : Nat} (hnu : n ≤ u) (hu : u ≤ 64) (h8 : u % 8 = 0) :
  Con Tryd.prog 20 [.agg ([iV (e : Int), iV (n : Int), iV (u : Int)]).toArray] [] (fun v rs => v = .bool true ∧ rs = []) := by
 refine Con.enter Tryd.func20 Tryd.ntmps20 (Nat.le_of_ble_eq_true rfl) rfl fun w => ?_
 refine At.seq ?_
 refine At.region ?_
 refine At.s (S_box (some 1) 1 (zs := [iV (e : Int), iV (n : Int), iV (u : Int)]) rfl rfl rfl (fun b1 => ?_))
 refine At.p (some 2) (P_assign rfl rfl) ?_
 refine At.nil ?_
 refine At.next ?_
 refine At.seq ?_
 refine At.region ?_
 refine At.p (some 4) (P_fieldAddr0 (off := 2) rfl Tryd.underlying24 rfl sz3 rfl rfl) ?_
 refine At.q (some 5) (Q_loadO (k := 1) rfl rfl Tryd.underlying3 rfl rfl rfl) ?_
 refine At.p (some 6) (P_cmp rfl rfl rfl rfl rfl rfl) ?_
 refine At.p (some 7) (P_move rfl rfl) ?_
 refine At.gy (t := 7) rfl (by first | rfl | (simp; done) | (simp; omega) | omega | (apply decide_eq_true; omega)) rfl rfl ?_
 refine At.p (some 8) (P_fieldAddr0 (off := 2) rfl Tryd.underlying24 rfl sz3 rfl rfl) ?_
 refine At.gy (t := 7) rfl (by first | rfl | (simp; done) | (simp; omega) | omega | (apply decide_eq_true; omega)) rfl rfl ?_
 refine At.q (some 9) (Q_loadO (k := 1) rfl rfl Tryd.underlying3 rfl rfl rfl) ?_
 refine At.gy (t := 7) rfl (by first | rfl | (simp; done) | (simp; omega) | omega | (apply decide_eq_true; omega)) rfl rfl ?_
 refine At.p (some 10) (P_cmp rfl rfl rfl rfl rfl rfl) ?_
 refine At.p (some 11) (P_pick_t rfl rfl (by first | rfl | (simp; done) | (simp; omega) | omega | (apply decide_eq_true; omega)) rfl) ?_
 refine At.p (some 12) (P_move rfl rfl) ?_
 refine At.gy (t := 12) rfl (by first | rfl | (simp; done) | (simp; omega) | omega | (apply decide_eq_true; omega)) rfl rfl ?_
 refine At.p (some 13) (P_fieldAddr0 (off := 2) rfl Tryd.underlying24 rfl sz3 rfl rfl) ?_
 refine At.gy (t := 12) rfl (by first | rfl | (simp; done) | (simp; omega) | omega | (apply decide_eq_true; omega)) rfl rfl ?_
 refine At.q (some 14) (Q_loadO (k := 1) rfl rfl Tryd.underlying3 rfl rfl rfl) ?_
 refine At.gy (t := 12) rfl (by first | rfl | (simp; done) | (simp; omega) | omega | (apply decide_eq_true; omega)) rfl rfl ?_
 refine At.p (some 15) (P_rem_i rfl rfl rfl (by omega) (by first | decide | omega)) ?_
 refine At.gy (t := 12) rfl (by first | rfl | (simp; done) | (simp; omega) | omega | (apply decide_eq_true; omega)) rfl rfl ?_
 refine At.p (some 16) (P_cmp rfl rfl rfl rfl rfl rfl) ?_
 refine At.p (some 17) (P_pick_t rfl rfl (by first | rfl | (simp; done) | (simp; omega) | omega | (apply decide_eq_true; omega)) rfl) ?_
 refine At.p (some 3) (P_assign rfl rfl) ?_
 refine At.nil ?_
 refine At.next ?_
 refine At.seq ?_
 refine At.region ?_
 refine At.p (some 18) (P_move rfl rfl) ?_
 refine At.p (some 19) (P_move rfl rfl) ?_
 refine At.gy (t := 19) rfl (by first | rfl | (simp; done) | (simp; omega) | omega | (apply decide_eq_true; omega)) rfl rfl ?_
 refine At.p (some 20) (P_fieldAddr0 (off := 0) rfl Tryd.underlying24 rfl sz3 rfl rfl) ?_
 refine At.gy (t := 19) rfl (by first | rfl | (simp; done) | (simp; omega) | omega | (apply decide_eq_true; omega)) rfl rfl ?_
 refine At.q (some 21) (Q_loadO (k := 1) rfl rfl Tryd.underlying3 rfl rfl rfl) ?_
 refine At.gy (t := 19) rfl (by first | rfl | (simp; done) | (simp; omega) | omega | (apply decide_eq_true; omega)) rfl rfl ?_
 refine At.p (some 22) (P_cmp rfl rfl rfl rfl rfl rfl) ?_
 refine At.p (some 23) (P_pick_t rfl rfl (by first | rfl | (simp; done) | (simp; omega) | omega | (apply decide_eq_true; omega)) rfl) ?_
 refine At.p (some 24) (P_move rfl rfl) ?_
 refine At.gy (t := 24) rfl (by first | rfl | (simp; done) | (simp; omega) | omega | (apply decide_eq_true; omega)) rfl rfl ?_
 refine At.p (some 25) (P_fieldAddr0 (off := 1) rfl Tryd.underlying24 rfl sz3 rfl rfl) ?_
 refine At.gy (t := 24) rfl (by first | rfl | (simp; done) | (simp; omega) | omega | (apply decide_eq_true; omega)) rfl rfl ?_
 refine At.q (some 26) (Q_loadO (k := 1) rfl rfl Tryd.underlying3 rfl rfl rfl) ?_
 refine At.gy (t := 24) rfl (by first | rfl | (simp; done) | (simp; omega) | omega | (apply decide_eq_true; omega)) rfl rfl ?_
 refine At.p (some 27) (P_cmp rfl rfl rfl rfl rfl rfl) ?_
 refine At.p (some 28) (P_pick_t rfl rfl (by first | rfl | (simp; done) | (simp; omega) | omega | (apply decide_eq_true; omega)) rfl) ?_
 refine At.p (some 29) (P_move rfl rfl) ?_
 refine At.gy (t := 29) rfl (by first | rfl | (simp; done) | (simp; omega) | omega | (apply decide_eq_true; omega)) rfl rfl ?_
 refine At.p (some 30) (P_fieldAddr0 (off := 1) rfl Tryd.underlying24 rfl sz3 rfl rfl) ?_
 refine At.gy (t := 29) rfl (by first | rfl | (simp; done) | (simp; omega) | omega | (apply decide_eq_true; omega)) rfl rfl ?_
 refine At.q (some 31) (Q_loadO (k := 1) rfl rfl Tryd.underlying3 rfl rfl rfl) ?_
 refine At.gy (t := 29) rfl (by first | rfl | (simp; done) | (simp; omega) | omega | (apply decide_eq_true; omega)) rfl rfl ?_
 refine At.p (some 32) (P_fieldAddr0 (off := 2) rfl Tryd.underlying24 rfl sz3 rfl rfl) ?_
 refine At.gy (t := 29) rfl (by first | rfl | (simp; done) | (simp; omega) | omega | (apply decide_eq_true; omega)) rfl rfl ?_
 refine At.q (some 33) (Q_loadO (k := 1) rfl rfl Tryd.underlying3 rfl rfl rfl) ?_
 refine At.gy (t := 29) rfl (by first | rfl | (simp; done) | (simp; omega) | omega | (apply decide_eq_true; omega)) rfl rfl ?_
 refine At.p (some 34) (P_cmp rfl rfl rfl rfl rfl rfl) ?_
 refine At.p (some 35) (P_pick_t rfl rfl (by first | rfl | (simp; done) | (simp; omega) | omega | (apply decide_eq_true; omega)) rfl) ?_
 refine At.p (some 2) (P_assign rfl rfl) ?_
 refine At.nil ?_
 refine At.next ?_
 refine At.ret ?_
 have hq0 : (decide ((n : Int) ≤ (u : Int))) = true := (by first | rfl | (simp; done) | (simp; omega) | omega | (apply decide_eq_true; omega))
 refine At.give (.inl rfl) [] (rows' := []) (vs := [_]) rfl ⟨rfl, trivial⟩ rfl (by simp) (by simp) ⟨(by first | (rw [hq0]; try rfl; done) | (rw [← hq0]; try rfl; done) | (simp only [hq0]; try rfl; done) | (simp only [← hq0]; try rfl; done) | rfl), (by first | (rw [hq0]; try rfl; done) | (rw [← hq0]; try rfl; done) | (simp only [hq0]; try rfl; done) | (simp only [← hq0]; try rfl; done) | rfl)⟩

set_option maxHeartbeats 2000000 in
theorem c_gN {n : Nat}  :
  Con Tryd.prog 5 [iV (n : Int)] [] (fun v rs => v = .agg ([iV (n : Int), iV 0, iV 0]).toArray ∧ rs = []) := by
 refine Con.enter Tryd.func5 Tryd.ntmps5 (Nat.le_of_ble_eq_true rfl) rfl fun w => ?_
 refine At.seq ?_
 refine At.region ?_
 refine At.s (S_alloc (some 2) 2 (zs := [iV 0, iV 0, iV 0]) rfl ze24 rfl (fun b2 => ?_))
 refine At.nil ?_
 refine At.next ?_
 refine At.seq ?_
 refine At.region ?_
 refine At.p (some 3) (P_move rfl rfl) ?_
 refine At.p (some 4) (P_max2 rfl rfl rfl rfl) ?_
 refine At.p (some 5) (P_build_struct (parts := _) (vs := [(0, _)]) rfl Tryd.underlying24 ze24 pl24 rfl rfl) ?_
 refine At.s (S_storeA none (k := 2) (vs := [iV (max (n : Int) 0), iV 0, iV 0]) rfl rfl rfl (by rw [sz24]; exact congrArg some LN) rfl (one_cons rfl (one_cons rfl (one_cons rfl one_nil))) NG rfl LN ?_)
 refine At.nil ?_
 refine At.next ?_
 refine At.ret ?_
 have hq0 : [iV (max (n : Int) 0), iV 0, iV 0] = [iV (n : Int), iV 0, iV 0] := (by rw [Int.max_eq_left (Int.natCast_nonneg n)])
 refine At.giveV (.inl rfl) [] (rows' := []) (ResV.cellA (k := 2) rfl rfl Tryd.underlying24 rfl sz24 LN rfl) rfl (by simp) (by simp) ?_
 exact ⟨congrArg (fun z => Value.agg (List.toArray z)) hq0, rfl⟩

set_option maxHeartbeats 2000000 in
theorem c_gW {e : Nat} {n : Nat} {u : Nat} {m : Nat} (hnu : n ≤ u) (hu : u ≤ 64) (h8 : u % 8 = 0) (hm : m ≤ 64) :
  Con Tryd.prog 10 [.agg ([iV (e : Int), iV (n : Int), iV (u : Int)]).toArray, iV (m : Int)] [] (fun v rs => v = iV ((wN n u m : Nat) : Int) ∧ rs = []) := by
 refine Con.enter Tryd.func10 Tryd.ntmps10 (Nat.le_of_ble_eq_true rfl) rfl fun w => ?_
 refine At.seq ?_
 refine At.region ?_
 refine At.s (S_box (some 2) 2 (zs := [iV (e : Int), iV (n : Int), iV (u : Int)]) rfl rfl rfl (fun b2 => ?_))
 refine At.p (some 4) (P_assign rfl rfl) ?_
 refine At.nil ?_
 refine At.next ?_
 refine At.seq ?_
 refine At.seq ?_
 refine At.region ?_
 refine At.q (some 7) (Q_loadA (k := 2) rfl rfl Tryd.underlying24 rfl sz24 LN rfl) ?_
 refine At.s (S_callV (some 8) [] [] (vs := [_]) rfl en20 rfl V0 (by simp) (c_gR (e := e) (n := n) (u := u) OG OG OG) (by rintro _ _ ⟨rfl, rfl⟩; rfl) ?_)
 rintro _ _ ⟨rfl, rfl⟩
 refine At.p (some 9) (P_not rfl rfl) ?_
 refine At.nil ?_
 refine At.next ?_
 refine At.cond rfl (fun h9 => by simp at h9) (fun h9 => ?_)
 refine At.skip ?_
 refine At.next ?_
 refine At.seq ?_
 refine At.region ?_
 refine At.p (some 10) (P_fieldAddr0 (off := 1) rfl Tryd.underlying24 rfl sz3 rfl rfl) ?_
 refine At.q (some 11) (Q_loadO (k := 2) rfl rfl Tryd.underlying3 rfl rfl rfl) ?_
 refine At.p (some 12) (P_move rfl rfl) ?_
 refine At.p (some 13) (P_max2 rfl rfl rfl rfl) ?_
 refine At.p (some 14) (P_min2 rfl rfl rfl rfl) ?_
 refine At.p (some 15) (P_add_i rfl rfl rfl (by omega)) ?_
 refine At.p (some 5) (P_assign rfl rfl) ?_
 refine At.nil ?_
 refine At.next ?_
 refine At.seq ?_
 refine At.region ?_
 refine At.p (some 16) (P_move rfl rfl) ?_
 refine At.p (some 17) (P_add_i rfl rfl rfl (by omega)) ?_
 refine At.p (some 18) (P_sub_i rfl rfl rfl (by omega)) ?_
 refine At.p (some 19) (P_quo_i rfl rfl rfl (by omega) (by omega) (by first | decide | omega)) ?_
 refine At.p (some 6) (P_assign rfl rfl) ?_
 refine At.nil ?_
 refine At.next ?_
 refine At.seq ?_
 refine At.region ?_
 refine At.p (some 20) (P_move rfl rfl) ?_
 refine At.p (some 21) (P_mul_i rfl rfl rfl (by omega)) ?_
 refine At.p (some 22) (P_fieldAddr0 (off := 2) rfl Tryd.underlying24 rfl sz3 rfl rfl) ?_
 refine At.q (some 23) (Q_loadO (k := 2) rfl rfl Tryd.underlying3 rfl rfl rfl) ?_
 refine At.p (some 24) (P_max2 rfl rfl rfl rfl) ?_
 refine At.p (some 25) (P_min2 rfl rfl rfl rfl) ?_
 refine At.p (some 4) (P_assign rfl rfl) ?_
 refine At.nil ?_
 refine At.next ?_
 refine At.ret ?_
 have hq0 : ((min (max ((((((n : Int) + (min (max (m : Int) 0) 64)) + 8) - 1) / 8) * 8) (u : Int)) 64) : Int) = ((wN n u m : Nat) : Int) := (by unfold wN; omega)
 refine At.give (.inl rfl) [] (rows' := []) (vs := [_]) rfl ⟨rfl, trivial⟩ rfl (by simp) (by simp) ⟨(by first | (rw [hq0]; try rfl; done) | (rw [← hq0]; try rfl; done) | (simp only [hq0]; try rfl; done) | (simp only [← hq0]; try rfl; done) | rfl), (by first | (rw [hq0]; try rfl; done) | (rw [← hq0]; try rfl; done) | (simp only [hq0]; try rfl; done) | (simp only [← hq0]; try rfl; done) | rfl)⟩

set_option maxHeartbeats 2000000 in
theorem c_gV {e : Nat} {n : Nat} {u : Nat} {y : Nat} (hnu : n ≤ u) (hu : u ≤ 64) (h8 : u % 8 = 0) (hv : u ≤ y) (hv2 : y ≤ 64) (hv8 : y % 8 = 0) :
  Con Tryd.prog 9 [.agg ([iV (e : Int), iV (n : Int), iV (u : Int)]).toArray, iV (y : Int)] [] (fun v rs => v = .tuple #[.agg ([iV (e : Int), iV (n : Int), iV (y : Int)]).toArray, iV 0] ∧ rs = []) := by
 refine Con.enter Tryd.func9 Tryd.ntmps9 (Nat.le_of_ble_eq_true rfl) rfl fun w => ?_
 refine At.seq ?_
 refine At.region ?_
 refine At.s (S_box (some 2) 2 (zs := [iV (e : Int), iV (n : Int), iV (u : Int)]) rfl rfl rfl (fun b2 => ?_))
 refine At.s (S_alloc (some 4) 4 (zs := [iV 0, iV 0, iV 0]) rfl ze24 rfl (fun b4 => ?_))
 refine At.p (some 5) (P_assign rfl rfl) ?_
 refine At.nil ?_
 refine At.next ?_
 refine At.seq ?_
 refine At.region ?_
 refine At.p (some 7) (P_fieldAddr0 (off := 0) rfl Tryd.underlying24 rfl sz3 rfl rfl) ?_
 refine At.q (some 8) (Q_loadO (k := 2) rfl rfl Tryd.underlying3 rfl rfl rfl) ?_
 refine At.p (some 9) (P_fieldAddr0 (off := 1) rfl Tryd.underlying24 rfl sz3 rfl rfl) ?_
 refine At.q (some 10) (Q_loadO (k := 2) rfl rfl Tryd.underlying3 rfl rfl rfl) ?_
 refine At.p (some 11) (P_move rfl rfl) ?_
 refine At.p (some 12) (P_build_struct (parts := _) (vs := [(0, _), (1, _), (2, _)]) rfl Tryd.underlying24 ze24 pl24 rfl rfl) ?_
 refine At.s (S_alloc (some 6) 6 (zs := [iV 0, iV 0, iV 0]) rfl ze24 rfl (fun b6 => ?_))
 refine At.s (S_storeA none (k := 6) (vs := [iV (e : Int), iV (n : Int), iV (y : Int)]) rfl rfl rfl (by rw [sz24]; exact congrArg some LN) rfl (one_cons rfl (one_cons rfl (one_cons rfl one_nil))) NG rfl LN ?_)
 refine At.nil ?_
 refine At.next ?_
 refine At.seq ?_
 refine At.seq ?_
 refine At.region ?_
 refine At.q (some 13) (Q_loadA (k := 2) rfl rfl Tryd.underlying24 rfl sz24 LN rfl) ?_
 refine At.s (S_callV (some 14) [] [] (vs := [_]) rfl en20 rfl V0 (by simp) (c_gR (e := e) (n := n) (u := u) OG OG OG) (by rintro _ _ ⟨rfl, rfl⟩; rfl) ?_)
 rintro _ _ ⟨rfl, rfl⟩
 refine At.p (some 15) (P_not rfl rfl) ?_
 refine At.p (some 16) (P_move rfl rfl) ?_
 refine At.gy (t := 16) rfl (by first | rfl | (simp; done) | (simp; omega) | omega | (apply decide_eq_true; omega)) rfl rfl ?_
 refine At.p (some 17) (P_move rfl rfl) ?_
 refine At.gy (t := 16) rfl (by first | rfl | (simp; done) | (simp; omega) | omega | (apply decide_eq_true; omega)) rfl rfl ?_
 refine At.p (some 18) (P_fieldAddr0 (off := 2) rfl Tryd.underlying24 rfl sz3 rfl rfl) ?_
 refine At.gy (t := 16) rfl (by first | rfl | (simp; done) | (simp; omega) | omega | (apply decide_eq_true; omega)) rfl rfl ?_
 refine At.q (some 19) (Q_loadO (k := 2) rfl rfl Tryd.underlying3 rfl rfl rfl) ?_
 refine At.gy (t := 16) rfl (by first | rfl | (simp; done) | (simp; omega) | omega | (apply decide_eq_true; omega)) rfl rfl ?_
 refine At.p (some 20) (P_cmp rfl rfl rfl rfl rfl rfl) ?_
 refine At.p (some 21) (P_pick_f rfl rfl (by first | rfl | (simp; done) | (simp; omega) | omega | (apply decide_eq_true; omega)) rfl) ?_
 refine At.p (some 22) (P_move rfl rfl) ?_
 refine At.gy (t := 22) rfl (by first | rfl | (simp; done) | (simp; omega) | omega | (apply decide_eq_true; omega)) rfl rfl ?_
 refine At.q (some 23) (Q_loadA (k := 6) rfl rfl Tryd.underlying24 rfl sz24 LN rfl) ?_
 refine At.gy (t := 22) rfl (by first | rfl | (simp; done) | (simp; omega) | omega | (apply decide_eq_true; omega)) rfl rfl ?_
 refine At.s (S_callV (some 24) [] [] (vs := [_]) rfl en20 rfl V0 (by simp) (c_gR (e := e) (n := n) (u := y) OG OG OG) (by rintro _ _ ⟨rfl, rfl⟩; rfl) ?_)
 rintro _ _ ⟨rfl, rfl⟩
 refine At.gy (t := 22) rfl (by first | rfl | (simp; done) | (simp; omega) | omega | (apply decide_eq_true; omega)) rfl rfl ?_
 refine At.p (some 25) (P_not rfl rfl) ?_
 refine At.p (some 26) (P_pick_f rfl rfl (by first | rfl | (simp; done) | (simp; omega) | omega | (apply decide_eq_true; omega)) rfl) ?_
 refine At.nil ?_
 refine At.next ?_
 refine At.cond rfl (fun h26 => (by revert h26; first | (simp; done) | (simp; omega))) (fun h26 => ?_)
 refine At.skip ?_
 refine At.next ?_
 refine At.seq ?_
 refine At.region ?_
 refine At.q (some 28) (Q_loadA (k := 6) rfl rfl Tryd.underlying24 rfl sz24 LN rfl) ?_
 refine At.s (S_storeA none (k := 4) (vs := [iV (e : Int), iV (n : Int), iV (y : Int)]) rfl rfl rfl (by rw [sz24]; exact congrArg some LN) rfl (one_cons rfl (one_cons rfl (one_cons rfl one_nil))) NG rfl LN ?_)
 refine At.p (some 5) (P_assign rfl rfl) ?_
 refine At.nil ?_
 refine At.next ?_
 refine At.ret ?_
 have hq0 : [iV (e : Int), iV (n : Int), iV (y : Int)] = [iV (e : Int), iV (n : Int), iV (y : Int)] := rfl
 refine At.giveV (.inl rfl) [] (rows' := []) (ResV.two rfl (ResOne.cellA (k := 4) rfl Tryd.underlying24 rfl sz24 LN rfl) (ResOne.tmp rfl)) rfl (by simp) (by simp) ?_
 exact ⟨(by first | (rw [hq0]; try rfl; done) | (rw [← hq0]; try rfl; done) | (simp only [hq0]; try rfl; done) | (simp only [← hq0]; try rfl; done) | rfl), (by first | (rw [hq0]; try rfl; done) | (rw [← hq0]; try rfl; done) | (simp only [hq0]; try rfl; done) | (simp only [← hq0]; try rfl; done) | rfl)⟩

set_option maxHeartbeats 2000000 in
theorem c_gU {e : Nat} {n : Nat} {u : Nat} (hlt : n < u) (hu : u ≤ 64) (h8 : u % 8 = 0) (he : e ≤ 1000000) :
  Con Tryd.prog 11 [.agg ([iV (e : Int), iV (n : Int), iV (u : Int)]).toArray] [] (fun v rs => v = .tuple #[.agg ([iV (e : Int), iV ((n + 1 : Nat) : Int), iV (u : Int)]).toArray, iV (n : Int), iV 0] ∧ rs = []) := by
 refine Con.enter Tryd.func11 Tryd.ntmps11 (Nat.le_of_ble_eq_true rfl) rfl fun w => ?_
 refine At.seq ?_
 refine At.region ?_
 refine At.s (S_box (some 1) 1 (zs := [iV (e : Int), iV (n : Int), iV (u : Int)]) rfl rfl rfl (fun b1 => ?_))
 refine At.s (S_alloc (some 2) 2 (zs := [iV 0, iV 0, iV 0]) rfl ze24 rfl (fun b2 => ?_))
 refine At.p (some 3) (P_assign rfl rfl) ?_
 refine At.p (some 4) (P_assign rfl rfl) ?_
 refine At.nil ?_
 refine At.next ?_
 refine At.seq ?_
 refine At.block ?_
 refine At.seq ?_
 refine At.region ?_
 refine At.q (some 6) (Q_loadA (k := 1) rfl rfl Tryd.underlying24 rfl sz24 LN rfl) ?_
 refine At.s (S_callV (some 7) [] [] (vs := [_]) rfl en20 rfl V0 (by simp) (c_gR (e := e) (n := n) (u := u) OG OG OG) (by rintro _ _ ⟨rfl, rfl⟩; rfl) ?_)
 rintro _ _ ⟨rfl, rfl⟩
 refine At.p (some 8) (P_not rfl rfl) ?_
 refine At.p (some 5) (P_assign rfl rfl) ?_
 refine At.nil ?_
 refine At.next ?_
 refine At.cond rfl (fun h5 => by simp at h5) (fun h5 => ?_)
 refine At.seq ?_
 refine At.region ?_
 refine At.p (some 11) (P_fieldAddr0 (off := 1) rfl Tryd.underlying24 rfl sz3 rfl rfl) ?_
 refine At.q (some 12) (Q_loadO (k := 1) rfl rfl Tryd.underlying3 rfl rfl rfl) ?_
 refine At.p (some 13) (P_cmp rfl rfl rfl rfl rfl rfl) ?_
 refine At.p (some 10) (P_assign rfl rfl) ?_
 refine At.nil ?_
 refine At.next ?_
 refine At.cond rfl (fun h10 => (by revert h10; simp; omega)) (fun h10 => ?_)
 have e10 : (n : Int) ≠ 64 := beq_eq_false_iff_ne.1 h10
 refine At.seq ?_
 refine At.region ?_
 refine At.p (some 16) (P_fieldAddr0 (off := 1) rfl Tryd.underlying24 rfl sz3 rfl rfl) ?_
 refine At.q (some 17) (Q_loadO (k := 1) rfl rfl Tryd.underlying3 rfl rfl rfl) ?_
 refine At.p (some 18) (P_fieldAddr0 (off := 2) rfl Tryd.underlying24 rfl sz3 rfl rfl) ?_
 refine At.q (some 19) (Q_loadO (k := 1) rfl rfl Tryd.underlying3 rfl rfl rfl) ?_
 refine At.p (some 20) (P_cmp rfl rfl rfl rfl rfl rfl) ?_
 refine At.p (some 15) (P_assign rfl rfl) ?_
 refine At.nil ?_
 refine At.next ?_
 refine At.cond rfl (fun h15 => (by revert h15; simp; omega)) (fun h15 => ?_)
 have e15 : (n : Int) ≠ (u : Int) := beq_eq_false_iff_ne.1 h15
 refine At.skip ?_
 refine At.inb_n ?_
 refine At.next ?_
 refine At.seq ?_
 refine At.ord [.q (ptr b1 0), .q (iV (e : Int)), .q (ptr b1 1), .q (iV (n : Int)), .q (iV ((n : Int) + 1)), .q (ptr b1 2), .q (iV (u : Int)), .q (.agg ([iV (e : Int), iV ((n : Int) + 1), iV (u : Int)]).toArray), .q (ptr b1 1), .q (iV (n : Int)), .st 2 (some b2) 24 [iV (e : Int), iV ((n : Int) + 1), iV (u : Int)] 0, .q (iV (n : Int)), .q (iV 0)] [0, 1, 2, 3, 4, 5, 6, 7, 8, 9, 10, 11, 12] (by kernel_rfl) (by kernel_rfl) (by kernel_rfl) (by kernel_rfl) (by kernel_rfl) ?_ (fun A => ?_)
 ·
  refine ⟨?_, ?_, ?_, ?_, ?_, ?_, ?_, ?_, ?_, ?_, ?_, ?_, ?_⟩
  ·
   intro L A f h I R
   exact OGoal.q rfl (OStep.weak (sl := [(1, _)]) (rw_ := []) (AllL.cons_ (I.init _ _ rfl (by kernel_rfl)) trivial) trivial (PStep.o (P_fieldAddr0 (off := 0) rfl Tryd.underlying24 rfl sz3 rfl rfl)))
  ·
   intro L A f h I R
   exact OGoal.q rfl (OStep.weak (sl := [(22, _)]) (rw_ := [(1, _)]) (AllL.cons_ (I.slotD R 0 (by kernel_rfl) rfl rfl) trivial) (AllL.cons_ (I.get0 R rfl (by kernel_rfl)) trivial) (QStep.o (Q_loadO (k := 1) rfl rfl Tryd.underlying3 rfl rfl rfl)))
  ·
   intro L A f h I R
   exact OGoal.q rfl (OStep.weak (sl := [(1, _)]) (rw_ := []) (AllL.cons_ (I.init _ _ rfl (by kernel_rfl)) trivial) trivial (PStep.o (P_fieldAddr0 (off := 1) rfl Tryd.underlying24 rfl sz3 rfl rfl)))
  ·
   intro L A f h I R
   exact OGoal.q rfl (OStep.weak (sl := [(24, _)]) (rw_ := [(1, _)]) (AllL.cons_ (I.slotD R 2 (by kernel_rfl) rfl rfl) trivial) (AllL.cons_ (I.get0 R rfl (by kernel_rfl)) trivial) (QStep.o (Q_loadO (k := 1) rfl rfl Tryd.underlying3 rfl rfl rfl)))
  ·
   intro L A f h I R
   exact OGoal.q rfl (OStep.weak (sl := [(25, _)]) (rw_ := []) (AllL.cons_ (I.slotD R 3 (by kernel_rfl) rfl rfl) trivial) trivial (PStep.o (P_add_i rfl rfl rfl (by omega))))
  ·
   intro L A f h I R
   exact OGoal.q rfl (OStep.weak (sl := [(1, _)]) (rw_ := []) (AllL.cons_ (I.init _ _ rfl (by kernel_rfl)) trivial) trivial (PStep.o (P_fieldAddr0 (off := 2) rfl Tryd.underlying24 rfl sz3 rfl rfl)))
  ·
   intro L A f h I R
   exact OGoal.q rfl (OStep.weak (sl := [(27, _)]) (rw_ := [(1, _)]) (AllL.cons_ (I.slotD R 5 (by kernel_rfl) rfl rfl) trivial) (AllL.cons_ (I.get0 R rfl (by kernel_rfl)) trivial) (QStep.o (Q_loadO (k := 1) rfl rfl Tryd.underlying3 rfl rfl rfl)))
  ·
   intro L A f h I R
   exact OGoal.q rfl (OStep.weak (sl := [(23, _), (26, _), (28, _)]) (rw_ := []) (AllL.cons_ (I.slotD R 1 (by kernel_rfl) rfl rfl) (AllL.cons_ (I.slotD R 4 (by kernel_rfl) rfl rfl) (AllL.cons_ (I.slotD R 6 (by kernel_rfl) rfl rfl) trivial))) trivial (PStep.o (P_build_struct (parts := _) (vs := [(0, _), (1, _), (2, _)]) rfl Tryd.underlying24 ze24 pl24 rfl rfl)))
  ·
   intro L A f h I R
   exact OGoal.q rfl (OStep.weak (sl := [(1, _)]) (rw_ := []) (AllL.cons_ (I.init _ _ rfl (by kernel_rfl)) trivial) trivial (PStep.o (P_fieldAddr0 (off := 1) rfl Tryd.underlying24 rfl sz3 rfl rfl)))
  ·
   intro L A f h I R
   exact OGoal.q rfl (OStep.weak (sl := [(30, _)]) (rw_ := [(1, _)]) (AllL.cons_ (I.slotD R 8 (by kernel_rfl) rfl rfl) trivial) (AllL.cons_ (I.get0 R rfl (by kernel_rfl)) trivial) (QStep.o (Q_loadO (k := 1) rfl rfl Tryd.underlying3 rfl rfl rfl)))
  ·
   intro L A f h I R
   exact OGoal.st rfl (S_storeA none (k := 2) (vs := [iV (e : Int), iV ((n : Int) + 1), iV (u : Int)]) rfl (I.init _ _ rfl (by kernel_rfl)) (I.slotD R 7 (by kernel_rfl) rfl rfl) (by rw [sz24]; exact congrArg some LN) rfl (one_cons rfl (one_cons rfl (one_cons rfl one_nil))) NG (I.get0 R rfl (by kernel_rfl)) LN ⟨rfl, rfl⟩)
  ·
   intro L A f h I R
   exact OGoal.q rfl (OStep.weak (sl := [(31, _)]) (rw_ := []) (AllL.cons_ (I.slotD R 9 (by kernel_rfl) rfl rfl) trivial) trivial (PStep.o (P_assign rfl rfl)))
  ·
   intro L A f h I R
   exact OGoal.q rfl (OStep.weak (sl := []) (rw_ := []) trivial trivial (PStep.o (P_assign rfl rfl)))
 ·
  refine At.into (l := [(2, ptr b2 0), (3, iV (n : Int)), (4, iV 0)]) (m := [(2, ⟨true, b2, 0, 24, [iV (e : Int), iV ((n : Int) + 1), iV (u : Int)], 0⟩)]) ?_ rfl rfl
  clear A
  refine At.next ?_
  refine At.ret ?_
  have hq0 : [iV (e : Int), iV ((n : Int) + 1), iV (u : Int)] = [iV (e : Int), iV ((n + 1 : Nat) : Int), iV (u : Int)] := rfl
  refine At.giveV (.inl rfl) [] (rows' := []) (ResV.three rfl (ResOne.cellA (k := 2) rfl Tryd.underlying24 rfl sz24 LN rfl) (ResOne.tmp rfl) (ResOne.tmp rfl)) rfl (by simp) (by simp) ?_
  exact ⟨(by first | (rw [hq0]; try rfl; done) | (rw [← hq0]; try rfl; done) | (simp only [hq0]; try rfl; done) | (simp only [← hq0]; try rfl; done) | rfl), (by first | (rw [hq0]; try rfl; done) | (rw [← hq0]; try rfl; done) | (simp only [hq0]; try rfl; done) | (simp only [← hq0]; try rfl; done) | rfl)⟩


end Go.Proofs.YtcjfkmhijfcciaaDoor

