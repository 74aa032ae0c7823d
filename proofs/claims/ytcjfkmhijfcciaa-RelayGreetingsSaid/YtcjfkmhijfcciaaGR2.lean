import Derived.Test.YtcjfkmhijfcciaaGR1
namespace Go.Proofs.Ytcjfkmhijfcciaa
set_option maxRecDepth 20000
set_option linter.unusedVariables false
set_option linter.unusedSimpArgs false
open Go.SE Go.RowKit
attribute [local irreducible] sumS
set_option maxHeartbeats 2000000 in
theorem k_New {b : List (BitVec 8)} {Ab : Option Addr} {nb cb bb qb : Nat} (hnb : b.length = nb) (hAb : 0 < nb → Ab = some ⟨bb, qb, none⟩) (hl : nb ≤ 1000000) :
  Con Try.prog 9 [.slice Ab nb cb] [pRow bb qb b] (fun v rs => ∃ br' bl' A' c', (0 < c' → A' = some ⟨bl', 0, none⟩) ∧ b.length ≤ c' ∧ v = ptr br' 0 ∧ rs = [⟨true, br', 0, 83, [.slice A' b.length c', iV 0], 0⟩, ⟨true, bl', 0, 5, b.map u8V, c' - b.length⟩]) := by
 refine Con.enter Try.func9 Try.ntmps9 (Nat.le_of_ble_eq_true rfl) rfl fun w => ?_
 refine At.seq ?_
 refine At.region ?_
 refine At.p (some 2) (P_assign rfl rfl) ?_
 refine At.nil ?_
 refine At.next ?_
 refine At.seq ?_
 refine At.region ?_
 refine At.p (some 3) (P_move rfl rfl) ?_
 refine At.s (S_callV (some 4) [(0, _)] [4] (vs := [_]) rfl en38 rfl (VN (by simp) rfl View.all V0) (by simp) (c_BClone (b := b) (nb := nb) (Ab := Ab) (cb := cb) (bb := bb) (qb := qb) LN hAb OG) (by rintro _ _ ⟨A4, b4, c4, g4a, g4b, rfl, rfl⟩; rfl) ?_)
 rintro _ _ ⟨A4, b4, c4, g4a, g4b, rfl, rfl⟩
 refine At.p (some 5) (P_build_struct (parts := _) (vs := [(0, _)]) rfl Try.underlying83 ze83 pl83 rfl rfl) ?_
 refine At.s (S_box (some 6) 6 (zs := [.slice A4 b.length c4, iV 0]) rfl rfl rfl (fun b6 => ?_))
 refine At.p (some 2) (P_assign rfl rfl) ?_
 refine At.nil ?_
 refine At.next ?_
 refine At.ret ?_
 refine At.give (.inl rfl) [6, 4] (rows' := [_, _]) (vs := [_]) rfl ⟨rfl, trivial⟩ rfl (by simp) (by simp) ⟨b6, b4, A4, c4, g4a, g4b, rfl, rfl⟩

set_option maxHeartbeats 2000000 in
theorem k_wrong {br : Nat} {sv : Value} {e : Nat}  :
  Con Try.prog 41 [ptr br 0, iV (e : Int)] [⟨true, br, 0, 83, [sv, iV 0], 0⟩] (fun v rs => v = .tuple #[] ∧ rs = [⟨true, br, 0, 83, [sv, iV (e : Int)], 0⟩]) := by
 refine Con.enter Try.func41 Try.ntmps41 (Nat.le_of_ble_eq_true rfl) rfl fun w => ?_
 refine At.seq ?_
 refine At.region ?_
 refine At.p (some 4) (P_move rfl rfl) ?_
 refine At.p (some 5) (P_nilCheck rfl rfl) ?_
 refine At.p (some 6) (P_fieldAddr0 (off := 1) rfl Try.underlying83 rfl sz31 rfl rfl) ?_
 refine At.q (some 7) (Q_loadO (k := 0) rfl rfl Try.underlying31 rfl rfl rfl) ?_
 refine At.p (some 8) (P_cmp rfl rfl rfl rfl rfl rfl) ?_
 refine At.nil ?_
 refine At.next ?_
 refine At.cond rfl (fun h8 => ?_) (fun h8 => by simp at h8)
 have e8 : 0 = 0 := eq_of_beq h8
 refine At.region ?_
 refine At.p (some 9) (P_move rfl rfl) ?_
 refine At.p (some 10) (P_move rfl rfl) ?_
 refine At.p (some 11) (P_nilCheck rfl rfl) ?_
 refine At.p (some 12) (P_fieldAddr0 (off := 1) rfl Try.underlying83 rfl sz31 rfl rfl) ?_
 refine At.s (S_store none (k := 0) rfl rfl rfl sz31 rfl rfl rfl LN ?_)
 refine At.nil ?_
 refine At.give (.inr rfl) [0] (rows' := [_]) (vs := []) rfl trivial rfl (by simp) (by simp) ⟨rfl, rfl⟩

set_option maxHeartbeats 2000000 in
theorem k_takeY {br bl cr q : Nat} {l : List (BitVec 8)} {Ar : Option Addr} {n : Nat} (hAr : 0 < l.length → Ar = some ⟨bl, q, none⟩) (hcr : l.length ≤ cr) (hn : n ≤ l.length) :
  Con Try.prog 40 [ptr br 0, iV (n : Int)] [⟨true, br, 0, 83, [.slice Ar l.length cr, iV 0], 0⟩, pRow bl q l] (fun v rs => ∃ A1 A2 c2, (0 < n → A1 = some ⟨bl, q, none⟩) ∧ (0 < (l.drop n).length → A2 = some ⟨bl, q + n, none⟩) ∧ (l.drop n).length ≤ c2 ∧ v = .tuple #[.slice A1 n n, .bool true] ∧ rs = [⟨true, br, 0, 83, [.slice A2 (l.drop n).length c2, iV 0], 0⟩]) := by
 refine Con.enter Try.func40 Try.ntmps40 (Nat.le_of_ble_eq_true rfl) rfl fun w => ?_
 refine At.seq ?_
 refine At.region ?_
 refine At.p (some 4) (P_assign rfl rfl) ?_
 refine At.p (some 5) (P_assign rfl rfl) ?_
 refine At.nil ?_
 refine At.next ?_
 refine At.seq ?_
 refine At.block ?_
 refine At.seq ?_
 refine At.region ?_
 refine At.p (some 8) (P_move rfl rfl) ?_
 refine At.p (some 9) (P_eql_ptr rfl rfl rfl Try.underlying38) ?_
 refine At.p (some 7) (P_assign rfl rfl) ?_
 refine At.nil ?_
 refine At.next ?_
 refine At.cond rfl (fun h7 => by simp at h7) (fun h7 => ?_)
 refine At.seq ?_
 refine At.region ?_
 refine At.p (some 11) (P_move rfl rfl) ?_
 refine At.p (some 12) (P_cmp rfl rfl rfl rfl rfl rfl) ?_
 refine At.p (some 10) (P_assign rfl rfl) ?_
 refine At.nil ?_
 refine At.next ?_
 refine At.cond rfl (fun h10 => by have := of_decide_eq_true h10; omega) (fun h10 => ?_)
 have e10 : ¬ (n : Int) < 0 := of_decide_eq_false h10
 refine At.seq ?_
 refine At.region ?_
 refine At.p (some 16) (P_move rfl rfl) ?_
 refine At.p (some 17) (P_move rfl rfl) ?_
 refine At.p (some 18) (P_nilCheck rfl rfl) ?_
 refine At.p (some 19) (P_fieldAddr0 (off := 0) rfl Try.underlying83 rfl sz23 rfl rfl) ?_
 refine At.q (some 20) (Q_loadO (k := 0) rfl rfl Try.underlying23 rfl rfl rfl) ?_
 refine At.p (some 21) (P_len_sl rfl rfl ⟨_, Try.underlying23⟩ rfl) ?_
 refine At.p (some 22) (P_cmp rfl rfl rfl rfl rfl rfl) ?_
 refine At.p (some 15) (P_assign rfl rfl) ?_
 refine At.nil ?_
 refine At.next ?_
 refine At.cond rfl (fun h15 => by have := of_decide_eq_true h15; omega) (fun h15 => ?_)
 have e15 : ¬ (n : Int) > (l.length : Int) := of_decide_eq_false h15
 refine At.skip ?_
 refine At.inb_n ?_
 refine At.next ?_
 refine At.seq ?_
 refine At.seq ?_
 refine At.region ?_
 refine At.p (some 25) (P_move rfl rfl) ?_
 refine At.p (some 26) (P_nilCheck rfl rfl) ?_
 refine At.p (some 27) (P_fieldAddr0 (off := 1) rfl Try.underlying83 rfl sz31 rfl rfl) ?_
 refine At.q (some 28) (Q_loadO (k := 0) rfl rfl Try.underlying31 rfl rfl rfl) ?_
 refine At.p (some 29) (P_cmp rfl rfl rfl rfl rfl rfl) ?_
 refine At.nil ?_
 refine At.next ?_
 refine At.cond rfl (fun h29 => by simp at h29) (fun h29 => ?_)
 have e29 : 0 = 0 := bne_eq_false_iff_eq.1 h29
 refine At.skip ?_
 refine At.next ?_
 refine At.seq ?_
 refine At.region ?_
 refine At.p (some 30) (P_move rfl rfl) ?_
 refine At.p (some 31) (P_nilCheck rfl rfl) ?_
 refine At.p (some 32) (P_fieldAddr0 (off := 0) rfl Try.underlying83 rfl sz23 rfl rfl) ?_
 refine At.q (some 33) (Q_loadO (k := 0) rfl rfl Try.underlying23 rfl rfl rfl) ?_
 refine At.p (some 34) (P_move rfl rfl) ?_
 refine At.p (some 35) (P_move rfl rfl) ?_
 refine At.p (some 36) (P_slice_sl (l := 0) (h := n) (m := n) rfl Try.underlying23 sz5 rfl rfl ⟨_, _, rfl, by omega⟩ ⟨_, _, rfl, by omega⟩ DO DO DO) ?_
 refine At.p (some 6) (P_assign rfl rfl) ?_
 refine At.nil ?_
 refine At.next ?_
 refine At.seq ?_
 refine At.region ?_
 refine At.p (some 37) (P_move rfl rfl) ?_
 refine At.p (some 38) (P_move rfl rfl) ?_
 refine At.p (some 39) (P_nilCheck rfl rfl) ?_
 refine At.p (some 40) (P_fieldAddr0 (off := 0) rfl Try.underlying83 rfl sz23 rfl rfl) ?_
 refine At.q (some 41) (Q_loadO (k := 0) rfl rfl Try.underlying23 rfl rfl rfl) ?_
 refine At.p (some 42) (P_move rfl rfl) ?_
 refine At.p (some 43) (P_slice_sl (l := n) (h := l.length) (m := cr) rfl Try.underlying23 sz5 rfl ⟨_, _, rfl, by omega⟩ rfl rfl DO DO DO) ?_
 refine At.p (some 44) (P_nilCheck rfl rfl) ?_
 refine At.p (some 45) (P_fieldAddr0 (off := 0) rfl Try.underlying83 rfl sz23 rfl rfl) ?_
 refine At.s (S_store none (k := 0) rfl rfl rfl sz23 rfl rfl rfl LN ?_)
 refine At.nil ?_
 refine At.next ?_
 refine At.seq ?_
 refine At.region ?_
 refine At.p (some 46) (P_move rfl rfl) ?_
 refine At.p (some 4) (P_assign rfl rfl) ?_
 refine At.p (some 5) (P_assign rfl rfl) ?_
 refine At.nil ?_
 refine At.next ?_
 refine At.ret ?_
 refine At.give (.inl rfl) [0] (rows' := [_]) (vs := [_, _]) rfl ⟨rfl, rfl, trivial⟩ rfl (by simp) (by simp) ⟨cut Ar 0 n 1, cut Ar n cr 1, cr - n, (fun h => cut_zero (hAr (by omega))), (fun h => by rw [List.length_drop] at h; exact cut_addr1 (hAr (by omega)) (by omega)), by rw [List.length_drop]; omega, rfl, by rw [List.length_drop]; rfl⟩

set_option maxHeartbeats 2000000 in
theorem k_takeS {br bl cr q : Nat} {l : List (BitVec 8)} {Ar : Option Addr} {n : Nat} (hAr : 0 < l.length → Ar = some ⟨bl, q, none⟩) (hcr : l.length ≤ cr) (hn : l.length < n) :
  Con Try.prog 40 [ptr br 0, iV (n : Int)] [⟨true, br, 0, 83, [.slice Ar l.length cr, iV 0], 0⟩, pRow bl q l] (fun v rs => v = .tuple #[.slice none 0 0, .bool false] ∧ rs = [⟨true, br, 0, 83, [.slice Ar l.length cr, iV 2], 0⟩]) := by
 refine Con.enter Try.func40 Try.ntmps40 (Nat.le_of_ble_eq_true rfl) rfl fun w => ?_
 refine At.seq ?_
 refine At.region ?_
 refine At.p (some 4) (P_assign rfl rfl) ?_
 refine At.p (some 5) (P_assign rfl rfl) ?_
 refine At.nil ?_
 refine At.next ?_
 refine At.seq ?_
 refine At.block ?_
 refine At.seq ?_
 refine At.region ?_
 refine At.p (some 8) (P_move rfl rfl) ?_
 refine At.p (some 9) (P_eql_ptr rfl rfl rfl Try.underlying38) ?_
 refine At.p (some 7) (P_assign rfl rfl) ?_
 refine At.nil ?_
 refine At.next ?_
 refine At.cond rfl (fun h7 => by simp at h7) (fun h7 => ?_)
 refine At.seq ?_
 refine At.region ?_
 refine At.p (some 11) (P_move rfl rfl) ?_
 refine At.p (some 12) (P_cmp rfl rfl rfl rfl rfl rfl) ?_
 refine At.p (some 10) (P_assign rfl rfl) ?_
 refine At.nil ?_
 refine At.next ?_
 refine At.cond rfl (fun h10 => by have := of_decide_eq_true h10; omega) (fun h10 => ?_)
 have e10 : ¬ (n : Int) < 0 := of_decide_eq_false h10
 refine At.seq ?_
 refine At.region ?_
 refine At.p (some 16) (P_move rfl rfl) ?_
 refine At.p (some 17) (P_move rfl rfl) ?_
 refine At.p (some 18) (P_nilCheck rfl rfl) ?_
 refine At.p (some 19) (P_fieldAddr0 (off := 0) rfl Try.underlying83 rfl sz23 rfl rfl) ?_
 refine At.q (some 20) (Q_loadO (k := 0) rfl rfl Try.underlying23 rfl rfl rfl) ?_
 refine At.p (some 21) (P_len_sl rfl rfl ⟨_, Try.underlying23⟩ rfl) ?_
 refine At.p (some 22) (P_cmp rfl rfl rfl rfl rfl rfl) ?_
 refine At.p (some 15) (P_assign rfl rfl) ?_
 refine At.nil ?_
 refine At.next ?_
 refine At.cond rfl (fun h15 => ?_) (fun h15 => by have := of_decide_eq_false h15; omega)
 have e15 : (n : Int) > (l.length : Int) := of_decide_eq_true h15
 refine At.region ?_
 refine At.p (some 23) (P_move rfl rfl) ?_
 refine At.s (S_callR (some 24) [(0, _)] [] [0] (vs := [_, _]) rfl en41 rfl (ON rfl rfl O0) (by simp) V0 (by simp) (k_wrong (br := br) (sv := .slice Ar l.length cr) (e := 2)) (by rintro _ _ ⟨rfl, rfl⟩; rfl) ?_)
 rintro _ _ ⟨rfl, rfl⟩
 refine At.nil ?_
 refine At.inb_n ?_
 refine At.next ?_
 refine At.seq ?_
 refine At.seq ?_
 refine At.region ?_
 refine At.p (some 25) (P_move rfl rfl) ?_
 refine At.p (some 26) (P_nilCheck rfl rfl) ?_
 refine At.p (some 27) (P_fieldAddr0 (off := 1) rfl Try.underlying83 rfl sz31 rfl rfl) ?_
 refine At.q (some 28) (Q_loadO (k := 0) rfl rfl Try.underlying31 rfl rfl rfl) ?_
 refine At.p (some 29) (P_cmp rfl rfl rfl rfl rfl rfl) ?_
 refine At.nil ?_
 refine At.next ?_
 refine At.cond rfl (fun h29 => ?_) (fun h29 => by simp at h29)
 have e29 : 2 ≠ 0 := bne_iff_ne.1 h29
 refine At.seq ?_
 refine At.region ?_
 refine At.p (some 4) (P_assign rfl rfl) ?_
 refine At.p (some 5) (P_assign rfl rfl) ?_
 refine At.nil ?_
 refine At.next ?_
 refine At.ret ?_
 refine At.thn_r ?_
 refine At.give (.inl rfl) [0] (rows' := [_]) (vs := [_, _]) rfl ⟨rfl, rfl, trivial⟩ rfl (by simp) (by simp) ⟨rfl, rfl⟩

set_option maxHeartbeats 2000000 in
theorem k_Uint {br bl cr q : Nat} {l : List (BitVec 8)} {Ar : Option Addr} {n : Nat} (hAr : 0 < l.length → Ar = some ⟨bl, q, none⟩) (hcr : l.length ≤ cr) (hn : n ≤ l.length) (h1 : 1 ≤ n) (h4 : n ≤ 4) :
  Con Try.prog 39 [ptr br 0, iV (n : Int)] [⟨true, br, 0, 83, [.slice Ar l.length cr, iV 0], 0⟩, pRow bl q l] (fun v rs => ∃ A2 c2, (0 < (l.drop n).length → A2 = some ⟨bl, q + n, none⟩) ∧ (l.drop n).length ≤ c2 ∧ v = iV (beI (l.take n) 0 : Int) ∧ rs = [⟨true, br, 0, 83, [.slice A2 (l.drop n).length c2, iV 0], 0⟩]) := by
 refine Con.enter Try.func39 Try.ntmps39 (Nat.le_of_ble_eq_true rfl) rfl fun w => ?_
 refine At.seq ?_
 refine At.region ?_
 refine At.p (some 4) (P_assign rfl rfl) ?_
 refine At.nil ?_
 refine At.next ?_
 refine At.seq ?_
 refine At.seq ?_
 refine At.region ?_
 refine At.p (some 10) (P_move rfl rfl) ?_
 refine At.p (some 11) (P_neq_ptr rfl rfl rfl Try.underlying38) ?_
 refine At.p (some 12) (P_move rfl rfl) ?_
 refine At.gy (t := 12) rfl rfl rfl rfl ?_
 refine At.p (some 13) (P_move rfl rfl) ?_
 refine At.gy (t := 12) rfl rfl rfl rfl ?_
 refine At.s (S_callV (some 14) [] [] (vs := [_]) rfl en87 rfl V0 (by simp) (k_right (wd := n) OG OG) (by rintro _ _ ⟨rfl, rfl⟩; rfl) ?_)
 rintro _ _ ⟨rfl, rfl⟩
 refine At.gy (t := 12) rfl rfl rfl rfl ?_
 refine At.p (some 15) (P_not rfl rfl) ?_
 refine At.p (some 16) (P_pick_t rfl rfl rfl rfl) ?_
 refine At.nil ?_
 refine At.next ?_
 refine At.cond rfl (fun h16 => by simp at h16) (fun h16 => ?_)
 refine At.skip ?_
 refine At.next ?_
 refine At.seq ?_
 refine At.region ?_
 refine At.p (some 20) (P_move rfl rfl) ?_
 refine At.p (some 21) (P_move rfl rfl) ?_
 refine At.s (S_callR (some 22) [(0, _)] [(1, _)] [0] (vs := [_, _]) rfl en40 rfl (ON rfl rfl O0) (by simp) (VN (by simp) rfl View.all V0) (by simp) (k_takeY (br := br) (bl := bl) (cr := cr) (q := q) (l := l) (Ar := Ar) (n := n) hAr (by omega) (by omega)) (by rintro _ _ ⟨A22, B22, c22, g22a, g22b, g22c, rfl, rfl⟩; rfl) ?_)
 rintro _ _ ⟨A22, B22, c22, g22a, g22b, g22c, rfl, rfl⟩
 refine At.p (some 19) (P_move rfl rfl) ?_
 refine At.p (some 23) (P_extract rfl rfl rfl) ?_
 refine At.p (some 24) (P_extract rfl rfl rfl) ?_
 refine At.p (some 5) (P_assign rfl rfl) ?_
 refine At.p (some 6) (P_assign rfl rfl) ?_
 refine At.nil ?_
 refine At.next ?_
 refine At.seq ?_
 refine At.seq ?_
 refine At.region ?_
 refine At.p (some 25) (P_move rfl rfl) ?_
 refine At.p (some 26) (P_not rfl rfl) ?_
 refine At.nil ?_
 refine At.next ?_
 refine At.cond rfl (fun h26 => by simp at h26) (fun h26 => ?_)
 refine At.skip ?_
 refine At.next ?_
 refine At.seq ?_
 refine At.region ?_
 refine At.p (some 7) (P_assign rfl rfl) ?_
 refine At.nil ?_
 refine At.next ?_
 refine At.seq ?_
 refine At.seq ?_
 refine At.region ?_
 refine At.p (some 27) (P_move rfl rfl) ?_
 refine At.p (some 28) (P_len_sl rfl rfl ⟨_, Try.underlying23⟩ rfl) ?_
 refine At.p (some 29) (P_move rfl rfl) ?_
 refine At.nil ?_
 refine At.next ?_
 refine At.block ?_
 refine At.loopx (I := fun m fr H => ∃ (k : Nat), m = n - k ∧ fr = frOf [(0, ptr br 0), (1, iV (n : Int)), (4, iV 0), (5, .slice A22 n n), (6, .bool true), (7, iV (beI (l.take k) 0 : Int)), (10, ptr br 0), (11, .bool true), (12, .bool true), (13, iV (n : Int)), (14, .bool true), (15, .bool (!true)), (16, .bool (!true)), (19, .tuple #[.slice A22 n n, .bool true]), (20, ptr br 0), (21, iV (n : Int)), (22, .tuple #[.slice A22 n n, .bool true]), (23, .slice A22 n n), (24, .bool true), (25, .bool true), (26, .bool (!true)), (27, .slice A22 n n), (28, iV (n : Int)), (29, iV (k : Int))] ∧ H = hOf [(0, ⟨true, br, 0, 83, [.slice B22 ((l.drop n).length) c22, iV 0], 0⟩), (1, pRow bl q l)] ∧ (k ≤ n)) ?_ ?_
 ·
  intro Kc0 hKc0
  refine At.to [(0, _), (1, _), (4, _), (5, _), (6, _), (7, iV (beI (l.take 0) 0 : Int)), (10, _), (11, _), (12, _), (13, _), (14, _), (15, _), (16, _), (19, _), (20, _), (21, _), (22, _), (23, _), (24, _), (25, _), (26, _), (27, _), (28, _), (29, _)] [(0, _), (1, _)] (AllL.cons_ (rfl) (AllL.cons_ (rfl) (AllL.cons_ (rfl) (AllL.cons_ (rfl) (AllL.cons_ (rfl) (AllL.cons_ (rfl) (AllL.cons_ (rfl) (AllL.cons_ (rfl) (AllL.cons_ (rfl) (AllL.cons_ (rfl) (AllL.cons_ (rfl) (AllL.cons_ (rfl) (AllL.cons_ (rfl) (AllL.cons_ (rfl) (AllL.cons_ (rfl) (AllL.cons_ (rfl) (AllL.cons_ (rfl) (AllL.cons_ (rfl) (AllL.cons_ (rfl) (AllL.cons_ (rfl) (AllL.cons_ (rfl) (AllL.cons_ (rfl) (AllL.cons_ (rfl) (AllL.cons_ (rfl) trivial)))))))))))))))))))))))) (AllL.cons_ (rfl) (AllL.cons_ (rfl) trivial)) ?_
  exact hKc0 _ _ _ ⟨0, rfl, rfl, rfl, (by omega)⟩
 ·
  rintro m fr H ⟨k, rfl, rfl, rfl, hk⟩ Kc0 hKc0
  have hbl : beI (l.take k) 0 < 4294967296 := beI_lt4 (by rw [List.length_take]; omega)
  refine At.seq ?_
  refine At.region ?_
  refine At.p (some 30) (P_cmp rfl rfl rfl rfl rfl rfl) ?_
  refine At.nil ?_
  refine At.next ?_
  refine At.seq ?_
  refine At.cond rfl (fun h30 => ?_) (fun h30 => ?_)
  · -- cond 30 t
   have e30 : (k : Int) < (n : Int) := of_decide_eq_true h30
   refine At.skip ?_
   refine At.next ?_
   refine At.seq ?_
   refine At.block ?_
   refine At.seq ?_
   refine At.region ?_
   refine At.p (some 31) (P_indexAddr_sl1 (b := bl) (m := q) (j := k) rfl Try.underlying23 sz5 rfl ((fun h => g22a (by omega)) OG) rfl RO OG) ?_
   refine At.q (some 32) (Q_loadR (k := 1) (f := u8V) (l := l) (j := k) (0#8) rfl rfl Try.underlying5 rfl rfl rfl OG) ?_
   refine At.p (some 9) (P_assign rfl rfl) ?_
   refine At.nil ?_
   refine At.next ?_
   refine At.region ?_
   refine At.p (some 33) (P_move rfl rfl) ?_
   refine At.p (some 34) (P_shl_i rfl rfl rfl (by decide) (by decide) (shl8b hbl)) ?_
   refine At.p (some 35) (P_move rfl rfl) ?_
   refine At.p (some 36) (P_conv_wi UK.u8 (by decide) rfl Try.underlying5 Try.underlying3 rfl) ?_
   refine At.p (some 37) (P_cast (congrArg (fun z : Nat => iV (z : Int)) (beI_take (by omega)).symm) (P_or_i8 (a := beI (l.take k) 0) (c := (l.getD k 0#8).toNat) rfl rfl rfl (by omega) (l.getD k 0#8).isLt)) ?_
   refine At.p (some 7) (P_assign rfl rfl) ?_
   refine At.nil ?_
   refine At.inb_n ?_
   refine At.next ?_
   refine At.region ?_
   refine At.p (some 38) (P_add_i rfl rfl rfl (by omega)) ?_
   refine At.p (some 29) (P_move rfl rfl) ?_
   refine At.nil ?_
   refine At.next ?_
   refine At.to [(0, _), (1, _), (4, _), (5, _), (6, _), (7, iV (beI (l.take (k + 1)) 0 : Int)), (10, _), (11, _), (12, _), (13, _), (14, _), (15, _), (16, _), (19, _), (20, _), (21, _), (22, _), (23, _), (24, _), (25, _), (26, _), (27, _), (28, _), (29, iV ((k + 1 : Nat) : Int))] [(0, _), (1, _)] (AllL.cons_ (rfl) (AllL.cons_ (rfl) (AllL.cons_ (rfl) (AllL.cons_ (rfl) (AllL.cons_ (rfl) (AllL.cons_ (rfl) (AllL.cons_ (rfl) (AllL.cons_ (rfl) (AllL.cons_ (rfl) (AllL.cons_ (rfl) (AllL.cons_ (rfl) (AllL.cons_ (rfl) (AllL.cons_ (rfl) (AllL.cons_ (rfl) (AllL.cons_ (rfl) (AllL.cons_ (rfl) (AllL.cons_ (rfl) (AllL.cons_ (rfl) (AllL.cons_ (rfl) (AllL.cons_ (rfl) (AllL.cons_ (rfl) (AllL.cons_ (rfl) (AllL.cons_ (rfl) (AllL.cons_ (rfl) trivial)))))))))))))))))))))))) (AllL.cons_ (rfl) (AllL.cons_ (rfl) trivial)) ?_
   exact hKc0 _ _ _ (by omega) ⟨k + 1, rfl, rfl, rfl, (by omega)⟩
  · -- cond 30 f
   have e30 : ¬ (k : Int) < (n : Int) := of_decide_eq_false h30
   refine At.exit ?_
   refine At.thn_e ?_
   refine At.thn_e ?_
   refine At.inb_hit ?_
   refine At.next ?_
   refine At.seq ?_
   refine At.region ?_
   refine At.p (some 39) (P_move rfl rfl) ?_
   refine At.p (some 4) (P_assign rfl rfl) ?_
   refine At.nil ?_
   refine At.next ?_
   refine At.ret ?_
   have hkn : k = n := by omega
   subst hkn
   refine At.give (.inl rfl) [0] (rows' := [_]) (vs := [_]) rfl ⟨rfl, trivial⟩ rfl (by simp) (by simp) ⟨B22, c22, g22b, g22c, rfl, rfl⟩

set_option maxHeartbeats 2000000 in
theorem k_Left {br bl cr q : Nat} {l : List (BitVec 8)} {Ar : Option Addr} (hAr : 0 < l.length → Ar = some ⟨bl, q, none⟩) (hcr : l.length ≤ cr) :
  Con Try.prog 42 [ptr br 0] [⟨false, br, 0, 83, [.slice Ar l.length cr, iV 0], 0⟩, pRow bl q l] (fun v rs => v = iV (l.length : Int) ∧ rs = []) := by
 refine Con.enter Try.func42 Try.ntmps42 (Nat.le_of_ble_eq_true rfl) rfl fun w => ?_
 refine At.seq ?_
 refine At.region ?_
 refine At.p (some 2) (P_assign rfl rfl) ?_
 refine At.nil ?_
 refine At.next ?_
 refine At.seq ?_
 refine At.seq ?_
 refine At.region ?_
 refine At.p (some 3) (P_move rfl rfl) ?_
 refine At.p (some 4) (P_eql_ptr rfl rfl rfl Try.underlying38) ?_
 refine At.nil ?_
 refine At.next ?_
 refine At.cond rfl (fun h4 => by simp at h4) (fun h4 => ?_)
 refine At.skip ?_
 refine At.next ?_
 refine At.seq ?_
 refine At.region ?_
 refine At.p (some 5) (P_move rfl rfl) ?_
 refine At.p (some 6) (P_nilCheck rfl rfl) ?_
 refine At.p (some 7) (P_fieldAddr0 (off := 0) rfl Try.underlying83 rfl sz23 rfl rfl) ?_
 refine At.q (some 8) (Q_loadO (k := 0) rfl rfl Try.underlying23 rfl rfl rfl) ?_
 refine At.p (some 9) (P_len_sl rfl rfl ⟨_, Try.underlying23⟩ rfl) ?_
 refine At.p (some 2) (P_assign rfl rfl) ?_
 refine At.nil ?_
 refine At.next ?_
 refine At.ret ?_
 refine At.give (.inl rfl) [] (rows' := []) (vs := [_]) rfl ⟨rfl, trivial⟩ rfl (by simp) (by simp) ⟨rfl, rfl⟩

set_option maxHeartbeats 2000000 in
theorem k_Bytes {br bl cr q : Nat} {l : List (BitVec 8)} {Ar : Option Addr} {n : Nat} (hAr : 0 < l.length → Ar = some ⟨bl, q, none⟩) (hcr : l.length ≤ cr) (hn : n ≤ l.length) (hl : l.length ≤ 1000000) :
  Con Try.prog 43 [ptr br 0, iV (n : Int)] [⟨true, br, 0, 83, [.slice Ar l.length cr, iV 0], 0⟩, pRow bl q l] (fun v rs => ∃ A2 c2 A' b' c', (0 < (l.drop n).length → A2 = some ⟨bl, q + n, none⟩) ∧ (l.drop n).length ≤ c2 ∧ (0 < c' → A' = some ⟨b', 0, none⟩) ∧ (l.take n).length ≤ c' ∧ v = .slice A' (l.take n).length c' ∧ rs = [⟨true, br, 0, 83, [.slice A2 (l.drop n).length c2, iV 0], 0⟩, ⟨true, b', 0, 5, (l.take n).map u8V, c' - (l.take n).length⟩]) := by
 refine Con.enter Try.func43 Try.ntmps43 (Nat.le_of_ble_eq_true rfl) rfl fun w => ?_
 refine At.seq ?_
 refine At.region ?_
 refine At.p (some 4) (P_assign rfl rfl) ?_
 refine At.nil ?_
 refine At.next ?_
 refine At.seq ?_
 refine At.region ?_
 refine At.p (some 8) (P_move rfl rfl) ?_
 refine At.p (some 9) (P_move rfl rfl) ?_
 refine At.s (S_callR (some 10) [(0, _)] [(1, _)] [0] (vs := [_, _]) rfl en40 rfl (ON rfl rfl O0) (by simp) (VN (by simp) rfl View.all V0) (by simp) (k_takeY (br := br) (bl := bl) (cr := cr) (q := q) (l := l) (Ar := Ar) (n := n) hAr (by omega) (by omega)) (by rintro _ _ ⟨A10, B10, c10, g10a, g10b, g10c, rfl, rfl⟩; rfl) ?_)
 rintro _ _ ⟨A10, B10, c10, g10a, g10b, g10c, rfl, rfl⟩
 refine At.p (some 7) (P_move rfl rfl) ?_
 refine At.p (some 11) (P_extract rfl rfl rfl) ?_
 refine At.p (some 12) (P_extract rfl rfl rfl) ?_
 refine At.p (some 5) (P_assign rfl rfl) ?_
 refine At.p (some 6) (P_assign rfl rfl) ?_
 refine At.nil ?_
 refine At.next ?_
 refine At.seq ?_
 refine At.region ?_
 refine At.p (some 13) (P_move rfl rfl) ?_
 refine At.s (S_callV (some 14) [(1, _)] [14] (vs := [_]) rfl en38 rfl (VN (by simp) rfl (View.sub (j := 0) (m := n) RO rfl) V0) (by simp) (c_BClone (b := (l.take n)) (nb := n) (Ab := A10) (cb := n) (bb := bl) (qb := q) LN (fun h => g10a (by omega)) OG) (by rintro _ _ ⟨A14, b14, c14, g14a, g14b, rfl, rfl⟩; rfl) ?_)
 rintro _ _ ⟨A14, b14, c14, g14a, g14b, rfl, rfl⟩
 refine At.p (some 4) (P_assign rfl rfl) ?_
 refine At.nil ?_
 refine At.next ?_
 refine At.ret ?_
 refine At.give (.inl rfl) [0, 14] (rows' := [_, _]) (vs := [_]) rfl ⟨rfl, trivial⟩ rfl (by simp) (by simp) ⟨B10, c10, A14, b14, c14, g10b, g10c, g14a, g14b, rfl, rfl⟩

set_option maxHeartbeats 2000000 in
theorem k_VecY {br bl cr q m : Nat} {l : List (BitVec 8)} {Ar : Option Addr} {n : Nat} {lo : Nat} {hi : Nat} (hAr : 0 < l.length → Ar = some ⟨bl, q, none⟩) (hcr : l.length ≤ cr) (hn : n ≤ l.length) (h1 : 1 ≤ n) (h4 : n ≤ 4) (hm : beI (l.take n) 0 = m) (hml : m ≤ (l.drop n).length) (hlo : lo ≤ m) (hhi : m ≤ hi) (hl : l.length ≤ 1000000) :
  Con Try.prog 10 [ptr br 0, iV (n : Int), iV (lo : Int), iV (hi : Int)] [⟨true, br, 0, 83, [.slice Ar l.length cr, iV 0], 0⟩, pRow bl q l] (fun v rs => ∃ A2 c2 A' b' c', (0 < ((l.drop n).drop m).length → A2 = some ⟨bl, q + n + m, none⟩) ∧ ((l.drop n).drop m).length ≤ c2 ∧ (0 < c' → A' = some ⟨b', 0, none⟩) ∧ ((l.drop n).take m).length ≤ c' ∧ v = .slice A' ((l.drop n).take m).length c' ∧ rs = [⟨true, br, 0, 83, [.slice A2 ((l.drop n).drop m).length c2, iV 0], 0⟩, ⟨true, b', 0, 5, ((l.drop n).take m).map u8V, c' - ((l.drop n).take m).length⟩]) := by
 refine Con.enter Try.func10 Try.ntmps10 (Nat.le_of_ble_eq_true rfl) rfl fun w => ?_
 refine At.seq ?_
 refine At.region ?_
 refine At.p (some 8) (P_assign rfl rfl) ?_
 refine At.nil ?_
 refine At.next ?_
 refine At.seq ?_
 have hld : (l.drop n).length = l.length - n := List.length_drop
 refine At.region ?_
 refine At.p (some 12) (P_move rfl rfl) ?_
 refine At.p (some 13) (P_move rfl rfl) ?_
 refine At.s (S_callR (some 14) [(0, _)] [(1, _)] [0] (vs := [_, _]) rfl en39 rfl (ON rfl rfl O0) (by simp) (VN (by simp) rfl View.all V0) (by simp) (k_Uint (br := br) (bl := bl) (cr := cr) (q := q) (l := l) (Ar := Ar) (n := n) hAr (by omega) (by omega) (by omega) (by omega)) (by rintro _ _ ⟨B14, c14, g14b, g14c, rfl, rfl⟩; rfl) ?_)
 rintro _ _ ⟨B14, c14, g14b, g14c, rfl, rfl⟩
 have q14 : ((beI (l.take n) 0 : Int) : Int) = (m : Int) := (by rw [hm])
 simp only [q14]
 refine At.p (some 9) (P_assign rfl rfl) ?_
 refine At.nil ?_
 refine At.next ?_
 refine At.seq ?_
 refine At.region ?_
 refine At.p (some 16) (P_move rfl rfl) ?_
 refine At.p (some 17) (P_move rfl rfl) ?_
 refine At.s (S_callR (some 18) [(0, _)] [(1, _)] [0] (vs := [_, _]) rfl en40 rfl (ON rfl rfl O0) (by simp) (VN (by simp) rfl (View.sub (j := n) (m := (l.drop n).length) (by omega) (by first | rw [List.take_length] | rw [← List.drop_drop, List.take_length])) V0) (by simp) (k_takeY (br := br) (bl := bl) (cr := c14) (q := (q + n)) (l := (l.drop n)) (Ar := B14) (n := m) (fun h => g14b (by omega)) (by omega) (by omega)) (by rintro _ _ ⟨A18, B18, c18, g18a, g18b, g18c, rfl, rfl⟩; rfl) ?_)
 rintro _ _ ⟨A18, B18, c18, g18a, g18b, g18c, rfl, rfl⟩
 refine At.p (some 15) (P_move rfl rfl) ?_
 refine At.p (some 19) (P_extract rfl rfl rfl) ?_
 refine At.p (some 20) (P_extract rfl rfl rfl) ?_
 refine At.p (some 10) (P_assign rfl rfl) ?_
 refine At.p (some 11) (P_assign rfl rfl) ?_
 refine At.nil ?_
 refine At.next ?_
 refine At.seq ?_
 refine At.seq ?_
 refine At.region ?_
 refine At.p (some 21) (P_move rfl rfl) ?_
 refine At.p (some 22) (P_move rfl rfl) ?_
 refine At.gy (t := 22) rfl rfl rfl rfl ?_
 refine At.p (some 23) (P_move rfl rfl) ?_
 refine At.gy (t := 22) rfl rfl rfl rfl ?_
 refine At.p (some 24) (P_move rfl rfl) ?_
 refine At.gy (t := 22) rfl rfl rfl rfl ?_
 refine At.p (some 25) (P_cmp rfl rfl rfl rfl rfl rfl) ?_
 refine At.gy (t := 22) rfl rfl rfl rfl ?_
 refine At.p (some 26) (P_move rfl rfl) ?_
 refine At.gy (t := 26) rfl (decide_eq_false (by omega)) rfl rfl ?_
 refine At.p (some 27) (P_move rfl rfl) ?_
 refine At.gy (t := 26) rfl (decide_eq_false (by omega)) rfl rfl ?_
 refine At.p (some 28) (P_move rfl rfl) ?_
 refine At.gy (t := 26) rfl (decide_eq_false (by omega)) rfl rfl ?_
 refine At.p (some 29) (P_cmp rfl rfl rfl rfl rfl rfl) ?_
 refine At.gy (t := 22) rfl rfl rfl rfl ?_
 refine At.p (some 30) (P_pick_f rfl rfl (decide_eq_false (by omega)) rfl) ?_
 refine At.p (some 31) (P_pick_t rfl rfl rfl rfl) ?_
 refine At.nil ?_
 refine At.next ?_
 refine At.cond rfl (fun h31 => by have := of_decide_eq_true h31; omega) (fun h31 => ?_)
 have e31 : ¬ (m : Int) > (hi : Int) := of_decide_eq_false h31
 refine At.skip ?_
 refine At.next ?_
 refine At.seq ?_
 refine At.region ?_
 refine At.p (some 34) (P_move rfl rfl) ?_
 refine At.s (S_callV (some 35) [(1, _)] [35] (vs := [_]) rfl en38 rfl (VN (by simp) rfl (View.sub (j := n) (m := m) rfl rfl) V0) (by simp) (c_BClone (b := ((l.drop n).take m)) (nb := m) (Ab := A18) (cb := m) (bb := bl) (qb := (q + n)) LN (fun h => g18a (by omega)) OG) (by rintro _ _ ⟨A35, b35, c35, g35a, g35b, rfl, rfl⟩; rfl) ?_)
 rintro _ _ ⟨A35, b35, c35, g35a, g35b, rfl, rfl⟩
 refine At.p (some 8) (P_assign rfl rfl) ?_
 refine At.nil ?_
 refine At.next ?_
 refine At.ret ?_
 refine At.give (.inl rfl) [0, 35] (rows' := [_, _]) (vs := [_]) rfl ⟨rfl, trivial⟩ rfl (by simp) (by simp) ⟨B18, c18, A35, b35, c35, g18b, g18c, g35a, g35b, rfl, rfl⟩

set_option maxHeartbeats 2000000 in
theorem k_VecS {br bl cr q m : Nat} {l : List (BitVec 8)} {Ar : Option Addr} {n : Nat} {lo : Nat} {hi : Nat} (hAr : 0 < l.length → Ar = some ⟨bl, q, none⟩) (hcr : l.length ≤ cr) (hn : n ≤ l.length) (h1 : 1 ≤ n) (h4 : n ≤ 4) (hm : beI (l.take n) 0 = m) (hml : (l.drop n).length < m) (hl : l.length ≤ 1000000) :
  Con Try.prog 10 [ptr br 0, iV (n : Int), iV (lo : Int), iV (hi : Int)] [⟨true, br, 0, 83, [.slice Ar l.length cr, iV 0], 0⟩, pRow bl q l] (fun v rs => ∃ A2 c2 A' b' c', (0 < (l.drop n).length → A2 = some ⟨bl, q + n, none⟩) ∧ (l.drop n).length ≤ c2 ∧ (0 < c' → A' = some ⟨b', 0, none⟩) ∧ v = .slice A' ([] : List (BitVec 8)).length c' ∧ rs = [⟨true, br, 0, 83, [.slice A2 (l.drop n).length c2, iV 2], 0⟩, ⟨true, b', 0, 5, ([] : List (BitVec 8)).map u8V, c' - ([] : List (BitVec 8)).length⟩]) := by
 refine Con.enter Try.func10 Try.ntmps10 (Nat.le_of_ble_eq_true rfl) rfl fun w => ?_
 refine At.seq ?_
 refine At.region ?_
 refine At.p (some 8) (P_assign rfl rfl) ?_
 refine At.nil ?_
 refine At.next ?_
 refine At.seq ?_
 have hld : (l.drop n).length = l.length - n := List.length_drop
 refine At.region ?_
 refine At.p (some 12) (P_move rfl rfl) ?_
 refine At.p (some 13) (P_move rfl rfl) ?_
 refine At.s (S_callR (some 14) [(0, _)] [(1, _)] [0] (vs := [_, _]) rfl en39 rfl (ON rfl rfl O0) (by simp) (VN (by simp) rfl View.all V0) (by simp) (k_Uint (br := br) (bl := bl) (cr := cr) (q := q) (l := l) (Ar := Ar) (n := n) hAr (by omega) (by omega) (by omega) (by omega)) (by rintro _ _ ⟨B14, c14, g14b, g14c, rfl, rfl⟩; rfl) ?_)
 rintro _ _ ⟨B14, c14, g14b, g14c, rfl, rfl⟩
 have q14 : ((beI (l.take n) 0 : Int) : Int) = (m : Int) := (by rw [hm])
 simp only [q14]
 refine At.p (some 9) (P_assign rfl rfl) ?_
 refine At.nil ?_
 refine At.next ?_
 refine At.seq ?_
 refine At.region ?_
 refine At.p (some 16) (P_move rfl rfl) ?_
 refine At.p (some 17) (P_move rfl rfl) ?_
 refine At.s (S_callR (some 18) [(0, _)] [(1, _)] [0] (vs := [_, _]) rfl en40 rfl (ON rfl rfl O0) (by simp) (VN (by simp) rfl (View.sub (j := n) (m := (l.drop n).length) (by omega) (by first | rw [List.take_length] | rw [← List.drop_drop, List.take_length])) V0) (by simp) (k_takeS (br := br) (bl := bl) (cr := c14) (q := (q + n)) (l := (l.drop n)) (Ar := B14) (n := m) (fun h => g14b (by omega)) (by omega) (by omega)) (by rintro _ _ ⟨rfl, rfl⟩; rfl) ?_)
 rintro _ _ ⟨rfl, rfl⟩
 refine At.p (some 15) (P_move rfl rfl) ?_
 refine At.p (some 19) (P_extract rfl rfl rfl) ?_
 refine At.p (some 20) (P_extract rfl rfl rfl) ?_
 refine At.p (some 10) (P_assign rfl rfl) ?_
 refine At.p (some 11) (P_assign rfl rfl) ?_
 refine At.nil ?_
 refine At.next ?_
 refine At.seq ?_
 refine At.seq ?_
 refine At.region ?_
 refine At.p (some 21) (P_move rfl rfl) ?_
 refine At.p (some 22) (P_move rfl rfl) ?_
 refine At.gn (some 23) (t := 22) rfl rfl rfl rfl ?_
 refine At.gn (some 24) (t := 22) rfl rfl rfl rfl ?_
 refine At.gn (some 25) (t := 22) rfl rfl rfl rfl ?_
 refine At.gn (some 26) (t := 22) rfl rfl rfl rfl ?_
 refine At.gu (some 27) (t := 26) rfl rfl rfl ?_
 refine At.gu (some 28) (t := 26) rfl rfl rfl ?_
 refine At.gu (some 29) (t := 26) rfl rfl rfl ?_
 refine At.gn (some 30) (t := 22) rfl rfl rfl rfl ?_
 refine At.p (some 31) (P_pick_f rfl rfl rfl rfl) ?_
 refine At.nil ?_
 refine At.next ?_
 refine At.cond rfl (fun h31 => by simp at h31) (fun h31 => ?_)
 refine At.skip ?_
 refine At.next ?_
 refine At.seq ?_
 refine At.region ?_
 refine At.p (some 34) (P_move rfl rfl) ?_
 refine At.s (S_callV (some 35) [(98, _)] [35] (vs := [_]) rfl en38 rfl (VE rfl rfl V0) (by simp) (c_BClone (b := ([] : List (BitVec 8))) (nb := 0) (Ab := none) (cb := 0) (bb := 0) (qb := 0) LN (fun h => absurd h (Nat.lt_irrefl 0)) OG) (by rintro _ _ ⟨A35, b35, c35, g35a, g35b, rfl, rfl⟩; rfl) ?_)
 rintro _ _ ⟨A35, b35, c35, g35a, g35b, rfl, rfl⟩
 refine At.p (some 8) (P_assign rfl rfl) ?_
 refine At.nil ?_
 refine At.next ?_
 refine At.ret ?_
 refine At.give (.inl rfl) [0, 35] (rows' := [_, _]) (vs := [_]) rfl ⟨rfl, trivial⟩ rfl (by simp) (by simp) ⟨B14, c14, A35, b35, c35, g14b, g14c, g35a, rfl, rfl⟩

set_option maxHeartbeats 2000000 in
theorem k_Done {br bl cr q : Nat} {l : List (BitVec 8)} {Ar : Option Addr} (hAr : 0 < l.length → Ar = some ⟨bl, q, none⟩) (hcr : l.length ≤ cr) (hz : l.length = 0) :
  Con Try.prog 13 [ptr br 0] [⟨false, br, 0, 83, [.slice Ar l.length cr, iV 0], 0⟩, pRow bl q l] (fun v rs => v = iV 0 ∧ rs = []) := by
 refine Con.enter Try.func13 Try.ntmps13 (Nat.le_of_ble_eq_true rfl) rfl fun w => ?_
 refine At.seq ?_
 refine At.region ?_
 refine At.p (some 2) (P_assign rfl rfl) ?_
 refine At.nil ?_
 refine At.next ?_
 refine At.seq ?_
 refine At.block ?_
 refine At.seq ?_
 refine At.region ?_
 refine At.p (some 4) (P_move rfl rfl) ?_
 refine At.p (some 5) (P_eql_ptr rfl rfl rfl Try.underlying38) ?_
 refine At.p (some 3) (P_assign rfl rfl) ?_
 refine At.nil ?_
 refine At.next ?_
 refine At.cond rfl (fun h3 => by simp at h3) (fun h3 => ?_)
 refine At.seq ?_
 refine At.region ?_
 refine At.p (some 7) (P_move rfl rfl) ?_
 refine At.p (some 8) (P_nilCheck rfl rfl) ?_
 refine At.p (some 9) (P_fieldAddr0 (off := 1) rfl Try.underlying83 rfl sz31 rfl rfl) ?_
 refine At.q (some 10) (Q_loadO (k := 0) rfl rfl Try.underlying31 rfl rfl rfl) ?_
 refine At.p (some 11) (P_cmp rfl rfl rfl rfl rfl rfl) ?_
 refine At.p (some 6) (P_assign rfl rfl) ?_
 refine At.nil ?_
 refine At.next ?_
 refine At.cond rfl (fun h6 => ?_) (fun h6 => ?_)
 · -- cond 6 t
  have e6 : 0 ≠ 0 := bne_iff_ne.1 h6
  refine At.seq ?_
  refine At.region ?_
  refine At.p (some 12) (P_move rfl rfl) ?_
  refine At.p (some 13) (P_nilCheck rfl rfl) ?_
  refine At.p (some 14) (P_fieldAddr0 (off := 1) rfl Try.underlying83 rfl sz31 rfl rfl) ?_
  refine At.q (some 15) (Q_loadO (k := 0) rfl rfl Try.underlying31 rfl rfl rfl) ?_
  refine At.p (some 2) (P_assign rfl rfl) ?_
  refine At.nil ?_
  refine At.next ?_
  refine At.ret ?_
  refine At.inb_r ?_
  refine At.thn_r ?_
  refine At.give (.inl rfl) [] (rows' := []) (vs := [_]) rfl ⟨rfl, trivial⟩ rfl (by simp) (by simp) ⟨rfl, rfl⟩
 · -- cond 6 f
  have e6 : 0 = 0 := bne_eq_false_iff_eq.1 h6
  refine At.seq ?_
  refine At.region ?_
  refine At.p (some 17) (P_move rfl rfl) ?_
  refine At.p (some 18) (P_nilCheck rfl rfl) ?_
  refine At.p (some 19) (P_fieldAddr0 (off := 0) rfl Try.underlying83 rfl sz23 rfl rfl) ?_
  refine At.q (some 20) (Q_loadO (k := 0) rfl rfl Try.underlying23 rfl rfl rfl) ?_
  refine At.p (some 21) (P_len_sl rfl rfl ⟨_, Try.underlying23⟩ rfl) ?_
  refine At.p (some 22) (P_cmp rfl rfl rfl rfl rfl rfl) ?_
  refine At.p (some 16) (P_assign rfl rfl) ?_
  refine At.nil ?_
  refine At.next ?_
  refine At.cond rfl (fun h16 => by have := of_decide_eq_true h16; omega) (fun h16 => ?_)
  have e16 : ¬ (l.length : Int) > 0 := of_decide_eq_false h16
  refine At.skip ?_
  refine At.inb_n ?_
  refine At.next ?_
  refine At.seq ?_
  refine At.region ?_
  refine At.p (some 2) (P_assign rfl rfl) ?_
  refine At.nil ?_
  refine At.next ?_
  refine At.ret ?_
  refine At.give (.inl rfl) [] (rows' := []) (vs := [_]) rfl ⟨rfl, trivial⟩ rfl (by simp) (by simp) ⟨rfl, rfl⟩

set_option maxHeartbeats 2000000 in
theorem k_Done2 {br bl cr q : Nat} {l : List (BitVec 8)} {Ar : Option Addr} (hAr : 0 < l.length → Ar = some ⟨bl, q, none⟩) (hcr : l.length ≤ cr) :
  Con Try.prog 13 [ptr br 0] [⟨false, br, 0, 83, [.slice Ar l.length cr, iV 2], 0⟩, pRow bl q l] (fun v rs => v = iV 2 ∧ rs = []) := by
 refine Con.enter Try.func13 Try.ntmps13 (Nat.le_of_ble_eq_true rfl) rfl fun w => ?_
 refine At.seq ?_
 refine At.region ?_
 refine At.p (some 2) (P_assign rfl rfl) ?_
 refine At.nil ?_
 refine At.next ?_
 refine At.seq ?_
 refine At.block ?_
 refine At.seq ?_
 refine At.region ?_
 refine At.p (some 4) (P_move rfl rfl) ?_
 refine At.p (some 5) (P_eql_ptr rfl rfl rfl Try.underlying38) ?_
 refine At.p (some 3) (P_assign rfl rfl) ?_
 refine At.nil ?_
 refine At.next ?_
 refine At.cond rfl (fun h3 => by simp at h3) (fun h3 => ?_)
 refine At.seq ?_
 refine At.region ?_
 refine At.p (some 7) (P_move rfl rfl) ?_
 refine At.p (some 8) (P_nilCheck rfl rfl) ?_
 refine At.p (some 9) (P_fieldAddr0 (off := 1) rfl Try.underlying83 rfl sz31 rfl rfl) ?_
 refine At.q (some 10) (Q_loadO (k := 0) rfl rfl Try.underlying31 rfl rfl rfl) ?_
 refine At.p (some 11) (P_cmp rfl rfl rfl rfl rfl rfl) ?_
 refine At.p (some 6) (P_assign rfl rfl) ?_
 refine At.nil ?_
 refine At.next ?_
 refine At.cond rfl (fun h6 => ?_) (fun h6 => by simp at h6)
 have e6 : 2 ≠ 0 := bne_iff_ne.1 h6
 refine At.seq ?_
 refine At.region ?_
 refine At.p (some 12) (P_move rfl rfl) ?_
 refine At.p (some 13) (P_nilCheck rfl rfl) ?_
 refine At.p (some 14) (P_fieldAddr0 (off := 1) rfl Try.underlying83 rfl sz31 rfl rfl) ?_
 refine At.q (some 15) (Q_loadO (k := 0) rfl rfl Try.underlying31 rfl rfl rfl) ?_
 refine At.p (some 2) (P_assign rfl rfl) ?_
 refine At.nil ?_
 refine At.next ?_
 refine At.ret ?_
 refine At.inb_r ?_
 refine At.thn_r ?_
 refine At.give (.inl rfl) [] (rows' := []) (vs := [_]) rfl ⟨rfl, trivial⟩ rfl (by simp) (by simp) ⟨rfl, rfl⟩


end Go.Proofs.Ytcjfkmhijfcciaa

