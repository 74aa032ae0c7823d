import Derived.Test.YtcjfkmhijfcciaaGR3
namespace Go.Proofs.Ytcjfkmhijfcciaa
set_option maxRecDepth 20000
set_option linter.unusedVariables false
set_option linter.unusedSimpArgs false
open Go.SE Go.RowKit
attribute [local irreducible] sumS
set_option maxHeartbeats 2000000 in
theorem k_must {bw : Nat} {sv : Value}  :
  Con Try.prog 29 [ptr bw 0, .bool true] [⟨true, bw, 0, 72, [sv, .bool false], 0⟩] (fun v rs => v = .tuple #[] ∧ rs = [⟨true, bw, 0, 72, [sv, .bool false], 0⟩]) := by
 refine Con.enter Try.func29 Try.ntmps29 (Nat.le_of_ble_eq_true rfl) rfl fun w => ?_
 refine At.region ?_
 refine At.p (some 4) (P_move rfl rfl) ?_
 refine At.p (some 5) (P_move rfl rfl) ?_
 refine At.p (some 6) (P_nilCheck rfl rfl) ?_
 refine At.p (some 7) (P_fieldAddr0 (off := 1) rfl Try.underlying72 rfl sz4 rfl rfl) ?_
 refine At.q (some 8) (Q_loadO (k := 0) rfl rfl Try.underlying4 rfl rfl rfl) ?_
 refine At.p (some 9) (P_move rfl rfl) ?_
 refine At.gy (t := 9) rfl rfl rfl rfl ?_
 refine At.p (some 10) (P_move rfl rfl) ?_
 refine At.gy (t := 9) rfl rfl rfl rfl ?_
 refine At.p (some 11) (P_not rfl rfl) ?_
 refine At.p (some 12) (P_pick_f rfl rfl rfl rfl) ?_
 refine At.p (some 13) (P_nilCheck rfl rfl) ?_
 refine At.p (some 14) (P_fieldAddr0 (off := 1) rfl Try.underlying72 rfl sz4 rfl rfl) ?_
 refine At.s (S_store none (k := 0) rfl rfl rfl sz4 rfl rfl rfl LN ?_)
 refine At.nil ?_
 refine At.give (.inr rfl) [0] (rows' := [_]) (vs := []) rfl trivial rfl (by simp) (by simp) ⟨rfl, rfl⟩

set_option maxHeartbeats 2000000 in
theorem k_wuint2 {bw bl cw : Nat} {l : List (BitVec 8)} {Aw : Option Addr} {n : Nat} (hAw : 0 < l.length → Aw = some ⟨bl, 0, none⟩) (hl : l.length ≤ 900000) (hn : n < 65536) :
  Con Try.prog 30 [ptr bw 0, iV (n : Int), iV 2] [⟨true, bw, 0, 72, [.slice Aw l.length cw, .bool false], 0⟩, pRow bl 0 l] (fun v rs => ∃ A' b' c', (0 < c' → A' = some ⟨b', 0, none⟩) ∧ (l ++ beN 2 n).length ≤ c' ∧ v = .tuple #[] ∧ rs = [⟨true, bw, 0, 72, [.slice A' (l ++ beN 2 n).length c', .bool false], 0⟩, ⟨true, b', 0, 5, (l ++ beN 2 n).map u8V, c' - (l ++ beN 2 n).length⟩]) := by
 refine Con.enter Try.func30 Try.ntmps30 (Nat.le_of_ble_eq_true rfl) rfl fun w => ?_
 refine At.seq ?_
 refine At.region ?_
 refine At.p (some 7) (P_move rfl rfl) ?_
 refine At.p (some 8) (P_nilCheck rfl rfl) ?_
 refine At.p (some 9) (P_fieldAddr0 (off := 0) rfl Try.underlying72 rfl sz23 rfl rfl) ?_
 refine At.q (some 10) (Q_loadO (k := 0) rfl rfl Try.underlying23 rfl rfl rfl) ?_
 refine At.p (some 11) (P_move rfl rfl) ?_
 refine At.p (some 12) (P_move rfl rfl) ?_
 refine At.s (S_callV (some 13) [(1, _)] [13] (vs := [_, _, _]) rfl en37 rfl (VN (by simp) rfl View.all V0) (by simp) (k_PutUint2 (b := l) (Ab := Aw) (nb := l.length) (cb := cw) (bb := bl) (qb := 0) (n := n) LN (fun h => hAw (by omega)) (by omega) (by omega)) (by rintro _ _ ⟨A13, b13, c13, g13a, g13b, rfl, rfl⟩; rfl) ?_)
 rintro _ _ ⟨A13, b13, c13, g13a, g13b, rfl, rfl⟩
 have hbn := beN_len 2 n
 refine At.p (some 6) (P_assign rfl rfl) ?_
 refine At.nil ?_
 refine At.next ?_
 refine At.seq ?_
 have h13p : 0 < c13 := by rw [List.length_append] at g13b; omega
 have h13e := g13a h13p
 subst h13e
 refine At.region ?_
 refine At.p (some 14) (P_move rfl rfl) ?_
 refine At.p (some 15) (P_move rfl rfl) ?_
 refine At.p (some 16) (P_neq_slnil rfl Try.underlying23 rfl rfl) ?_
 refine At.s (S_callR (some 17) [(0, _)] [] [0] (vs := [_, _]) rfl en29 rfl (ON rfl rfl O0) (by simp) V0 (by simp) (k_must (bw := bw) (sv := .slice Aw l.length cw)) (by rintro _ _ ⟨rfl, rfl⟩; rfl) ?_)
 rintro _ _ ⟨rfl, rfl⟩
 refine At.nil ?_
 refine At.next ?_
 refine At.region ?_
 refine At.p (some 18) (P_move rfl rfl) ?_
 refine At.p (some 19) (P_move rfl rfl) ?_
 refine At.p (some 20) (P_nilCheck rfl rfl) ?_
 refine At.p (some 21) (P_fieldAddr0 (off := 0) rfl Try.underlying72 rfl sz23 rfl rfl) ?_
 refine At.s (S_store none (k := 0) rfl rfl rfl sz23 rfl rfl rfl LN ?_)
 refine At.nil ?_
 refine At.give (.inr rfl) [0, 13] (rows' := [_, _]) (vs := []) rfl trivial rfl (by simp) (by simp) ⟨some ⟨b13, 0, none⟩, b13, c13, (fun _ => rfl), g13b, rfl, rfl⟩

set_option maxHeartbeats 2000000 in
theorem k_wvec1 {bw bl cw : Nat} {l : List (BitVec 8)} {Aw : Option Addr} {x : List (BitVec 8)} {Ax : Option Addr} {nx cx bx qx : Nat} {lo : Nat} {hi : Nat} (hAw : 0 < l.length → Aw = some ⟨bl, 0, none⟩) (hnx : x.length = nx) (hAx : 0 < nx → Ax = some ⟨bx, qx, none⟩) (hl : l.length ≤ 900000) (hn : nx < 256) (hlo : lo ≤ nx) (hhi : nx ≤ hi) :
  Con Try.prog 31 [ptr bw 0, .slice Ax nx cx, iV 1, iV (lo : Int), iV (hi : Int)] [⟨true, bw, 0, 72, [.slice Aw l.length cw, .bool false], 0⟩, pRow bl 0 l, pRow bx qx x] (fun v rs => ∃ A' b' c', (0 < c' → A' = some ⟨b', 0, none⟩) ∧ (l ++ beN 1 nx ++ x).length ≤ c' ∧ v = .tuple #[] ∧ rs = [⟨true, bw, 0, 72, [.slice A' (l ++ beN 1 nx ++ x).length c', .bool false], 0⟩, ⟨true, b', 0, 5, (l ++ beN 1 nx ++ x).map u8V, c' - (l ++ beN 1 nx ++ x).length⟩]) := by
 refine Con.enter Try.func31 Try.ntmps31 (Nat.le_of_ble_eq_true rfl) rfl fun w => ?_
 refine At.seq ?_
 refine At.region ?_
 refine At.p (some 11) (P_move rfl rfl) ?_
 refine At.p (some 12) (P_move rfl rfl) ?_
 refine At.p (some 13) (P_len_sl rfl rfl ⟨_, Try.underlying23⟩ rfl) ?_
 refine At.p (some 14) (P_move rfl rfl) ?_
 refine At.p (some 15) (P_cmp rfl rfl rfl rfl rfl rfl) ?_
 refine At.p (some 16) (P_move rfl rfl) ?_
 refine At.gy (t := 16) rfl (decide_eq_true (by omega)) rfl rfl ?_
 refine At.p (some 17) (P_move rfl rfl) ?_
 refine At.gy (t := 16) rfl (decide_eq_true (by omega)) rfl rfl ?_
 refine At.p (some 18) (P_len_sl rfl rfl ⟨_, Try.underlying23⟩ rfl) ?_
 refine At.gy (t := 16) rfl (decide_eq_true (by omega)) rfl rfl ?_
 refine At.p (some 19) (P_move rfl rfl) ?_
 refine At.gy (t := 16) rfl (decide_eq_true (by omega)) rfl rfl ?_
 refine At.p (some 20) (P_cmp rfl rfl rfl rfl rfl rfl) ?_
 refine At.p (some 21) (P_cast (congrArg Value.bool (decide_eq_true (by omega))) (P_pick_t rfl rfl (decide_eq_true (by omega)) rfl)) ?_
 refine At.s (S_callR (some 22) [(0, _)] [] [0] (vs := [_, _]) rfl en29 rfl (ON rfl rfl O0) (by simp) V0 (by simp) (k_must (bw := bw) (sv := .slice Aw l.length cw)) (by rintro _ _ ⟨rfl, rfl⟩; rfl) ?_)
 rintro _ _ ⟨rfl, rfl⟩
 refine At.nil ?_
 refine At.next ?_
 refine At.seq ?_
 refine At.region ?_
 refine At.p (some 23) (P_move rfl rfl) ?_
 refine At.p (some 24) (P_nilCheck rfl rfl) ?_
 refine At.p (some 25) (P_fieldAddr0 (off := 0) rfl Try.underlying72 rfl sz23 rfl rfl) ?_
 refine At.q (some 26) (Q_loadO (k := 0) rfl rfl Try.underlying23 rfl rfl rfl) ?_
 refine At.p (some 27) (P_move rfl rfl) ?_
 refine At.p (some 28) (P_move rfl rfl) ?_
 refine At.s (S_callV (some 29) [(1, _), (2, _)] [29] (vs := [_, _, _]) rfl en8 rfl (VN (by simp) rfl View.all (VN (by simp) rfl View.all V0)) (by simp) (k_PutVec1 (b := l) (Ab := Aw) (nb := l.length) (cb := cw) (bb := bl) (qb := 0) (x := x) (Ax := Ax) (nx := nx) (cx := cx) (bx := bx) (qx := qx) LN (fun h => hAw (by omega)) LN hAx (by first | omega | (simp [beN_len]; done) | (simp [beN_len]; omega)) LN) (by rintro _ _ ⟨A29, b29, c29, g29a, g29b, rfl, rfl⟩; rfl) ?_)
 rintro _ _ ⟨A29, b29, c29, g29a, g29b, rfl, rfl⟩
 have hbn := beN_len 1 nx
 refine At.p (some 10) (P_assign rfl rfl) ?_
 refine At.nil ?_
 refine At.next ?_
 refine At.seq ?_
 have h29p : 0 < c29 := by rw [List.length_append, List.length_append] at g29b; have := beN_len 1 nx; omega
 have h29e := g29a h29p
 subst h29e
 refine At.region ?_
 refine At.p (some 30) (P_move rfl rfl) ?_
 refine At.p (some 31) (P_move rfl rfl) ?_
 refine At.p (some 32) (P_neq_slnil rfl Try.underlying23 rfl rfl) ?_
 refine At.s (S_callR (some 33) [(0, _)] [] [0] (vs := [_, _]) rfl en29 rfl (ON rfl rfl O0) (by simp) V0 (by simp) (k_must (bw := bw) (sv := .slice Aw l.length cw)) (by rintro _ _ ⟨rfl, rfl⟩; rfl) ?_)
 rintro _ _ ⟨rfl, rfl⟩
 refine At.nil ?_
 refine At.next ?_
 refine At.region ?_
 refine At.p (some 34) (P_move rfl rfl) ?_
 refine At.p (some 35) (P_move rfl rfl) ?_
 refine At.p (some 36) (P_nilCheck rfl rfl) ?_
 refine At.p (some 37) (P_fieldAddr0 (off := 0) rfl Try.underlying72 rfl sz23 rfl rfl) ?_
 refine At.s (S_store none (k := 0) rfl rfl rfl sz23 rfl rfl rfl LN ?_)
 refine At.nil ?_
 refine At.give (.inr rfl) [0, 29] (rows' := [_, _]) (vs := []) rfl trivial rfl (by simp) (by simp) ⟨some ⟨b29, 0, none⟩, b29, c29, (fun _ => rfl), g29b, rfl, rfl⟩

set_option maxHeartbeats 2000000 in
theorem k_wvec2 {bw bl cw : Nat} {l : List (BitVec 8)} {Aw : Option Addr} {x : List (BitVec 8)} {Ax : Option Addr} {nx cx bx qx : Nat} {lo : Nat} {hi : Nat} (hAw : 0 < l.length → Aw = some ⟨bl, 0, none⟩) (hnx : x.length = nx) (hAx : 0 < nx → Ax = some ⟨bx, qx, none⟩) (hl : l.length ≤ 900000) (hn : nx < 65536) (hlo : lo ≤ nx) (hhi : nx ≤ hi) :
  Con Try.prog 31 [ptr bw 0, .slice Ax nx cx, iV 2, iV (lo : Int), iV (hi : Int)] [⟨true, bw, 0, 72, [.slice Aw l.length cw, .bool false], 0⟩, pRow bl 0 l, pRow bx qx x] (fun v rs => ∃ A' b' c', (0 < c' → A' = some ⟨b', 0, none⟩) ∧ (l ++ beN 2 nx ++ x).length ≤ c' ∧ v = .tuple #[] ∧ rs = [⟨true, bw, 0, 72, [.slice A' (l ++ beN 2 nx ++ x).length c', .bool false], 0⟩, ⟨true, b', 0, 5, (l ++ beN 2 nx ++ x).map u8V, c' - (l ++ beN 2 nx ++ x).length⟩]) := by
 refine Con.enter Try.func31 Try.ntmps31 (Nat.le_of_ble_eq_true rfl) rfl fun w => ?_
 refine At.seq ?_
 refine At.region ?_
 refine At.p (some 11) (P_move rfl rfl) ?_
 refine At.p (some 12) (P_move rfl rfl) ?_
 refine At.p (some 13) (P_len_sl rfl rfl ⟨_, Try.underlying23⟩ rfl) ?_
 refine At.p (some 14) (P_move rfl rfl) ?_
 refine At.p (some 15) (P_cmp rfl rfl rfl rfl rfl rfl) ?_
 refine At.p (some 16) (P_move rfl rfl) ?_
 refine At.gy (t := 16) rfl (decide_eq_true (by omega)) rfl rfl ?_
 refine At.p (some 17) (P_move rfl rfl) ?_
 refine At.gy (t := 16) rfl (decide_eq_true (by omega)) rfl rfl ?_
 refine At.p (some 18) (P_len_sl rfl rfl ⟨_, Try.underlying23⟩ rfl) ?_
 refine At.gy (t := 16) rfl (decide_eq_true (by omega)) rfl rfl ?_
 refine At.p (some 19) (P_move rfl rfl) ?_
 refine At.gy (t := 16) rfl (decide_eq_true (by omega)) rfl rfl ?_
 refine At.p (some 20) (P_cmp rfl rfl rfl rfl rfl rfl) ?_
 refine At.p (some 21) (P_cast (congrArg Value.bool (decide_eq_true (by omega))) (P_pick_t rfl rfl (decide_eq_true (by omega)) rfl)) ?_
 refine At.s (S_callR (some 22) [(0, _)] [] [0] (vs := [_, _]) rfl en29 rfl (ON rfl rfl O0) (by simp) V0 (by simp) (k_must (bw := bw) (sv := .slice Aw l.length cw)) (by rintro _ _ ⟨rfl, rfl⟩; rfl) ?_)
 rintro _ _ ⟨rfl, rfl⟩
 refine At.nil ?_
 refine At.next ?_
 refine At.seq ?_
 refine At.region ?_
 refine At.p (some 23) (P_move rfl rfl) ?_
 refine At.p (some 24) (P_nilCheck rfl rfl) ?_
 refine At.p (some 25) (P_fieldAddr0 (off := 0) rfl Try.underlying72 rfl sz23 rfl rfl) ?_
 refine At.q (some 26) (Q_loadO (k := 0) rfl rfl Try.underlying23 rfl rfl rfl) ?_
 refine At.p (some 27) (P_move rfl rfl) ?_
 refine At.p (some 28) (P_move rfl rfl) ?_
 refine At.s (S_callV (some 29) [(1, _), (2, _)] [29] (vs := [_, _, _]) rfl en8 rfl (VN (by simp) rfl View.all (VN (by simp) rfl View.all V0)) (by simp) (k_PutVec2 (b := l) (Ab := Aw) (nb := l.length) (cb := cw) (bb := bl) (qb := 0) (x := x) (Ax := Ax) (nx := nx) (cx := cx) (bx := bx) (qx := qx) LN (fun h => hAw (by omega)) LN hAx (by first | omega | (simp [beN_len]; done) | (simp [beN_len]; omega)) LN) (by rintro _ _ ⟨A29, b29, c29, g29a, g29b, rfl, rfl⟩; rfl) ?_)
 rintro _ _ ⟨A29, b29, c29, g29a, g29b, rfl, rfl⟩
 have hbn := beN_len 2 nx
 refine At.p (some 10) (P_assign rfl rfl) ?_
 refine At.nil ?_
 refine At.next ?_
 refine At.seq ?_
 have h29p : 0 < c29 := by rw [List.length_append, List.length_append] at g29b; have := beN_len 2 nx; omega
 have h29e := g29a h29p
 subst h29e
 refine At.region ?_
 refine At.p (some 30) (P_move rfl rfl) ?_
 refine At.p (some 31) (P_move rfl rfl) ?_
 refine At.p (some 32) (P_neq_slnil rfl Try.underlying23 rfl rfl) ?_
 refine At.s (S_callR (some 33) [(0, _)] [] [0] (vs := [_, _]) rfl en29 rfl (ON rfl rfl O0) (by simp) V0 (by simp) (k_must (bw := bw) (sv := .slice Aw l.length cw)) (by rintro _ _ ⟨rfl, rfl⟩; rfl) ?_)
 rintro _ _ ⟨rfl, rfl⟩
 refine At.nil ?_
 refine At.next ?_
 refine At.region ?_
 refine At.p (some 34) (P_move rfl rfl) ?_
 refine At.p (some 35) (P_move rfl rfl) ?_
 refine At.p (some 36) (P_nilCheck rfl rfl) ?_
 refine At.p (some 37) (P_fieldAddr0 (off := 0) rfl Try.underlying72 rfl sz23 rfl rfl) ?_
 refine At.s (S_store none (k := 0) rfl rfl rfl sz23 rfl rfl rfl LN ?_)
 refine At.nil ?_
 refine At.give (.inr rfl) [0, 29] (rows' := [_, _]) (vs := []) rfl trivial rfl (by simp) (by simp) ⟨some ⟨b29, 0, none⟩, b29, c29, (fun _ => rfl), g29b, rfl, rfl⟩

set_option maxHeartbeats 2000000 in
theorem k_wend {bw bl cw : Nat} {l : List (BitVec 8)} {Aw : Option Addr} (hAw : 0 < l.length → Aw = some ⟨bl, 0, none⟩) :
  Con Try.prog 36 [ptr bw 0] [⟨false, bw, 0, 72, [.slice Aw l.length cw, .bool false], 0⟩, pRow bl 0 l] (fun v rs => v = .tuple #[.slice Aw l.length cw, iV 0] ∧ rs = []) := by
 refine Con.enter Try.func36 Try.ntmps36 (Nat.le_of_ble_eq_true rfl) rfl fun w => ?_
 refine At.seq ?_
 refine At.region ?_
 refine At.p (some 2) (P_assign rfl rfl) ?_
 refine At.p (some 3) (P_assign rfl rfl) ?_
 refine At.nil ?_
 refine At.next ?_
 refine At.seq ?_
 refine At.seq ?_
 refine At.region ?_
 refine At.p (some 4) (P_move rfl rfl) ?_
 refine At.p (some 5) (P_nilCheck rfl rfl) ?_
 refine At.p (some 6) (P_fieldAddr0 (off := 1) rfl Try.underlying72 rfl sz4 rfl rfl) ?_
 refine At.q (some 7) (Q_loadO (k := 0) rfl rfl Try.underlying4 rfl rfl rfl) ?_
 refine At.nil ?_
 refine At.next ?_
 refine At.cond rfl (fun h7 => by cases h7) (fun h7 => ?_)
 refine At.skip ?_
 refine At.next ?_
 refine At.seq ?_
 refine At.region ?_
 refine At.p (some 8) (P_move rfl rfl) ?_
 refine At.p (some 9) (P_nilCheck rfl rfl) ?_
 refine At.p (some 10) (P_fieldAddr0 (off := 0) rfl Try.underlying72 rfl sz23 rfl rfl) ?_
 refine At.q (some 11) (Q_loadO (k := 0) rfl rfl Try.underlying23 rfl rfl rfl) ?_
 refine At.p (some 2) (P_assign rfl rfl) ?_
 refine At.p (some 3) (P_assign rfl rfl) ?_
 refine At.nil ?_
 refine At.next ?_
 refine At.ret ?_
 refine At.give (.inl rfl) [] (rows' := []) (vs := [_, _]) rfl ⟨rfl, rfl, trivial⟩ rfl (by simp) (by simp) ⟨rfl, rfl⟩

set_option maxHeartbeats 2000000 in
theorem k_wlist1 {bw bl cw : Nat} {l : List (BitVec 8)} {Aw : Option Addr} {ns : List Int} {An : Option Addr} {nn cn bn qn : Nat} {hi : Nat} (hAw : 0 < l.length → Aw = some ⟨bl, 0, none⟩) (hnn : ns.length = nn) (hAn : 0 < nn → An = some ⟨bn, qn, none⟩) (hl : l.length ≤ 800000) (h1 : 1 ≤ nn) (hh : nn ≤ hi) (h8 : nn ≤ 8) (hns : ∀ e ∈ ns, 0 ≤ e ∧ e < 65536) :
  Con Try.prog 32 [ptr bw 0, .slice An nn cn, iV 1, iV (hi : Int)] [⟨true, bw, 0, 72, [.slice Aw l.length cw, .bool false], 0⟩, pRow bl 0 l, ⟨false, bn, qn, 0, (ns).map iV, 0⟩] (fun v rs => ∃ A' b' c', (0 < c' → A' = some ⟨b', 0, none⟩) ∧ (l ++ beN 1 (2 * nn) ++ nsB ns).length ≤ c' ∧ v = .tuple #[] ∧ rs = [⟨true, bw, 0, 72, [.slice A' (l ++ beN 1 (2 * nn) ++ nsB ns).length c', .bool false], 0⟩, ⟨true, b', 0, 5, (l ++ beN 1 (2 * nn) ++ nsB ns).map u8V, c' - (l ++ beN 1 (2 * nn) ++ nsB ns).length⟩]) := by
 refine Con.enter Try.func32 Try.ntmps32 (Nat.le_of_ble_eq_true rfl) rfl fun w => ?_
 refine At.seq ?_
 refine At.region ?_
 refine At.p (some 11) (P_move rfl rfl) ?_
 refine At.p (some 12) (P_move rfl rfl) ?_
 refine At.p (some 13) (P_len_sl rfl rfl ⟨_, Try.underlying24⟩ rfl) ?_
 refine At.p (some 14) (P_cmp rfl rfl rfl rfl rfl rfl) ?_
 refine At.p (some 15) (P_move rfl rfl) ?_
 refine At.gy (t := 15) rfl (decide_eq_true (by omega)) rfl rfl ?_
 refine At.p (some 16) (P_move rfl rfl) ?_
 refine At.gy (t := 15) rfl (decide_eq_true (by omega)) rfl rfl ?_
 refine At.p (some 17) (P_len_sl rfl rfl ⟨_, Try.underlying24⟩ rfl) ?_
 refine At.gy (t := 15) rfl (decide_eq_true (by omega)) rfl rfl ?_
 refine At.p (some 18) (P_move rfl rfl) ?_
 refine At.gy (t := 15) rfl (decide_eq_true (by omega)) rfl rfl ?_
 refine At.p (some 19) (P_cmp rfl rfl rfl rfl rfl rfl) ?_
 refine At.p (some 20) (P_cast (congrArg Value.bool (decide_eq_true (by omega))) (P_pick_t rfl rfl (decide_eq_true (by omega)) rfl)) ?_
 refine At.s (S_callR (some 21) [(0, _)] [] [0] (vs := [_, _]) rfl en29 rfl (ON rfl rfl O0) (by simp) V0 (by simp) (k_must (bw := bw) (sv := .slice Aw l.length cw)) (by rintro _ _ ⟨rfl, rfl⟩; rfl) ?_)
 rintro _ _ ⟨rfl, rfl⟩
 refine At.nil ?_
 refine At.next ?_
 refine At.seq ?_
 refine At.region ?_
 refine At.p (some 22) (P_build_struct (parts := _) (vs := []) rfl Try.underlying72 ze72 pl72 rfl rfl) ?_
 refine At.s (S_box (some 23) 23 (zs := [.slice none 0 0, .bool false]) rfl rfl rfl (fun b23 => ?_))
 refine At.empty 54 0 5 ?_
 refine At.p (some 8) (P_assign rfl rfl) ?_
 refine At.nil ?_
 refine At.next ?_
 refine At.seq ?_
 refine At.seq ?_
 refine At.region ?_
 refine At.p (some 24) (P_move rfl rfl) ?_
 refine At.p (some 25) (P_len_sl rfl rfl ⟨_, Try.underlying24⟩ rfl) ?_
 refine At.p (some 26) (P_move rfl rfl) ?_
 refine At.nil ?_
 refine At.next ?_
 refine At.block ?_
 refine At.loopx (I := fun m fr H => ∃ (k : Nat) (A2 : Option Addr) (b2 c2 : Nat), m = nn - k ∧ fr = frOf [(0, ptr bw 0), (1, .slice An nn cn), (2, iV 1), (3, iV (hi : Int)), (8, ptr b23 0), (11, ptr bw 0), (12, .slice An nn cn), (13, iV (nn : Int)), (14, .bool (decide ((nn : Int) ≥ 1))), (15, .bool (decide ((nn : Int) ≥ 1))), (16, .slice An nn cn), (17, iV (nn : Int)), (18, iV (hi : Int)), (19, .bool (decide ((nn : Int) ≤ (hi : Int)))), (20, .bool true), (22, .agg ([.slice none 0 0, .bool false]).toArray), (23, ptr b23 0), (24, .slice An nn cn), (25, iV (nn : Int)), (26, iV (k : Int))] ∧ H = hOf [(0, ⟨true, bw, 0, 72, [.slice Aw l.length cw, .bool false], 0⟩), (1, pRow bl 0 l), (2, ⟨false, bn, qn, 0, (ns).map iV, 0⟩), (23, ⟨true, b23, 0, 72, [.slice A2 ((nsB (ns.take k)).length) c2, .bool false], 0⟩), (54, ⟨true, b2, 0, 5, ((nsB (ns.take k))).map u8V, c2 - ((nsB (ns.take k))).length⟩)] ∧ (k ≤ nn) ∧ (0 < c2 → A2 = some ⟨b2, 0, none⟩) ∧ ((nsB (ns.take k)).length ≤ c2)) ?_ ?_
 ·
  intro Kc0 hKc0
  refine At.to [(0, _), (1, _), (2, _), (3, _), (8, _), (11, _), (12, _), (13, _), (14, _), (15, _), (16, _), (17, _), (18, _), (19, _), (20, _), (22, _), (23, _), (24, _), (25, _), (26, _)] [(0, _), (1, _), (2, _), (23, _), (54, _)] (AllL.cons_ (rfl) (AllL.cons_ (rfl) (AllL.cons_ (rfl) (AllL.cons_ (rfl) (AllL.cons_ (rfl) (AllL.cons_ (rfl) (AllL.cons_ (rfl) (AllL.cons_ (rfl) (AllL.cons_ (rfl) (AllL.cons_ (rfl) (AllL.cons_ (rfl) (AllL.cons_ (rfl) (AllL.cons_ (rfl) (AllL.cons_ (rfl) (AllL.cons_ (rfl) (AllL.cons_ (rfl) (AllL.cons_ (rfl) (AllL.cons_ (rfl) (AllL.cons_ (rfl) (AllL.cons_ (rfl) trivial)))))))))))))))))))) (AllL.cons_ (rfl) (AllL.cons_ (rfl) (AllL.cons_ (rfl) (AllL.cons_ (rfl) (AllL.cons_ (rfl) trivial))))) ?_
  exact hKc0 _ _ _ ⟨0, none, 0, 0, rfl, rfl, rfl, (by omega), (fun h => absurd h (Nat.lt_irrefl 0)), (Nat.le_refl _)⟩
 ·
  rintro m fr H ⟨k, A2, b2, c2, rfl, rfl, rfl, hk, hA2, hc2⟩ Kc0 hKc0
  have hnl : (nsB (ns.take k)).length = 2 * k := by rw [nsB_len, List.length_take]; omega
  refine At.seq ?_
  refine At.region ?_
  refine At.p (some 27) (P_cmp rfl rfl rfl rfl rfl rfl) ?_
  refine At.nil ?_
  refine At.next ?_
  refine At.seq ?_
  refine At.cond rfl (fun h27 => ?_) (fun h27 => ?_)
  · -- cond 27 t
   have e27 : (k : Int) < (nn : Int) := of_decide_eq_true h27
   refine At.skip ?_
   refine At.next ?_
   refine At.seq ?_
   refine At.block ?_
   refine At.seq ?_
   obtain ⟨m, hm, hm2⟩ := nsNat hns (k := k) (by omega)
   refine At.region ?_
   refine At.p (some 28) (P_indexAddr_sl1 (b := bn) (m := qn) (j := k) rfl Try.underlying24 sz3 rfl (hAn OG) rfl RO OG) ?_
   refine At.q (some 29) (Q_loadR (k := 2) (f := iV) (l := ns) (j := k) ((0 : Int)) rfl rfl Try.underlying3 rfl rfl rfl OG) ?_
   have q29 : ((ns.getD k 0) : Int) = (m : Int) := hm
   simp only [q29]
   refine At.p (some 10) (P_assign rfl rfl) ?_
   refine At.nil ?_
   refine At.next ?_
   refine At.region ?_
   refine At.p (some 30) (P_move rfl rfl) ?_
   refine At.p (some 31) (P_move rfl rfl) ?_
   refine At.s (S_callR (some 32) [(23, _)] [(54, _)] [23, 54] (vs := [_, _, _]) rfl en30 rfl (ON rfl rfl O0) (by simp) (VN (by simp) rfl View.all V0) (by simp) (k_wuint2 (bw := b23) (bl := b2) (cw := c2) (l := (nsB (ns.take k))) (Aw := A2) (n := m) (fun h => hA2 (by omega)) LN LN) (by rintro _ _ ⟨A32, b32, c32, g32a, g32b, rfl, rfl⟩; rfl) ?_)
   rintro _ _ ⟨A32, b32, c32, g32a, g32b, rfl, rfl⟩
   have hbn32 := beN_len 2 m
   refine At.nil ?_
   refine At.inb_n ?_
   refine At.next ?_
   refine At.region ?_
   refine At.p (some 33) (P_add_i rfl rfl rfl (by omega)) ?_
   refine At.p (some 26) (P_move rfl rfl) ?_
   refine At.nil ?_
   refine At.next ?_
   refine At.to [(0, _), (1, _), (2, _), (3, _), (8, _), (11, _), (12, _), (13, _), (14, _), (15, _), (16, _), (17, _), (18, _), (19, _), (20, _), (22, _), (23, _), (24, _), (25, _), (26, iV ((k + 1 : Nat) : Int))] [(0, _), (1, _), (2, _), (23, ⟨true, b23, 0, 72, [.slice A32 ((nsB (ns.take (k + 1))).length) c32, .bool false], 0⟩), (54, ⟨true, b32, 0, 5, ((nsB (ns.take (k + 1)))).map u8V, c32 - ((nsB (ns.take (k + 1)))).length⟩)] (AllL.cons_ (rfl) (AllL.cons_ (rfl) (AllL.cons_ (rfl) (AllL.cons_ (rfl) (AllL.cons_ (rfl) (AllL.cons_ (rfl) (AllL.cons_ (rfl) (AllL.cons_ (rfl) (AllL.cons_ (rfl) (AllL.cons_ (rfl) (AllL.cons_ (rfl) (AllL.cons_ (rfl) (AllL.cons_ (rfl) (AllL.cons_ (rfl) (AllL.cons_ (rfl) (AllL.cons_ (rfl) (AllL.cons_ (rfl) (AllL.cons_ (rfl) (AllL.cons_ (rfl) (AllL.cons_ (rfl) trivial)))))))))))))))))))) (AllL.cons_ (rfl) (AllL.cons_ (rfl) (AllL.cons_ (rfl) (AllL.cons_ ((by rw [nsB_take (by omega) hm]; rfl)) (AllL.cons_ ((by rw [nsB_take (by omega) hm]; rfl)) trivial))))) ?_
   exact hKc0 _ _ _ (by omega) ⟨k + 1, A32, b32, c32, rfl, rfl, rfl, (by omega), g32a, (by rw [nsB_take (by omega) hm]; exact g32b)⟩
  · -- cond 27 f
   have e27 : ¬ (k : Int) < (nn : Int) := of_decide_eq_false h27
   refine At.exit ?_
   refine At.thn_e ?_
   refine At.thn_e ?_
   refine At.inb_hit ?_
   refine At.next ?_
   refine At.seq ?_
   refine At.region ?_
   refine At.p (some 34) (P_move rfl rfl) ?_
   refine At.p (some 35) (P_move rfl rfl) ?_
   refine At.p (some 36) (P_nilCheck rfl rfl) ?_
   refine At.p (some 37) (P_fieldAddr0 (off := 1) rfl Try.underlying72 rfl sz4 rfl rfl) ?_
   refine At.q (some 38) (Q_loadO (k := 23) rfl rfl Try.underlying4 rfl rfl rfl) ?_
   refine At.p (some 39) (P_not rfl rfl) ?_
   refine At.s (S_callR (some 40) [(0, _)] [] [0] (vs := [_, _]) rfl en29 rfl (ON rfl rfl O0) (by simp) V0 (by simp) (k_must (bw := bw) (sv := .slice Aw l.length cw)) (by rintro _ _ ⟨rfl, rfl⟩; rfl) ?_)
   rintro _ _ ⟨rfl, rfl⟩
   refine At.nil ?_
   refine At.next ?_
   refine At.region ?_
   refine At.p (some 41) (P_move rfl rfl) ?_
   refine At.p (some 42) (P_move rfl rfl) ?_
   refine At.p (some 43) (P_nilCheck rfl rfl) ?_
   refine At.p (some 44) (P_fieldAddr0 (off := 0) rfl Try.underlying72 rfl sz23 rfl rfl) ?_
   refine At.q (some 45) (Q_loadO (k := 23) rfl rfl Try.underlying23 rfl rfl rfl) ?_
   refine At.p (some 46) (P_move rfl rfl) ?_
   refine At.s (S_callR (some 47) [(0, _)] [(1, _), (54, _)] [0, 301] (vs := [_, _, _, _, _]) rfl en31 rfl (ON rfl rfl O0) (by simp) (VN (by simp) rfl View.all (VN (by simp) rfl View.all V0)) (by simp) (k_wvec1 (bw := bw) (bl := bl) (cw := cw) (l := l) (Aw := Aw) (x := (nsB (ns.take k))) (nx := ((nsB (ns.take k)).length)) (Ax := A2) (cx := c2) (bx := b2) (qx := 0) (lo := 0) (hi := 65535) (fun h => hAw (by omega)) LN (fun h => hA2 (by omega)) LN LN LN LN) (by rintro _ _ ⟨A47, b47, c47, g47a, g47b, rfl, rfl⟩; rfl) ?_)
   rintro _ _ ⟨A47, b47, c47, g47a, g47b, rfl, rfl⟩
   have hbn47 := beN_len 1 ((nsB (ns.take k)).length)
   refine At.nil ?_
   have hts : ns.take k = ns := List.take_of_length_le (by omega)
   have hE : (l ++ beN 1 (nsB (ns.take k)).length ++ nsB (ns.take k)) = (l ++ beN 1 (2 * nn) ++ nsB ns) := by rw [hts, nsB_len, hnn]
   refine At.give (.inr rfl) [0, 301] (rows' := [_, _]) (vs := []) rfl trivial rfl (by simp) (by simp) ⟨A47, b47, c47, g47a, by rw [← hE]; exact g47b, rfl, by rw [← hE]⟩

set_option maxHeartbeats 2000000 in
theorem k_wlist2 {bw bl cw : Nat} {l : List (BitVec 8)} {Aw : Option Addr} {ns : List Int} {An : Option Addr} {nn cn bn qn : Nat} {hi : Nat} (hAw : 0 < l.length → Aw = some ⟨bl, 0, none⟩) (hnn : ns.length = nn) (hAn : 0 < nn → An = some ⟨bn, qn, none⟩) (hl : l.length ≤ 800000) (h1 : 1 ≤ nn) (hh : nn ≤ hi) (h8 : nn ≤ 8) (hns : ∀ e ∈ ns, 0 ≤ e ∧ e < 65536) :
  Con Try.prog 32 [ptr bw 0, .slice An nn cn, iV 2, iV (hi : Int)] [⟨true, bw, 0, 72, [.slice Aw l.length cw, .bool false], 0⟩, pRow bl 0 l, ⟨false, bn, qn, 0, (ns).map iV, 0⟩] (fun v rs => ∃ A' b' c', (0 < c' → A' = some ⟨b', 0, none⟩) ∧ (l ++ beN 2 (2 * nn) ++ nsB ns).length ≤ c' ∧ v = .tuple #[] ∧ rs = [⟨true, bw, 0, 72, [.slice A' (l ++ beN 2 (2 * nn) ++ nsB ns).length c', .bool false], 0⟩, ⟨true, b', 0, 5, (l ++ beN 2 (2 * nn) ++ nsB ns).map u8V, c' - (l ++ beN 2 (2 * nn) ++ nsB ns).length⟩]) := by
 refine Con.enter Try.func32 Try.ntmps32 (Nat.le_of_ble_eq_true rfl) rfl fun w => ?_
 refine At.seq ?_
 refine At.region ?_
 refine At.p (some 11) (P_move rfl rfl) ?_
 refine At.p (some 12) (P_move rfl rfl) ?_
 refine At.p (some 13) (P_len_sl rfl rfl ⟨_, Try.underlying24⟩ rfl) ?_
 refine At.p (some 14) (P_cmp rfl rfl rfl rfl rfl rfl) ?_
 refine At.p (some 15) (P_move rfl rfl) ?_
 refine At.gy (t := 15) rfl (decide_eq_true (by omega)) rfl rfl ?_
 refine At.p (some 16) (P_move rfl rfl) ?_
 refine At.gy (t := 15) rfl (decide_eq_true (by omega)) rfl rfl ?_
 refine At.p (some 17) (P_len_sl rfl rfl ⟨_, Try.underlying24⟩ rfl) ?_
 refine At.gy (t := 15) rfl (decide_eq_true (by omega)) rfl rfl ?_
 refine At.p (some 18) (P_move rfl rfl) ?_
 refine At.gy (t := 15) rfl (decide_eq_true (by omega)) rfl rfl ?_
 refine At.p (some 19) (P_cmp rfl rfl rfl rfl rfl rfl) ?_
 refine At.p (some 20) (P_cast (congrArg Value.bool (decide_eq_true (by omega))) (P_pick_t rfl rfl (decide_eq_true (by omega)) rfl)) ?_
 refine At.s (S_callR (some 21) [(0, _)] [] [0] (vs := [_, _]) rfl en29 rfl (ON rfl rfl O0) (by simp) V0 (by simp) (k_must (bw := bw) (sv := .slice Aw l.length cw)) (by rintro _ _ ⟨rfl, rfl⟩; rfl) ?_)
 rintro _ _ ⟨rfl, rfl⟩
 refine At.nil ?_
 refine At.next ?_
 refine At.seq ?_
 refine At.region ?_
 refine At.p (some 22) (P_build_struct (parts := _) (vs := []) rfl Try.underlying72 ze72 pl72 rfl rfl) ?_
 refine At.s (S_box (some 23) 23 (zs := [.slice none 0 0, .bool false]) rfl rfl rfl (fun b23 => ?_))
 refine At.empty 54 0 5 ?_
 refine At.p (some 8) (P_assign rfl rfl) ?_
 refine At.nil ?_
 refine At.next ?_
 refine At.seq ?_
 refine At.seq ?_
 refine At.region ?_
 refine At.p (some 24) (P_move rfl rfl) ?_
 refine At.p (some 25) (P_len_sl rfl rfl ⟨_, Try.underlying24⟩ rfl) ?_
 refine At.p (some 26) (P_move rfl rfl) ?_
 refine At.nil ?_
 refine At.next ?_
 refine At.block ?_
 refine At.loopx (I := fun m fr H => ∃ (k : Nat) (A2 : Option Addr) (b2 c2 : Nat), m = nn - k ∧ fr = frOf [(0, ptr bw 0), (1, .slice An nn cn), (2, iV 2), (3, iV (hi : Int)), (8, ptr b23 0), (11, ptr bw 0), (12, .slice An nn cn), (13, iV (nn : Int)), (14, .bool (decide ((nn : Int) ≥ 1))), (15, .bool (decide ((nn : Int) ≥ 1))), (16, .slice An nn cn), (17, iV (nn : Int)), (18, iV (hi : Int)), (19, .bool (decide ((nn : Int) ≤ (hi : Int)))), (20, .bool true), (22, .agg ([.slice none 0 0, .bool false]).toArray), (23, ptr b23 0), (24, .slice An nn cn), (25, iV (nn : Int)), (26, iV (k : Int))] ∧ H = hOf [(0, ⟨true, bw, 0, 72, [.slice Aw l.length cw, .bool false], 0⟩), (1, pRow bl 0 l), (2, ⟨false, bn, qn, 0, (ns).map iV, 0⟩), (23, ⟨true, b23, 0, 72, [.slice A2 ((nsB (ns.take k)).length) c2, .bool false], 0⟩), (54, ⟨true, b2, 0, 5, ((nsB (ns.take k))).map u8V, c2 - ((nsB (ns.take k))).length⟩)] ∧ (k ≤ nn) ∧ (0 < c2 → A2 = some ⟨b2, 0, none⟩) ∧ ((nsB (ns.take k)).length ≤ c2)) ?_ ?_
 ·
  intro Kc0 hKc0
  refine At.to [(0, _), (1, _), (2, _), (3, _), (8, _), (11, _), (12, _), (13, _), (14, _), (15, _), (16, _), (17, _), (18, _), (19, _), (20, _), (22, _), (23, _), (24, _), (25, _), (26, _)] [(0, _), (1, _), (2, _), (23, _), (54, _)] (AllL.cons_ (rfl) (AllL.cons_ (rfl) (AllL.cons_ (rfl) (AllL.cons_ (rfl) (AllL.cons_ (rfl) (AllL.cons_ (rfl) (AllL.cons_ (rfl) (AllL.cons_ (rfl) (AllL.cons_ (rfl) (AllL.cons_ (rfl) (AllL.cons_ (rfl) (AllL.cons_ (rfl) (AllL.cons_ (rfl) (AllL.cons_ (rfl) (AllL.cons_ (rfl) (AllL.cons_ (rfl) (AllL.cons_ (rfl) (AllL.cons_ (rfl) (AllL.cons_ (rfl) (AllL.cons_ (rfl) trivial)))))))))))))))))))) (AllL.cons_ (rfl) (AllL.cons_ (rfl) (AllL.cons_ (rfl) (AllL.cons_ (rfl) (AllL.cons_ (rfl) trivial))))) ?_
  exact hKc0 _ _ _ ⟨0, none, 0, 0, rfl, rfl, rfl, (by omega), (fun h => absurd h (Nat.lt_irrefl 0)), (Nat.le_refl _)⟩
 ·
  rintro m fr H ⟨k, A2, b2, c2, rfl, rfl, rfl, hk, hA2, hc2⟩ Kc0 hKc0
  have hnl : (nsB (ns.take k)).length = 2 * k := by rw [nsB_len, List.length_take]; omega
  refine At.seq ?_
  refine At.region ?_
  refine At.p (some 27) (P_cmp rfl rfl rfl rfl rfl rfl) ?_
  refine At.nil ?_
  refine At.next ?_
  refine At.seq ?_
  refine At.cond rfl (fun h27 => ?_) (fun h27 => ?_)
  · -- cond 27 t
   have e27 : (k : Int) < (nn : Int) := of_decide_eq_true h27
   refine At.skip ?_
   refine At.next ?_
   refine At.seq ?_
   refine At.block ?_
   refine At.seq ?_
   obtain ⟨m, hm, hm2⟩ := nsNat hns (k := k) (by omega)
   refine At.region ?_
   refine At.p (some 28) (P_indexAddr_sl1 (b := bn) (m := qn) (j := k) rfl Try.underlying24 sz3 rfl (hAn OG) rfl RO OG) ?_
   refine At.q (some 29) (Q_loadR (k := 2) (f := iV) (l := ns) (j := k) ((0 : Int)) rfl rfl Try.underlying3 rfl rfl rfl OG) ?_
   have q29 : ((ns.getD k 0) : Int) = (m : Int) := hm
   simp only [q29]
   refine At.p (some 10) (P_assign rfl rfl) ?_
   refine At.nil ?_
   refine At.next ?_
   refine At.region ?_
   refine At.p (some 30) (P_move rfl rfl) ?_
   refine At.p (some 31) (P_move rfl rfl) ?_
   refine At.s (S_callR (some 32) [(23, _)] [(54, _)] [23, 54] (vs := [_, _, _]) rfl en30 rfl (ON rfl rfl O0) (by simp) (VN (by simp) rfl View.all V0) (by simp) (k_wuint2 (bw := b23) (bl := b2) (cw := c2) (l := (nsB (ns.take k))) (Aw := A2) (n := m) (fun h => hA2 (by omega)) LN LN) (by rintro _ _ ⟨A32, b32, c32, g32a, g32b, rfl, rfl⟩; rfl) ?_)
   rintro _ _ ⟨A32, b32, c32, g32a, g32b, rfl, rfl⟩
   have hbn32 := beN_len 2 m
   refine At.nil ?_
   refine At.inb_n ?_
   refine At.next ?_
   refine At.region ?_
   refine At.p (some 33) (P_add_i rfl rfl rfl (by omega)) ?_
   refine At.p (some 26) (P_move rfl rfl) ?_
   refine At.nil ?_
   refine At.next ?_
   refine At.to [(0, _), (1, _), (2, _), (3, _), (8, _), (11, _), (12, _), (13, _), (14, _), (15, _), (16, _), (17, _), (18, _), (19, _), (20, _), (22, _), (23, _), (24, _), (25, _), (26, iV ((k + 1 : Nat) : Int))] [(0, _), (1, _), (2, _), (23, ⟨true, b23, 0, 72, [.slice A32 ((nsB (ns.take (k + 1))).length) c32, .bool false], 0⟩), (54, ⟨true, b32, 0, 5, ((nsB (ns.take (k + 1)))).map u8V, c32 - ((nsB (ns.take (k + 1)))).length⟩)] (AllL.cons_ (rfl) (AllL.cons_ (rfl) (AllL.cons_ (rfl) (AllL.cons_ (rfl) (AllL.cons_ (rfl) (AllL.cons_ (rfl) (AllL.cons_ (rfl) (AllL.cons_ (rfl) (AllL.cons_ (rfl) (AllL.cons_ (rfl) (AllL.cons_ (rfl) (AllL.cons_ (rfl) (AllL.cons_ (rfl) (AllL.cons_ (rfl) (AllL.cons_ (rfl) (AllL.cons_ (rfl) (AllL.cons_ (rfl) (AllL.cons_ (rfl) (AllL.cons_ (rfl) (AllL.cons_ (rfl) trivial)))))))))))))))))))) (AllL.cons_ (rfl) (AllL.cons_ (rfl) (AllL.cons_ (rfl) (AllL.cons_ ((by rw [nsB_take (by omega) hm]; rfl)) (AllL.cons_ ((by rw [nsB_take (by omega) hm]; rfl)) trivial))))) ?_
   exact hKc0 _ _ _ (by omega) ⟨k + 1, A32, b32, c32, rfl, rfl, rfl, (by omega), g32a, (by rw [nsB_take (by omega) hm]; exact g32b)⟩
  · -- cond 27 f
   have e27 : ¬ (k : Int) < (nn : Int) := of_decide_eq_false h27
   refine At.exit ?_
   refine At.thn_e ?_
   refine At.thn_e ?_
   refine At.inb_hit ?_
   refine At.next ?_
   refine At.seq ?_
   refine At.region ?_
   refine At.p (some 34) (P_move rfl rfl) ?_
   refine At.p (some 35) (P_move rfl rfl) ?_
   refine At.p (some 36) (P_nilCheck rfl rfl) ?_
   refine At.p (some 37) (P_fieldAddr0 (off := 1) rfl Try.underlying72 rfl sz4 rfl rfl) ?_
   refine At.q (some 38) (Q_loadO (k := 23) rfl rfl Try.underlying4 rfl rfl rfl) ?_
   refine At.p (some 39) (P_not rfl rfl) ?_
   refine At.s (S_callR (some 40) [(0, _)] [] [0] (vs := [_, _]) rfl en29 rfl (ON rfl rfl O0) (by simp) V0 (by simp) (k_must (bw := bw) (sv := .slice Aw l.length cw)) (by rintro _ _ ⟨rfl, rfl⟩; rfl) ?_)
   rintro _ _ ⟨rfl, rfl⟩
   refine At.nil ?_
   refine At.next ?_
   refine At.region ?_
   refine At.p (some 41) (P_move rfl rfl) ?_
   refine At.p (some 42) (P_move rfl rfl) ?_
   refine At.p (some 43) (P_nilCheck rfl rfl) ?_
   refine At.p (some 44) (P_fieldAddr0 (off := 0) rfl Try.underlying72 rfl sz23 rfl rfl) ?_
   refine At.q (some 45) (Q_loadO (k := 23) rfl rfl Try.underlying23 rfl rfl rfl) ?_
   refine At.p (some 46) (P_move rfl rfl) ?_
   refine At.s (S_callR (some 47) [(0, _)] [(1, _), (54, _)] [0, 301] (vs := [_, _, _, _, _]) rfl en31 rfl (ON rfl rfl O0) (by simp) (VN (by simp) rfl View.all (VN (by simp) rfl View.all V0)) (by simp) (k_wvec2 (bw := bw) (bl := bl) (cw := cw) (l := l) (Aw := Aw) (x := (nsB (ns.take k))) (nx := ((nsB (ns.take k)).length)) (Ax := A2) (cx := c2) (bx := b2) (qx := 0) (lo := 0) (hi := 65535) (fun h => hAw (by omega)) LN (fun h => hA2 (by omega)) LN LN LN LN) (by rintro _ _ ⟨A47, b47, c47, g47a, g47b, rfl, rfl⟩; rfl) ?_)
   rintro _ _ ⟨A47, b47, c47, g47a, g47b, rfl, rfl⟩
   have hbn47 := beN_len 2 ((nsB (ns.take k)).length)
   refine At.nil ?_
   have hts : ns.take k = ns := List.take_of_length_le (by omega)
   have hE : (l ++ beN 2 (nsB (ns.take k)).length ++ nsB (ns.take k)) = (l ++ beN 2 (2 * nn) ++ nsB ns) := by rw [hts, nsB_len, hnn]
   refine At.give (.inr rfl) [0, 301] (rows' := [_, _]) (vs := []) rfl trivial rfl (by simp) (by simp) ⟨A47, b47, c47, g47a, by rw [← hE]; exact g47b, rfl, by rw [← hE]⟩


end Go.Proofs.Ytcjfkmhijfcciaa

