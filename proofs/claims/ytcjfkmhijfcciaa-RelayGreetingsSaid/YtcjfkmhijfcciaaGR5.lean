import Derived.Test.YtcjfkmhijfcciaaGR4
import Derived.Test.YtcjfkmhijfcciaaG1
namespace Go.Proofs.Ytcjfkmhijfcciaa
set_option maxRecDepth 20000
set_option linter.unusedVariables false
set_option linter.unusedSimpArgs false
open Go.SE Go.RowKit
attribute [local irreducible] sumS
set_option maxHeartbeats 2000000 in
theorem k_parts1 {bw bl cw : Nat} {l : List (BitVec 8)} {Aw : Option Addr} {bc : Nat} {rnd : List (BitVec 8)} {s1 s2 : Value} {vs : List Int} {An : Option Addr} {nn cn bn qn : Nat} (hAw : 0 < l.length → Aw = some ⟨bl, 0, none⟩) (hrnd : rnd.length = 32) (hnn : vs.length = nn) (hAn : 0 < nn → An = some ⟨bn, qn, none⟩) (hvs : ∀ e ∈ vs, 0 ≤ e ∧ e < 65536) (hl : l.length ≤ 700000) (hn1 : 1 ≤ nn) (hn4 : nn ≤ 4) :
  Con Try.prog 74 [ptr bw 0, ptr bc 0] [⟨true, bw, 0, 72, [.slice Aw l.length cw, .bool false], 0⟩, pRow bl 0 l, ⟨false, bc, 0, 29, [(rnd).map u8V, [s1, s2, .slice An nn cn, .slice none 0 0, .slice none 0 0, .slice none 0 0, .slice none 0 0, .slice none 0 0, .slice none 0 0, .slice none 0 0]].flatten, 0⟩, ⟨false, bn, qn, 0, (vs).map iV, 0⟩] (fun v rs => ∃ A' b' c', (0 < c' → A' = some ⟨b', 0, none⟩) ∧ (l ++ beN 1 (2 * nn) ++ nsB vs).length ≤ c' ∧ v = .tuple #[] ∧ rs = [⟨true, bw, 0, 72, [.slice A' (l ++ beN 1 (2 * nn) ++ nsB vs).length c', .bool false], 0⟩, ⟨true, b', 0, 5, (l ++ beN 1 (2 * nn) ++ nsB vs).map u8V, c' - (l ++ beN 1 (2 * nn) ++ nsB vs).length⟩]) := by
 refine Con.enter Try.func74 Try.ntmps74 (Nat.le_of_ble_eq_true rfl) rfl fun w => ?_
 refine At.region ?_
 refine At.p (some 3) (P_move rfl rfl) ?_
 refine At.p (some 4) (P_fieldAddr0 (off := 34) rfl Try.underlying29 rfl sz24 rfl rfl) ?_
 refine At.q (some 5) (Q_loadO (k := 2) rfl rfl Try.underlying24 rfl rfl (seg_get (i := 1) (p := 2) rfl LN rfl)) ?_
 refine At.s (S_callR (some 6) [(0, _)] [(1, _), (3, _)] [0, 301] (vs := [_, _, _, _]) rfl en32 rfl (ON rfl rfl O0) (by simp) (VN (by simp) rfl View.all (VN (by simp) rfl View.all V0)) (by simp) (k_wlist1 (bw := bw) (bl := bl) (cw := cw) (l := l) (Aw := Aw) (ns := vs) (An := An) (nn := nn) (cn := cn) (bn := bn) (qn := qn) (hi := 4) (fun h => hAw (by omega)) hnn hAn LN LN LN LN hvs) (by rintro _ _ ⟨A6, b6, c6, g6a, g6b, rfl, rfl⟩; rfl) ?_)
 rintro _ _ ⟨A6, b6, c6, g6a, g6b, rfl, rfl⟩
 refine At.nil ?_
 refine At.give (.inr rfl) [0, 301] (rows' := [_, _]) (vs := []) rfl trivial rfl (by simp) (by simp) ⟨A6, b6, c6, g6a, g6b, rfl, rfl⟩

set_option maxHeartbeats 2000000 in
theorem k_part {bw bl cw : Nat} {l : List (BitVec 8)} {Aw : Option Addr} {bc : Nat} {rnd : List (BitVec 8)} {s1 s2 : Value} {vs : List Int} {An : Option Addr} {nn cn bn qn : Nat} (hAw : 0 < l.length → Aw = some ⟨bl, 0, none⟩) (hrnd : rnd.length = 32) (hnn : vs.length = nn) (hAn : 0 < nn → An = some ⟨bn, qn, none⟩) (hvs : ∀ e ∈ vs, 0 ≤ e ∧ e < 65536) (hl : l.length ≤ 600000) (hn1 : 1 ≤ nn) (hn4 : nn ≤ 4) :
  Con Try.prog 73 [ptr bw 0, iV 43, .bool true, .func (.func 74) #[] #[ptr bc 0]] [⟨true, bw, 0, 72, [.slice Aw l.length cw, .bool false], 0⟩, pRow bl 0 l, ⟨false, bc, 0, 29, [(rnd).map u8V, [s1, s2, .slice An nn cn, .slice none 0 0, .slice none 0 0, .slice none 0 0, .slice none 0 0, .slice none 0 0, .slice none 0 0, .slice none 0 0]].flatten, 0⟩, ⟨false, bn, qn, 0, (vs).map iV, 0⟩] (fun v rs => ∃ A' b' c', (0 < c' → A' = some ⟨b', 0, none⟩) ∧ (l ++ beN 2 43 ++ beN 2 ((([] : List (BitVec 8)) ++ beN 1 (2 * nn) ++ nsB vs)).length ++ (([] : List (BitVec 8)) ++ beN 1 (2 * nn) ++ nsB vs)).length ≤ c' ∧ v = .tuple #[] ∧ rs = [⟨true, bw, 0, 72, [.slice A' (l ++ beN 2 43 ++ beN 2 ((([] : List (BitVec 8)) ++ beN 1 (2 * nn) ++ nsB vs)).length ++ (([] : List (BitVec 8)) ++ beN 1 (2 * nn) ++ nsB vs)).length c', .bool false], 0⟩, ⟨true, b', 0, 5, (l ++ beN 2 43 ++ beN 2 ((([] : List (BitVec 8)) ++ beN 1 (2 * nn) ++ nsB vs)).length ++ (([] : List (BitVec 8)) ++ beN 1 (2 * nn) ++ nsB vs)).map u8V, c' - (l ++ beN 2 43 ++ beN 2 ((([] : List (BitVec 8)) ++ beN 1 (2 * nn) ++ nsB vs)).length ++ (([] : List (BitVec 8)) ++ beN 1 (2 * nn) ++ nsB vs)).length⟩]) := by
 refine Con.enter Try.func73 Try.ntmps73 (Nat.le_of_ble_eq_true rfl) rfl fun w => ?_
 refine At.seq ?_
 refine At.seq ?_
 refine At.region ?_
 refine At.p (some 9) (P_move rfl rfl) ?_
 refine At.p (some 10) (P_not rfl rfl) ?_
 refine At.nil ?_
 refine At.next ?_
 refine At.cond rfl (fun h10 => by simp at h10) (fun h10 => ?_)
 refine At.skip ?_
 refine At.next ?_
 refine At.seq ?_
 refine At.region ?_
 refine At.p (some 11) (P_build_struct (parts := _) (vs := []) rfl Try.underlying72 ze72 pl72 rfl rfl) ?_
 refine At.s (S_box (some 12) 12 (zs := [.slice none 0 0, .bool false]) rfl rfl rfl (fun b12 => ?_))
 refine At.p (some 8) (P_assign rfl rfl) ?_
 refine At.nil ?_
 refine At.next ?_
 refine At.seq ?_
 refine At.region ?_
 refine At.p (some 13) (P_move rfl rfl) ?_
 refine At.p (some 14) (P_move rfl rfl) ?_
 refine At.s (S_callF (some 15) [(12, _)] [(98, _), (2, _), (3, _)] [12, 54] (fb := []) (vs := [_]) (lb := [_]) rfl rfl en74 rfl (ON rfl rfl O0) (by simp) (VE rfl rfl (VN (by simp) rfl View.all (VN (by simp) rfl View.all V0))) (by simp) (k_parts1 (bw := b12) (bl := 0) (cw := 0) (l := ([] : List (BitVec 8))) (Aw := none) (bc := bc) (rnd := rnd) (s1 := s1) (s2 := s2) (vs := vs) (An := An) (nn := nn) (cn := cn) (bn := bn) (qn := qn) (fun h => absurd h (Nat.lt_irrefl 0)) LN hnn hAn hvs LN LN LN) (by rintro _ _ ⟨A15, b15, c15, g15a, g15b, rfl, rfl⟩; rfl) ?_)
 rintro _ _ ⟨A15, b15, c15, g15a, g15b, rfl, rfl⟩
 refine At.nil ?_
 refine At.next ?_
 refine At.seq ?_
 refine At.region ?_
 refine At.p (some 16) (P_move rfl rfl) ?_
 refine At.p (some 17) (P_move rfl rfl) ?_
 refine At.p (some 18) (P_nilCheck rfl rfl) ?_
 refine At.p (some 19) (P_fieldAddr0 (off := 1) rfl Try.underlying72 rfl sz4 rfl rfl) ?_
 refine At.q (some 20) (Q_loadO (k := 12) rfl rfl Try.underlying4 rfl rfl rfl) ?_
 refine At.p (some 21) (P_not rfl rfl) ?_
 refine At.s (S_callR (some 22) [(0, _)] [] [0] (vs := [_, _]) rfl en29 rfl (ON rfl rfl O0) (by simp) V0 (by simp) (k_must (bw := bw) (sv := .slice Aw l.length cw)) (by rintro _ _ ⟨rfl, rfl⟩; rfl) ?_)
 rintro _ _ ⟨rfl, rfl⟩
 refine At.nil ?_
 refine At.next ?_
 refine At.seq ?_
 have hnl : (nsB vs).length = 2 * nn := by rw [nsB_len, hnn]
 have hb1 := beN_len 1 (2 * nn)
 refine At.region ?_
 refine At.p (some 23) (P_move rfl rfl) ?_
 refine At.p (some 24) (P_move rfl rfl) ?_
 refine At.s (S_callR (some 25) [(0, _)] [(1, _)] [0, 301] (vs := [_, _, _]) rfl en30 rfl (ON rfl rfl O0) (by simp) (VN (by simp) rfl View.all V0) (by simp) (k_wuint2 (bw := bw) (bl := bl) (cw := cw) (l := l) (Aw := Aw) (n := 43) (fun h => hAw (by omega)) LN LN) (by rintro _ _ ⟨A25, b25, c25, g25a, g25b, rfl, rfl⟩; rfl) ?_)
 rintro _ _ ⟨A25, b25, c25, g25a, g25b, rfl, rfl⟩
 have hbn25 := beN_len 2 43
 refine At.nil ?_
 refine At.next ?_
 refine At.region ?_
 refine At.p (some 26) (P_move rfl rfl) ?_
 refine At.p (some 27) (P_move rfl rfl) ?_
 refine At.p (some 28) (P_nilCheck rfl rfl) ?_
 refine At.p (some 29) (P_fieldAddr0 (off := 0) rfl Try.underlying72 rfl sz23 rfl rfl) ?_
 refine At.q (some 30) (Q_loadO (k := 12) rfl rfl Try.underlying23 rfl rfl rfl) ?_
 refine At.s (S_callR (some 31) [(0, _)] [(301, _), (54, _)] [0, 301] (vs := [_, _, _, _, _]) rfl en31 rfl (ON rfl rfl O0) (by simp) (VN (by simp) rfl View.all (VN (by simp) rfl View.all V0)) (by simp) (k_wvec2 (bw := bw) (bl := b25) (cw := c25) (l := (l ++ beN 2 43)) (Aw := A25) (x := (([] : List (BitVec 8)) ++ beN 1 (2 * nn) ++ nsB vs)) (nx := ((([] : List (BitVec 8)) ++ beN 1 (2 * nn) ++ nsB vs).length)) (Ax := A15) (cx := c15) (bx := b15) (qx := 0) (lo := 0) (hi := 65535) (fun h => g25a (by omega)) LN (fun h => g15a (by omega)) LN LN LN LN) (by rintro _ _ ⟨A31, b31, c31, g31a, g31b, rfl, rfl⟩; rfl) ?_)
 rintro _ _ ⟨A31, b31, c31, g31a, g31b, rfl, rfl⟩
 have hbn31 := beN_len 2 ((([] : List (BitVec 8)) ++ beN 1 (2 * nn) ++ nsB vs).length)
 refine At.nil ?_
 refine At.give (.inr rfl) [0, 301] (rows' := [_, _]) (vs := []) rfl trivial rfl (by simp) (by simp) ⟨A31, b31, c31, g31a, g31b, rfl, rfl⟩

set_option maxHeartbeats 2000000 in
theorem k_partN {bw : Nat} {k : Int} {fv : Value}  :
  Con Try.prog 73 [ptr bw 0, iV k, .bool false, fv] [] (fun v rs => v = .tuple #[] ∧ rs = []) := by
 refine Con.enter Try.func73 Try.ntmps73 (Nat.le_of_ble_eq_true rfl) rfl fun w => ?_
 refine At.seq ?_
 refine At.seq ?_
 refine At.region ?_
 refine At.p (some 9) (P_move rfl rfl) ?_
 refine At.p (some 10) (P_not rfl rfl) ?_
 refine At.nil ?_
 refine At.next ?_
 refine At.cond rfl (fun h10 => ?_) (fun h10 => by simp at h10)
 refine At.ret ?_
 refine At.thn_r ?_
 refine At.give (.inl rfl) [] (rows' := []) (vs := []) rfl trivial rfl (by simp) (by simp) ⟨rfl, rfl⟩

set_option maxHeartbeats 2000000 in
theorem k_parts {bw bl cw : Nat} {l : List (BitVec 8)} {Aw : Option Addr} {rnd : List (BitVec 8)} {s1 s2 : Value} {vs : List Int} {An : Option Addr} {nn cn bn qn : Nat} (hAw : 0 < l.length → Aw = some ⟨bl, 0, none⟩) (hrnd : rnd.length = 32) (hnn : vs.length = nn) (hAn : 0 < nn → An = some ⟨bn, qn, none⟩) (hvs : ∀ e ∈ vs, 0 ≤ e ∧ e < 65536) (hl : l.length ≤ 500000) (hn1 : 1 ≤ nn) (hn4 : nn ≤ 4) :
  Con Try.prog 35 [ptr bw 0, .agg ([(rnd).map u8V, [s1, s2, .slice An nn cn, .slice none 0 0, .slice none 0 0, .slice none 0 0, .slice none 0 0, .slice none 0 0, .slice none 0 0, .slice none 0 0]].flatten).toArray] [⟨true, bw, 0, 72, [.slice Aw l.length cw, .bool false], 0⟩, pRow bl 0 l, ⟨false, bn, qn, 0, (vs).map iV, 0⟩] (fun v rs => ∃ A' b' c', (0 < c' → A' = some ⟨b', 0, none⟩) ∧ (l ++ beN 2 43 ++ beN 2 ((([] : List (BitVec 8)) ++ beN 1 (2 * nn) ++ nsB vs)).length ++ (([] : List (BitVec 8)) ++ beN 1 (2 * nn) ++ nsB vs)).length ≤ c' ∧ v = .tuple #[] ∧ rs = [⟨true, bw, 0, 72, [.slice A' (l ++ beN 2 43 ++ beN 2 ((([] : List (BitVec 8)) ++ beN 1 (2 * nn) ++ nsB vs)).length ++ (([] : List (BitVec 8)) ++ beN 1 (2 * nn) ++ nsB vs)).length c', .bool false], 0⟩, ⟨true, b', 0, 5, (l ++ beN 2 43 ++ beN 2 ((([] : List (BitVec 8)) ++ beN 1 (2 * nn) ++ nsB vs)).length ++ (([] : List (BitVec 8)) ++ beN 1 (2 * nn) ++ nsB vs)).map u8V, c' - (l ++ beN 2 43 ++ beN 2 ((([] : List (BitVec 8)) ++ beN 1 (2 * nn) ++ nsB vs)).length ++ (([] : List (BitVec 8)) ++ beN 1 (2 * nn) ++ nsB vs)).length⟩]) := by
 refine Con.enter Try.func35 Try.ntmps35 (Nat.le_of_ble_eq_true rfl) rfl fun w => ?_
 refine At.seq ?_
 refine At.region ?_
 refine At.s (S_box (some 3) 3 (zs := [(rnd).map u8V, [s1, s2, .slice An nn cn, .slice none 0 0, .slice none 0 0, .slice none 0 0, .slice none 0 0, .slice none 0 0, .slice none 0 0, .slice none 0 0]].flatten) rfl rfl rfl (fun b3 => ?_))
 refine At.nil ?_
 refine At.next ?_
 refine At.seq ?_
 refine At.region ?_
 refine At.p (some 4) (P_move rfl rfl) ?_
 refine At.p (some 5) (P_fieldAddr0 (off := 34) rfl Try.underlying29 rfl sz24 rfl rfl) ?_
 refine At.q (some 6) (Q_loadO (k := 3) rfl rfl Try.underlying24 rfl rfl (seg_get (i := 1) (p := 2) rfl LN rfl)) ?_
 refine At.p (some 7) (P_len_sl rfl rfl ⟨_, Try.underlying24⟩ rfl) ?_
 refine At.p (some 8) (P_cast (congrArg Value.bool (decide_eq_true (by omega))) (P_cmp rfl rfl rfl rfl rfl rfl)) ?_
 refine At.p (some 9) (P_makeFunc (vs := [_]) rfl rfl) ?_
 refine At.s (S_callR (some 10) [(0, _)] [(1, _), (3, _), (2, _)] [0, 301] (vs := [_, _, _, _]) rfl en73 rfl (ON rfl rfl O0) (by simp) (VN (by simp) rfl View.all (VN (by simp) rfl View.all (VN (by simp) rfl View.all V0))) (by simp) (k_part (bw := bw) (bl := bl) (cw := cw) (l := l) (Aw := Aw) (bc := b3) (rnd := rnd) (s1 := s1) (s2 := s2) (vs := vs) (An := An) (nn := nn) (cn := cn) (bn := bn) (qn := qn) (fun h => hAw (by omega)) LN hnn hAn hvs LN LN LN) (by rintro _ _ ⟨A10, b10, c10, g10a, g10b, rfl, rfl⟩; rfl) ?_)
 rintro _ _ ⟨A10, b10, c10, g10a, g10b, rfl, rfl⟩
 refine At.nil ?_
 refine At.next ?_
 refine At.seq ?_
 refine At.region ?_
 refine At.p (some 11) (P_move rfl rfl) ?_
 refine At.p (some 12) (P_fieldAddr0 (off := 35) rfl Try.underlying29 rfl sz24 rfl rfl) ?_
 refine At.q (some 13) (Q_loadO (k := 3) rfl rfl Try.underlying24 rfl rfl (seg_get (i := 1) (p := 3) rfl LN rfl)) ?_
 refine At.p (some 14) (P_len_sl rfl rfl ⟨_, Try.underlying24⟩ rfl) ?_
 refine At.p (some 15) (P_cmp rfl rfl rfl rfl rfl rfl) ?_
 refine At.p (some 16) (P_makeFunc (vs := [_]) rfl rfl) ?_
 refine At.s (S_callV (some 17) [] [] (vs := [_, _, _, _]) rfl en73 rfl V0 (by simp) (k_partN (bw := bw) (k := 10) (fv := (.func (.func 75) #[] #[ptr b3 0]))) (by rintro _ _ ⟨rfl, rfl⟩; rfl) ?_)
 rintro _ _ ⟨rfl, rfl⟩
 refine At.nil ?_
 refine At.next ?_
 refine At.seq ?_
 refine At.region ?_
 refine At.p (some 18) (P_move rfl rfl) ?_
 refine At.p (some 19) (P_fieldAddr0 (off := 36) rfl Try.underlying29 rfl sz24 rfl rfl) ?_
 refine At.q (some 20) (Q_loadO (k := 3) rfl rfl Try.underlying24 rfl rfl (seg_get (i := 1) (p := 4) rfl LN rfl)) ?_
 refine At.p (some 21) (P_len_sl rfl rfl ⟨_, Try.underlying24⟩ rfl) ?_
 refine At.p (some 22) (P_cmp rfl rfl rfl rfl rfl rfl) ?_
 refine At.p (some 23) (P_makeFunc (vs := [_]) rfl rfl) ?_
 refine At.s (S_callV (some 24) [] [] (vs := [_, _, _, _]) rfl en73 rfl V0 (by simp) (k_partN (bw := bw) (k := 13) (fv := (.func (.func 76) #[] #[ptr b3 0]))) (by rintro _ _ ⟨rfl, rfl⟩; rfl) ?_)
 rintro _ _ ⟨rfl, rfl⟩
 refine At.nil ?_
 refine At.next ?_
 refine At.seq ?_
 refine At.region ?_
 refine At.p (some 25) (P_move rfl rfl) ?_
 refine At.p (some 26) (P_fieldAddr0 (off := 37) rfl Try.underlying29 rfl sz25 rfl rfl) ?_
 refine At.q (some 27) (Q_loadO (k := 3) rfl rfl Try.underlying25 rfl rfl (seg_get (i := 1) (p := 5) rfl LN rfl)) ?_
 refine At.p (some 28) (P_len_sl rfl rfl ⟨_, Try.underlying25⟩ rfl) ?_
 refine At.p (some 29) (P_cmp rfl rfl rfl rfl rfl rfl) ?_
 refine At.p (some 30) (P_makeFunc (vs := [_]) rfl rfl) ?_
 refine At.s (S_callV (some 31) [] [] (vs := [_, _, _, _]) rfl en73 rfl V0 (by simp) (k_partN (bw := bw) (k := 51) (fv := (.func (.func 77) #[] #[ptr b3 0]))) (by rintro _ _ ⟨rfl, rfl⟩; rfl) ?_)
 rintro _ _ ⟨rfl, rfl⟩
 refine At.nil ?_
 refine At.next ?_
 refine At.seq ?_
 refine At.region ?_
 refine At.p (some 32) (P_move rfl rfl) ?_
 refine At.p (some 33) (P_fieldAddr0 (off := 38) rfl Try.underlying29 rfl sz23 rfl rfl) ?_
 refine At.q (some 34) (Q_loadO (k := 3) rfl rfl Try.underlying23 rfl rfl (seg_get (i := 1) (p := 6) rfl LN rfl)) ?_
 refine At.p (some 35) (P_len_sl rfl rfl ⟨_, Try.underlying23⟩ rfl) ?_
 refine At.p (some 36) (P_cmp rfl rfl rfl rfl rfl rfl) ?_
 refine At.p (some 37) (P_makeFunc (vs := [_]) rfl rfl) ?_
 refine At.s (S_callV (some 38) [] [] (vs := [_, _, _, _]) rfl en73 rfl V0 (by simp) (k_partN (bw := bw) (k := 44) (fv := (.func (.func 80) #[] #[ptr b3 0]))) (by rintro _ _ ⟨rfl, rfl⟩; rfl) ?_)
 rintro _ _ ⟨rfl, rfl⟩
 refine At.nil ?_
 refine At.next ?_
 refine At.seq ?_
 refine At.region ?_
 refine At.p (some 39) (P_move rfl rfl) ?_
 refine At.p (some 40) (P_fieldAddr0 (off := 39) rfl Try.underlying29 rfl sz23 rfl rfl) ?_
 refine At.q (some 41) (Q_loadO (k := 3) rfl rfl Try.underlying23 rfl rfl (seg_get (i := 1) (p := 7) rfl LN rfl)) ?_
 refine At.p (some 42) (P_len_sl rfl rfl ⟨_, Try.underlying23⟩ rfl) ?_
 refine At.p (some 43) (P_cmp rfl rfl rfl rfl rfl rfl) ?_
 refine At.p (some 44) (P_makeFunc (vs := [_]) rfl rfl) ?_
 refine At.s (S_callV (some 45) [] [] (vs := [_, _, _, _]) rfl en73 rfl V0 (by simp) (k_partN (bw := bw) (k := 45) (fv := (.func (.func 81) #[] #[ptr b3 0]))) (by rintro _ _ ⟨rfl, rfl⟩; rfl) ?_)
 rintro _ _ ⟨rfl, rfl⟩
 refine At.nil ?_
 refine At.next ?_
 refine At.region ?_
 refine At.p (some 46) (P_move rfl rfl) ?_
 refine At.p (some 47) (P_fieldAddr0 (off := 40) rfl Try.underlying29 rfl sz26 rfl rfl) ?_
 refine At.q (some 48) (Q_loadO (k := 3) rfl rfl Try.underlying26 rfl rfl (seg_get (i := 1) (p := 8) rfl LN rfl)) ?_
 refine At.p (some 49) (P_len_sl rfl rfl ⟨_, Try.underlying26⟩ rfl) ?_
 refine At.p (some 50) (P_cmp rfl rfl rfl rfl rfl rfl) ?_
 refine At.p (some 51) (P_makeFunc (vs := [_]) rfl rfl) ?_
 refine At.s (S_callV (some 52) [] [] (vs := [_, _, _, _]) rfl en73 rfl V0 (by simp) (k_partN (bw := bw) (k := 41) (fv := (.func (.func 82) #[] #[ptr b3 0]))) (by rintro _ _ ⟨rfl, rfl⟩; rfl) ?_)
 rintro _ _ ⟨rfl, rfl⟩
 refine At.nil ?_
 refine At.give (.inr rfl) [0, 301] (rows' := [_, _]) (vs := []) rfl trivial rfl (by simp) (by simp) ⟨A10, b10, c10, g10a, g10b, rfl, rfl⟩

set_option maxHeartbeats 2000000 in
theorem k_pc1 {bw bl cw : Nat} {l : List (BitVec 8)} {Aw : Option Addr} {bc : Nat} {rnd : List (BitVec 8)} {s1 s2 : Value} {vs : List Int} {An : Option Addr} {nn cn bn qn : Nat} (hAw : 0 < l.length → Aw = some ⟨bl, 0, none⟩) (hrnd : rnd.length = 32) (hnn : vs.length = nn) (hAn : 0 < nn → An = some ⟨bn, qn, none⟩) (hvs : ∀ e ∈ vs, 0 ≤ e ∧ e < 65536) (hl : l.length ≤ 400000) (hn1 : 1 ≤ nn) (hn4 : nn ≤ 4) :
  Con Try.prog 34 [ptr bw 0, ptr bc 0] [⟨true, bw, 0, 72, [.slice Aw l.length cw, .bool false], 0⟩, pRow bl 0 l, ⟨false, bc, 0, 29, [(rnd).map u8V, [s1, s2, .slice An nn cn, .slice none 0 0, .slice none 0 0, .slice none 0 0, .slice none 0 0, .slice none 0 0, .slice none 0 0, .slice none 0 0]].flatten, 0⟩, ⟨false, bn, qn, 0, (vs).map iV, 0⟩] (fun v rs => ∃ A' b' c', (0 < c' → A' = some ⟨b', 0, none⟩) ∧ (l ++ beN 2 43 ++ beN 2 ((([] : List (BitVec 8)) ++ beN 1 (2 * nn) ++ nsB vs)).length ++ (([] : List (BitVec 8)) ++ beN 1 (2 * nn) ++ nsB vs)).length ≤ c' ∧ v = .tuple #[] ∧ rs = [⟨true, bw, 0, 72, [.slice A' (l ++ beN 2 43 ++ beN 2 ((([] : List (BitVec 8)) ++ beN 1 (2 * nn) ++ nsB vs)).length ++ (([] : List (BitVec 8)) ++ beN 1 (2 * nn) ++ nsB vs)).length c', .bool false], 0⟩, ⟨true, b', 0, 5, (l ++ beN 2 43 ++ beN 2 ((([] : List (BitVec 8)) ++ beN 1 (2 * nn) ++ nsB vs)).length ++ (([] : List (BitVec 8)) ++ beN 1 (2 * nn) ++ nsB vs)).map u8V, c' - (l ++ beN 2 43 ++ beN 2 ((([] : List (BitVec 8)) ++ beN 1 (2 * nn) ++ nsB vs)).length ++ (([] : List (BitVec 8)) ++ beN 1 (2 * nn) ++ nsB vs)).length⟩]) := by
 refine Con.enter Try.func34 Try.ntmps34 (Nat.le_of_ble_eq_true rfl) rfl fun w => ?_
 refine At.region ?_
 refine At.p (some 3) (P_move rfl rfl) ?_
 refine At.q (some 4) (Q_loadA (k := 2) rfl rfl Try.underlying29 rfl sz29 LN rfl) ?_
 refine At.s (S_callR (some 5) [(0, _)] [(1, _), (3, _)] [0, 301] (vs := [_, _]) rfl en35 rfl (ON rfl rfl O0) (by simp) (VN (by simp) rfl View.all (VN (by simp) rfl View.all V0)) (by simp) (k_parts (bw := bw) (bl := bl) (cw := cw) (l := l) (Aw := Aw) (rnd := rnd) (s1 := s1) (s2 := s2) (vs := vs) (An := An) (nn := nn) (cn := cn) (bn := bn) (qn := qn) (fun h => hAw (by omega)) LN hnn hAn hvs LN LN LN) (by rintro _ _ ⟨A5, b5, c5, g5a, g5b, rfl, rfl⟩; rfl) ?_)
 rintro _ _ ⟨A5, b5, c5, g5a, g5b, rfl, rfl⟩
 refine At.nil ?_
 refine At.give (.inr rfl) [0, 301] (rows' := [_, _]) (vs := []) rfl trivial rfl (by simp) (by simp) ⟨A5, b5, c5, g5a, g5b, rfl, rfl⟩

set_option maxHeartbeats 2000000 in
theorem k_nested {bw bl cw : Nat} {l : List (BitVec 8)} {Aw : Option Addr} {bc : Nat} {rnd : List (BitVec 8)} {s1 s2 : Value} {vs : List Int} {An : Option Addr} {nn cn bn qn : Nat} (hAw : 0 < l.length → Aw = some ⟨bl, 0, none⟩) (hrnd : rnd.length = 32) (hnn : vs.length = nn) (hAn : 0 < nn → An = some ⟨bn, qn, none⟩) (hvs : ∀ e ∈ vs, 0 ≤ e ∧ e < 65536) (hl : l.length ≤ 300000) (hn1 : 1 ≤ nn) (hn4 : nn ≤ 4) :
  Con Try.prog 33 [ptr bw 0, iV 2, .func (.func 34) #[] #[ptr bc 0]] [⟨true, bw, 0, 72, [.slice Aw l.length cw, .bool false], 0⟩, pRow bl 0 l, ⟨false, bc, 0, 29, [(rnd).map u8V, [s1, s2, .slice An nn cn, .slice none 0 0, .slice none 0 0, .slice none 0 0, .slice none 0 0, .slice none 0 0, .slice none 0 0, .slice none 0 0]].flatten, 0⟩, ⟨false, bn, qn, 0, (vs).map iV, 0⟩] (fun v rs => ∃ A' b' c', (0 < c' → A' = some ⟨b', 0, none⟩) ∧ (l ++ beN 2 ((([] : List (BitVec 8)) ++ beN 2 43 ++ beN 2 ((([] : List (BitVec 8)) ++ beN 1 (2 * nn) ++ nsB vs)).length ++ (([] : List (BitVec 8)) ++ beN 1 (2 * nn) ++ nsB vs))).length ++ (([] : List (BitVec 8)) ++ beN 2 43 ++ beN 2 ((([] : List (BitVec 8)) ++ beN 1 (2 * nn) ++ nsB vs)).length ++ (([] : List (BitVec 8)) ++ beN 1 (2 * nn) ++ nsB vs))).length ≤ c' ∧ v = .tuple #[] ∧ rs = [⟨true, bw, 0, 72, [.slice A' (l ++ beN 2 ((([] : List (BitVec 8)) ++ beN 2 43 ++ beN 2 ((([] : List (BitVec 8)) ++ beN 1 (2 * nn) ++ nsB vs)).length ++ (([] : List (BitVec 8)) ++ beN 1 (2 * nn) ++ nsB vs))).length ++ (([] : List (BitVec 8)) ++ beN 2 43 ++ beN 2 ((([] : List (BitVec 8)) ++ beN 1 (2 * nn) ++ nsB vs)).length ++ (([] : List (BitVec 8)) ++ beN 1 (2 * nn) ++ nsB vs))).length c', .bool false], 0⟩, ⟨true, b', 0, 5, (l ++ beN 2 ((([] : List (BitVec 8)) ++ beN 2 43 ++ beN 2 ((([] : List (BitVec 8)) ++ beN 1 (2 * nn) ++ nsB vs)).length ++ (([] : List (BitVec 8)) ++ beN 1 (2 * nn) ++ nsB vs))).length ++ (([] : List (BitVec 8)) ++ beN 2 43 ++ beN 2 ((([] : List (BitVec 8)) ++ beN 1 (2 * nn) ++ nsB vs)).length ++ (([] : List (BitVec 8)) ++ beN 1 (2 * nn) ++ nsB vs))).map u8V, c' - (l ++ beN 2 ((([] : List (BitVec 8)) ++ beN 2 43 ++ beN 2 ((([] : List (BitVec 8)) ++ beN 1 (2 * nn) ++ nsB vs)).length ++ (([] : List (BitVec 8)) ++ beN 1 (2 * nn) ++ nsB vs))).length ++ (([] : List (BitVec 8)) ++ beN 2 43 ++ beN 2 ((([] : List (BitVec 8)) ++ beN 1 (2 * nn) ++ nsB vs)).length ++ (([] : List (BitVec 8)) ++ beN 1 (2 * nn) ++ nsB vs))).length⟩]) := by
 refine Con.enter Try.func33 Try.ntmps33 (Nat.le_of_ble_eq_true rfl) rfl fun w => ?_
 refine At.seq ?_
 refine At.region ?_
 refine At.p (some 7) (P_build_struct (parts := _) (vs := []) rfl Try.underlying72 ze72 pl72 rfl rfl) ?_
 refine At.s (S_box (some 8) 8 (zs := [.slice none 0 0, .bool false]) rfl rfl rfl (fun b8 => ?_))
 refine At.p (some 6) (P_assign rfl rfl) ?_
 refine At.nil ?_
 refine At.next ?_
 refine At.seq ?_
 refine At.region ?_
 refine At.p (some 9) (P_move rfl rfl) ?_
 refine At.p (some 10) (P_move rfl rfl) ?_
 refine At.s (S_callF (some 11) [(8, _)] [(98, _), (2, _), (3, _)] [8, 54] (fb := []) (vs := [_]) (lb := [_]) rfl rfl en34 rfl (ON rfl rfl O0) (by simp) (VE rfl rfl (VN (by simp) rfl View.all (VN (by simp) rfl View.all V0))) (by simp) (k_pc1 (bw := b8) (bl := 0) (cw := 0) (l := ([] : List (BitVec 8))) (Aw := none) (bc := bc) (rnd := rnd) (s1 := s1) (s2 := s2) (vs := vs) (An := An) (nn := nn) (cn := cn) (bn := bn) (qn := qn) (fun h => absurd h (Nat.lt_irrefl 0)) LN hnn hAn hvs LN LN LN) (by rintro _ _ ⟨A11, b11, c11, g11a, g11b, rfl, rfl⟩; rfl) ?_)
 rintro _ _ ⟨A11, b11, c11, g11a, g11b, rfl, rfl⟩
 refine At.nil ?_
 refine At.next ?_
 refine At.seq ?_
 refine At.region ?_
 refine At.p (some 12) (P_move rfl rfl) ?_
 refine At.p (some 13) (P_move rfl rfl) ?_
 refine At.p (some 14) (P_nilCheck rfl rfl) ?_
 refine At.p (some 15) (P_fieldAddr0 (off := 1) rfl Try.underlying72 rfl sz4 rfl rfl) ?_
 refine At.q (some 16) (Q_loadO (k := 8) rfl rfl Try.underlying4 rfl rfl rfl) ?_
 refine At.p (some 17) (P_not rfl rfl) ?_
 refine At.s (S_callR (some 18) [(0, _)] [] [0] (vs := [_, _]) rfl en29 rfl (ON rfl rfl O0) (by simp) V0 (by simp) (k_must (bw := bw) (sv := .slice Aw l.length cw)) (by rintro _ _ ⟨rfl, rfl⟩; rfl) ?_)
 rintro _ _ ⟨rfl, rfl⟩
 refine At.nil ?_
 refine At.next ?_
 have hnl : (nsB vs).length = 2 * nn := by rw [nsB_len, hnn]
 have hb1 := beN_len 1 (2 * nn)
 have hb2 := beN_len 2 43
 have hb3 := beN_len 2 (([] : List (BitVec 8)) ++ beN 1 (2 * nn) ++ nsB vs).length
 refine At.region ?_
 refine At.p (some 19) (P_move rfl rfl) ?_
 refine At.p (some 20) (P_move rfl rfl) ?_
 refine At.p (some 21) (P_nilCheck rfl rfl) ?_
 refine At.p (some 22) (P_fieldAddr0 (off := 0) rfl Try.underlying72 rfl sz23 rfl rfl) ?_
 refine At.q (some 23) (Q_loadO (k := 8) rfl rfl Try.underlying23 rfl rfl rfl) ?_
 refine At.p (some 24) (P_move rfl rfl) ?_
 refine At.s (S_callR (some 25) [(0, _)] [(1, _), (54, _)] [0, 301] (vs := [_, _, _, _, _]) rfl en31 rfl (ON rfl rfl O0) (by simp) (VN (by simp) rfl View.all (VN (by simp) rfl View.all V0)) (by simp) (k_wvec2 (bw := bw) (bl := bl) (cw := cw) (l := l) (Aw := Aw) (x := (([] : List (BitVec 8)) ++ beN 2 43 ++ beN 2 ((([] : List (BitVec 8)) ++ beN 1 (2 * nn) ++ nsB vs)).length ++ (([] : List (BitVec 8)) ++ beN 1 (2 * nn) ++ nsB vs))) (nx := ((([] : List (BitVec 8)) ++ beN 2 43 ++ beN 2 ((([] : List (BitVec 8)) ++ beN 1 (2 * nn) ++ nsB vs)).length ++ (([] : List (BitVec 8)) ++ beN 1 (2 * nn) ++ nsB vs)).length)) (Ax := A11) (cx := c11) (bx := b11) (qx := 0) (lo := 0) (hi := 65535) (fun h => hAw (by omega)) LN (fun h => g11a (by omega)) LN LN LN LN) (by rintro _ _ ⟨A25, b25, c25, g25a, g25b, rfl, rfl⟩; rfl) ?_)
 rintro _ _ ⟨A25, b25, c25, g25a, g25b, rfl, rfl⟩
 have hbn25 := beN_len 2 ((([] : List (BitVec 8)) ++ beN 2 43 ++ beN 2 ((([] : List (BitVec 8)) ++ beN 1 (2 * nn) ++ nsB vs)).length ++ (([] : List (BitVec 8)) ++ beN 1 (2 * nn) ++ nsB vs)).length)
 refine At.nil ?_
 refine At.give (.inr rfl) [0, 301] (rows' := [_, _]) (vs := []) rfl trivial rfl (by simp) (by simp) ⟨A25, b25, c25, g25a, g25b, rfl, rfl⟩

set_option maxHeartbeats 2000000 in
theorem k_PutC {rnd sess : List (BitVec 8)} {su vs : List Int} {As Au An : Option Addr} {ns cs bs qs nu cu bu qu nn cn bn qn : Nat} (hrnd : rnd.length = 32) (hns : sess.length = ns) (hAs : 0 < ns → As = some ⟨bs, qs, none⟩) (hnu : su.length = nu) (hAu : 0 < nu → Au = some ⟨bu, qu, none⟩) (hsu : ∀ e ∈ su, 0 ≤ e ∧ e < 65536) (hnn : vs.length = nn) (hAn : 0 < nn → An = some ⟨bn, qn, none⟩) (hvs : ∀ e ∈ vs, 0 ≤ e ∧ e < 65536) (hs : ns ≤ 32) (hu1 : 1 ≤ nu) (hu8 : nu ≤ 8) (hn1 : 1 ≤ nn) (hn4 : nn ≤ 4) :
  Con Try.prog 6 [.agg ([(rnd).map u8V, [.slice As ns cs, .slice Au nu cu, .slice An nn cn, .slice none 0 0, .slice none 0 0, .slice none 0 0, .slice none 0 0, .slice none 0 0, .slice none 0 0, .slice none 0 0]].flatten).toArray] [pRow bs qs sess, ⟨false, bu, qu, 0, (su).map iV, 0⟩, ⟨false, bn, qn, 0, (vs).map iV, 0⟩] (fun v rs => ∃ (A' : Option Addr) (b' c' : Nat), (0 < c' → A' = some ⟨b', 0, none⟩) ∧ (helloB rnd sess su (5 + 2 * vs.length) (extB vs)).length ≤ c' ∧ v = .tuple #[.slice A' (helloB rnd sess su (5 + 2 * vs.length) (extB vs)).length c', iV 0] ∧ rs = [⟨true, b', 0, 5, (helloB rnd sess su (5 + 2 * vs.length) (extB vs)).map u8V, c' - (helloB rnd sess su (5 + 2 * vs.length) (extB vs)).length⟩]) := by
 refine Con.enter Try.func6 Try.ntmps6 (Nat.le_of_ble_eq_true rfl) rfl fun w => ?_
 refine At.seq ?_
 refine At.region ?_
 refine At.s (S_box (some 1) 201 (zs := [(rnd).map u8V, [.slice As ns cs, .slice Au nu cu, .slice An nn cn, .slice none 0 0, .slice none 0 0, .slice none 0 0, .slice none 0 0, .slice none 0 0, .slice none 0 0, .slice none 0 0]].flatten) rfl rfl rfl (fun b201 => ?_))
 refine At.p (some 2) (P_assign rfl rfl) ?_
 refine At.p (some 3) (P_assign rfl rfl) ?_
 refine At.nil ?_
 refine At.next ?_
 refine At.seq ?_
 refine At.region ?_
 refine At.p (some 5) (P_build_struct (parts := _) (vs := []) rfl Try.underlying72 ze72 pl72 rfl rfl) ?_
 refine At.s (S_box (some 6) 6 (zs := [.slice none 0 0, .bool false]) rfl rfl rfl (fun b6 => ?_))
 refine At.p (some 4) (P_assign rfl rfl) ?_
 refine At.nil ?_
 refine At.next ?_
 refine At.seq ?_
 refine At.region ?_
 refine At.p (some 7) (P_move rfl rfl) ?_
 refine At.p (some 8) (P_fieldAddr0 (off := 40) rfl Try.underlying29 rfl sz26 rfl rfl) ?_
 refine At.q (some 9) (Q_loadO (k := 201) rfl rfl Try.underlying26 rfl rfl (seg_get (i := 1) (p := 8) rfl LN rfl)) ?_
 refine At.p (some 10) (P_len_sl rfl rfl ⟨_, Try.underlying26⟩ rfl) ?_
 refine At.p (some 11) (P_fieldAddr0 (off := 41) rfl Try.underlying29 rfl sz27 rfl rfl) ?_
 refine At.q (some 12) (Q_loadO (k := 201) rfl rfl Try.underlying27 rfl rfl (seg_get (i := 1) (p := 9) rfl LN rfl)) ?_
 refine At.p (some 13) (P_len_sl rfl rfl ⟨_, Try.underlying27⟩ rfl) ?_
 refine At.p (some 14) (P_cmp rfl rfl rfl rfl rfl rfl) ?_
 refine At.s (S_callR (some 15) [(6, _)] [] [6] (vs := [_, _]) rfl en29 rfl (ON rfl rfl O0) (by simp) V0 (by simp) (k_must (bw := b6) (sv := .slice none 0 0)) (by rintro _ _ ⟨rfl, rfl⟩; rfl) ?_)
 rintro _ _ ⟨rfl, rfl⟩
 refine At.nil ?_
 refine At.next ?_
 refine At.seq ?_
 refine At.region ?_
 refine At.p (some 16) (P_move rfl rfl) ?_
 refine At.s (S_callR (some 17) [(6, _)] [(98, _)] [6, 301] (vs := [_, _, _]) rfl en30 rfl (ON rfl rfl O0) (by simp) (VE rfl rfl V0) (by simp) (k_wuint2 (bw := b6) (bl := 0) (cw := 0) (l := ([] : List (BitVec 8))) (Aw := none) (n := 771) (fun h => absurd h (Nat.lt_irrefl 0)) LN LN) (by rintro _ _ ⟨A17, b17, c17, g17a, g17b, rfl, rfl⟩; rfl) ?_)
 rintro _ _ ⟨A17, b17, c17, g17a, g17b, rfl, rfl⟩
 have hbn17 := beN_len 2 771
 refine At.nil ?_
 refine At.next ?_
 refine At.seq ?_
 refine At.draws 8 [7] [.q true [0, 1, 2, 3], .q false [4], .q true [5], .q false [6], .e true 7] (by kernel_rfl) (by kernel_rfl) ?_
 refine At.wp (some 18) (P_move rfl rfl) ?_
 refine At.wp (some 19) (P_move rfl rfl) ?_
 refine At.wp (some 20) (P_nilCheck rfl rfl) ?_
 refine At.wp (some 21) (P_fieldAddr0 (off := 0) rfl Try.underlying72 rfl sz23 rfl rfl) ?_
 refine At.wqn ?_
 refine At.wq (some 22) (Q_loadO (k := 6) rfl rfl Try.underlying23 rfl rfl rfl) ?_
 refine At.wqn ?_
 refine At.wp (some 23) (P_fieldAddr0 (off := 0) rfl Try.underlying29 rfl sz22 rfl rfl) ?_
 refine At.wqn ?_
 refine At.wp (some 24) (P_slice_arr1 (l := 0) (h := 32) (m := 32) rfl Try.underlying22 sz5 rfl rfl rfl rfl DO DO DO DO) ?_
 refine At.wqn ?_
 refine At.we ?_
 refine S_appendM (some 25) 301 (((([] : List (BitVec 8)) ++ beN 2 771) ++ rnd)) (f := u8V) (l := (([] : List (BitVec 8)) ++ beN 2 771)) (L := rnd) (m := 32) rfl Try.underlying23 Try.underlying23 (.inr ⟨_, rfl⟩) sz5 by5 ze5 rfl rfl (fun h => ⟨g17a h, rfl⟩) LN OG (Src.row (k := 201) (j := 0) rfl (fun _ => rfl) (fun _ => ⟨rfl, rfl, rfl⟩) (seg_at (i := 0) rfl LN LN) LN) (fun _ => rfl) OG OG rfl LN ?_
 intro A25 b25 c25 g25a g25b
 refine At.wt rfl ?_
 refine At.p (some 26) (P_nilCheck rfl rfl) ?_
 refine At.p (some 27) (P_fieldAddr0 (off := 0) rfl Try.underlying72 rfl sz23 rfl rfl) ?_
 refine At.s (S_store none (k := 6) rfl rfl rfl sz23 rfl rfl rfl LN ?_)
 refine At.nil ?_
 refine At.next ?_
 refine At.seq ?_
 refine At.region ?_
 refine At.p (some 28) (P_move rfl rfl) ?_
 refine At.p (some 29) (P_fieldAddr0 (off := 32) rfl Try.underlying29 rfl sz23 rfl rfl) ?_
 refine At.q (some 30) (Q_loadO (k := 201) rfl rfl Try.underlying23 rfl rfl (seg_get (i := 1) (p := 0) rfl LN rfl)) ?_
 refine At.s (S_callR (some 31) [(6, _)] [(301, _), (0, _)] [6, 301] (vs := [_, _, _, _, _]) rfl en31 rfl (ON rfl rfl O0) (by simp) (VN (by simp) rfl View.all (VN (by simp) rfl View.all V0)) (by simp) (k_wvec1 (bw := b6) (bl := b25) (cw := c25) (l := ((([] : List (BitVec 8)) ++ beN 2 771) ++ rnd)) (Aw := A25) (x := sess) (nx := ns) (Ax := As) (cx := cs) (bx := bs) (qx := qs) (lo := 0) (hi := 32) (fun h => g25a (by omega)) LN hAs LN LN LN LN) (by rintro _ _ ⟨A31, b31, c31, g31a, g31b, rfl, rfl⟩; rfl) ?_)
 rintro _ _ ⟨A31, b31, c31, g31a, g31b, rfl, rfl⟩
 have hbn31 := beN_len 1 ns
 refine At.nil ?_
 refine At.next ?_
 refine At.seq ?_
 refine At.region ?_
 refine At.p (some 32) (P_move rfl rfl) ?_
 refine At.p (some 33) (P_fieldAddr0 (off := 33) rfl Try.underlying29 rfl sz24 rfl rfl) ?_
 refine At.q (some 34) (Q_loadO (k := 201) rfl rfl Try.underlying24 rfl rfl (seg_get (i := 1) (p := 1) rfl LN rfl)) ?_
 refine At.s (S_callR (some 35) [(6, _)] [(301, _), (1, _)] [6, 301] (vs := [_, _, _, _]) rfl en32 rfl (ON rfl rfl O0) (by simp) (VN (by simp) rfl View.all (VN (by simp) rfl View.all V0)) (by simp) (k_wlist2 (bw := b6) (bl := b31) (cw := c31) (l := (((([] : List (BitVec 8)) ++ beN 2 771) ++ rnd) ++ beN 1 ns ++ sess)) (Aw := A31) (ns := su) (An := Au) (nn := nu) (cn := cu) (bn := bu) (qn := qu) (hi := 8) (fun h => g31a (by omega)) hnu hAu LN LN LN LN hsu) (by rintro _ _ ⟨A35, b35, c35, g35a, g35b, rfl, rfl⟩; rfl) ?_)
 rintro _ _ ⟨A35, b35, c35, g35a, g35b, rfl, rfl⟩
 refine At.nil ?_
 refine At.next ?_
 refine At.seq ?_
 have hnl : (nsB vs).length = 2 * nn := by rw [nsB_len, hnn]
 have hb1 := beN_len 1 (2 * nn)
 have hb2 := beN_len 2 43
 have hb3 := beN_len 2 (([] : List (BitVec 8)) ++ beN 1 (2 * nn) ++ nsB vs).length
 have hul : (nsB su).length = 2 * nu := by rw [nsB_len, hnu]
 have hb4 := beN_len 2 (2 * nu)
 refine At.region ?_
 refine At.p (some 36) (P_move rfl rfl) ?_
 refine At.s (S_buildSliceV (some 37) 37 (([0#8]).map u8V) rfl Try.underlying23 sz5 ze5 rfl rfl (by decide) (by decide) rfl rfl (fun b37 => ?_))
 refine At.s (S_callR (some 38) [(6, _)] [(301, _), (37, _)] [6, 301] (vs := [_, _, _, _, _]) rfl en31 rfl (ON rfl rfl O0) (by simp) (VN (by simp) rfl View.all (VN (by simp) rfl View.all V0)) (by simp) (k_wvec1 (bw := b6) (bl := b35) (cw := c35) (l := ((((([] : List (BitVec 8)) ++ beN 2 771) ++ rnd) ++ beN 1 ns ++ sess) ++ beN 2 (2 * nu) ++ nsB su)) (Aw := A35) (x := [0#8]) (nx := 1) (Ax := (some ⟨b37, 0, none⟩)) (cx := 1) (bx := b37) (qx := 0) (lo := 1) (hi := 1) (fun h => g35a (by omega)) LN (fun _ => rfl) LN LN LN LN) (by rintro _ _ ⟨A38, b38, c38, g38a, g38b, rfl, rfl⟩; rfl) ?_)
 rintro _ _ ⟨A38, b38, c38, g38a, g38b, rfl, rfl⟩
 have hbn38 := beN_len 1 1
 refine At.nil ?_
 refine At.next ?_
 refine At.seq ?_
 refine At.region ?_
 refine At.p (some 39) (P_move rfl rfl) ?_
 refine At.p (some 40) (P_makeFunc (vs := [_]) rfl rfl) ?_
 refine At.s (S_callR (some 41) [(6, _)] [(301, _), (201, _), (2, _)] [6, 301] (vs := [_, _, _]) rfl en33 rfl (ON rfl rfl O0) (by simp) (VN (by simp) rfl View.all (VN (by simp) rfl View.all (VN (by simp) rfl View.all V0))) (by simp) (k_nested (bw := b6) (bl := b38) (cw := c38) (l := (((((([] : List (BitVec 8)) ++ beN 2 771) ++ rnd) ++ beN 1 ns ++ sess) ++ beN 2 (2 * nu) ++ nsB su) ++ beN 1 1 ++ [0#8])) (Aw := A38) (bc := b201) (rnd := rnd) (s1 := (.slice As ns cs)) (s2 := (.slice Au nu cu)) (vs := vs) (An := An) (nn := nn) (cn := cn) (bn := bn) (qn := qn) (fun h => g38a (by omega)) LN hnn hAn hvs LN LN LN) (by rintro _ _ ⟨A41, b41, c41, g41a, g41b, rfl, rfl⟩; rfl) ?_)
 rintro _ _ ⟨A41, b41, c41, g41a, g41b, rfl, rfl⟩
 refine At.nil ?_
 refine At.next ?_
 refine At.seq ?_
 refine At.region ?_
 refine At.p (some 42) (P_move rfl rfl) ?_
 refine At.s (S_callV (some 43) [(6, _), (301, _)] [] (vs := [_]) rfl en36 rfl (VN (by simp) rfl View.all (VN (by simp) rfl View.all V0)) (by simp) (k_wend (bw := b6) (bl := b41) (cw := c41) (l := ((((((([] : List (BitVec 8)) ++ beN 2 771) ++ rnd) ++ beN 1 ns ++ sess) ++ beN 2 (2 * nu) ++ nsB su) ++ beN 1 1 ++ [0#8]) ++ beN 2 ((([] : List (BitVec 8)) ++ beN 2 43 ++ beN 2 ((([] : List (BitVec 8)) ++ beN 1 (2 * nn) ++ nsB vs)).length ++ (([] : List (BitVec 8)) ++ beN 1 (2 * nn) ++ nsB vs))).length ++ (([] : List (BitVec 8)) ++ beN 2 43 ++ beN 2 ((([] : List (BitVec 8)) ++ beN 1 (2 * nn) ++ nsB vs)).length ++ (([] : List (BitVec 8)) ++ beN 1 (2 * nn) ++ nsB vs)))) (Aw := A41) (fun h => g41a (by omega))) (by rintro _ _ ⟨rfl, rfl⟩; rfl) ?_)
 rintro _ _ ⟨rfl, rfl⟩
 refine At.p (some 44) (P_extract rfl rfl rfl) ?_
 refine At.p (some 45) (P_extract rfl rfl rfl) ?_
 refine At.p (some 2) (P_assign rfl rfl) ?_
 refine At.p (some 3) (P_assign rfl rfl) ?_
 refine At.nil ?_
 refine At.next ?_
 refine At.ret ?_
 have hq0 : ((((((([] : List (BitVec 8)) ++ beN 2 771) ++ rnd) ++ beN 1 ns ++ sess) ++ beN 2 (2 * nu) ++ nsB su) ++ beN 1 1 ++ [0#8]) ++ beN 2 ((([] : List (BitVec 8)) ++ beN 2 43 ++ beN 2 ((([] : List (BitVec 8)) ++ beN 1 (2 * nn) ++ nsB vs)).length ++ (([] : List (BitVec 8)) ++ beN 1 (2 * nn) ++ nsB vs))).length ++ (([] : List (BitVec 8)) ++ beN 2 43 ++ beN 2 ((([] : List (BitVec 8)) ++ beN 1 (2 * nn) ++ nsB vs)).length ++ (([] : List (BitVec 8)) ++ beN 1 (2 * nn) ++ nsB vs))) = helloB rnd sess su (5 + 2 * vs.length) (extB vs) := (by rw [← extB_len]; simp only [helloB, extB, List.nil_append, List.append_assoc, List.append_nil, List.length_append, List.length_nil, Nat.zero_add, Nat.add_zero, beN_len, nsB_len, ← hnn, ← hnu, ← hns])
 refine At.give (.inl rfl) [301] (rows' := [_]) (vs := [_, _]) rfl ⟨rfl, rfl, trivial⟩ rfl (by simp) (by simp) ⟨A41, b41, c41, g41a, (by rw [← hq0]; first | omega | (simp; done) | (simp <;> omega) | exact Nat.le_refl _), (by first | (rw [hq0]; try rfl; done) | (rw [← hq0]; try rfl; done) | (simp only [hq0]; try rfl; done) | (simp only [← hq0]; try rfl; done) | rfl), (by first | (rw [hq0]; try rfl; done) | (rw [← hq0]; try rfl; done) | (simp only [hq0]; try rfl; done) | (simp only [← hq0]; try rfl; done) | rfl)⟩


end Go.Proofs.Ytcjfkmhijfcciaa

