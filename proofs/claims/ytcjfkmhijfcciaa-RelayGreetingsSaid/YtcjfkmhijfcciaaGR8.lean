import Derived.Test.YtcjfkmhijfcciaaGR7
import Derived.Test.YtcjfkmhijfcciaaG1
namespace Go.Proofs.Ytcjfkmhijfcciaa
set_option maxRecDepth 20000
set_option linter.unusedVariables false
set_option linter.unusedSimpArgs false
open Go.SE Go.RowKit
attribute [local irreducible] sumS
set_option maxHeartbeats 2000000 in
theorem k_cext {bc : Nat} {rnd : List (BitVec 8)} {s1 s2 s3 : Value} {br bl cr q : Nat} {Ar : Option Addr} {ns : List Int} {nn : Nat} {lst : Bool} (hrnd : rnd.length = 32) (hAr : 0 < (beN 1 (2 * nn) ++ (nsB ns ++ ([] : List (BitVec 8)))).length → Ar = some ⟨bl, q, none⟩) (hcr : (beN 1 (2 * nn) ++ (nsB ns ++ ([] : List (BitVec 8)))).length ≤ cr) (hnn : ns.length = nn) (hns : ∀ e ∈ ns, 0 ≤ e ∧ e < 65536) (h1 : 1 ≤ nn) (h4 : nn ≤ 4) :
  Con Try.prog 49 [ptr bc 0, iV 43, ptr br 0, .bool lst] [⟨true, bc, 0, 29, [(rnd).map u8V, [s1, s2, s3, .slice none 0 0, .slice none 0 0, .slice none 0 0, .slice none 0 0, .slice none 0 0, .slice none 0 0, .slice none 0 0]].flatten, 0⟩, ⟨true, br, 0, 83, [.slice Ar ((beN 1 (2 * nn) ++ (nsB ns ++ ([] : List (BitVec 8)))).length) cr, iV 0], 0⟩, pRow bl q (beN 1 (2 * nn) ++ (nsB ns ++ ([] : List (BitVec 8))))] (fun v rs => ∃ A1 c1 A2 b2 c2, (0 < c2 → A2 = some ⟨b2, 0, none⟩) ∧ nn ≤ c2 ∧ v = .tuple #[] ∧ rs = [⟨true, br, 0, 83, [.slice A1 0 c1, iV 0], 0⟩, ⟨true, bc, 0, 29, [rnd.map u8V, [s1, s2, .slice A2 nn c2, .slice none 0 0, .slice none 0 0, .slice none 0 0, .slice none 0 0, .slice none 0 0, .slice none 0 0, .slice none 0 0]].flatten, 0⟩, ⟨true, b2, 0, 3, ns.map iV, c2 - nn⟩]) := by
 refine Con.enter Try.func49 Try.ntmps49 (Nat.le_of_ble_eq_true rfl) rfl fun w => ?_
 refine At.seq ?_
 refine At.region ?_
 refine At.p (some 8) (P_move rfl rfl) ?_
 refine At.nil ?_
 refine At.next ?_
 refine At.block ?_
 refine At.seq ?_
 refine At.region ?_
 refine At.p (some 12) (P_cmp rfl rfl rfl rfl rfl rfl) ?_
 refine At.p (some 11) (P_assign rfl rfl) ?_
 refine At.nil ?_
 refine At.next ?_
 refine At.cond rfl (fun h11 => ?_) (fun h11 => by simp at h11)
 have e11 : 43 = 43 := eq_of_beq h11
 refine At.region ?_
 refine At.p (some 13) (P_move rfl rfl) ?_
 refine At.p (some 14) (P_move rfl rfl) ?_
 refine At.s (S_callR (some 15) [(1, _)] [(2, _)] [1, 15] (vs := [_, _, _]) rfl en45 rfl (ON rfl rfl O0) (by simp) (VN (by simp) rfl (View.sub (j := 0) (m := (beN 1 (2 * nn) ++ (nsB ns ++ ([] : List (BitVec 8)))).length) (by omega) (viewS List.drop_zero)) V0) (by simp) (k_nums1 (br := br) (bl := bl) (cr := cr) (q := q) (Ar := Ar) (ns := ns) (nn := nn) (rest := ([] : List (BitVec 8))) (most := 4) hAr LN hnn hns LN LN LN LN) (by rintro _ _ ⟨B15, e15, A15i, b15i, c15i, g15c, g15d, g15i, g15j, rfl, rfl⟩; rfl) ?_)
 rintro _ _ ⟨B15, e15, A15i, b15i, c15i, g15c, g15d, g15i, g15j, rfl, rfl⟩
 refine At.p (some 16) (P_nilCheck rfl rfl) ?_
 refine At.p (some 17) (P_fieldAddr0 (off := 34) rfl Try.underlying29 rfl sz24 rfl rfl) ?_
 refine At.s (S_store none (k := 0) rfl rfl rfl sz24 rfl rfl rfl LN ?_)
 refine At.row 0 (⟨true, bc, 0, 29, [(rnd).map u8V, [s1, s2, .slice A15i nn c15i, .slice none 0 0, .slice none 0 0, .slice none 0 0, .slice none 0 0, .slice none 0 0, .slice none 0 0, .slice none 0 0]].flatten, 0⟩) rfl (seg_set1 (x := ([s1, s2, s3, .slice none 0 0, .slice none 0 0, .slice none 0 0, .slice none 0 0, .slice none 0 0, .slice none 0 0, .slice none 0 0] : List Value)) (i := 1) (p := 2) rfl LN OG) ?_
 refine At.nil ?_
 refine At.inb_n ?_
 refine At.give (.inr rfl) [1, 0, 15] (rows' := [_, _, _]) (vs := []) rfl trivial rfl (by simp) (by simp) ⟨B15, e15, A15i, b15i, c15i, g15i, g15j, rfl, rfl⟩

set_option maxHeartbeats 2000000 in
theorem k_ex11 {br bl cr q : Nat} {Ar : Option Addr} {bc : Nat} {rnd : List (BitVec 8)} {s1 s2 s3 : Value} {ns : List Int} {nn : Nat} {bf bk bt : Nat} {lst : Bool} (hAr : 0 < (beN 1 (2 * nn) ++ (nsB ns ++ ([] : List (BitVec 8)))).length → Ar = some ⟨bl, q, none⟩) (hcr : (beN 1 (2 * nn) ++ (nsB ns ++ ([] : List (BitVec 8)))).length ≤ cr) (hrnd : rnd.length = 32) (hnn : ns.length = nn) (hns : ∀ e ∈ ns, 0 ≤ e ∧ e < 65536) (h1 : 1 ≤ nn) (h4 : nn ≤ 4) :
  Con Try.prog 94 [ptr br 0, ptr bf 0, ptr bk 0, ptr bt 0] [⟨true, br, 0, 83, [.slice Ar ((beN 1 (2 * nn) ++ (nsB ns ++ ([] : List (BitVec 8)))).length) cr, iV 0], 0⟩, ⟨true, bc, 0, 29, [(rnd).map u8V, [s1, s2, s3, .slice none 0 0, .slice none 0 0, .slice none 0 0, .slice none 0 0, .slice none 0 0, .slice none 0 0, .slice none 0 0]].flatten, 0⟩, pRow bl q (beN 1 (2 * nn) ++ (nsB ns ++ ([] : List (BitVec 8)))), ⟨false, bf, 0, 0, [.func (.func 49) #[ptr bc 0] #[]], 0⟩, ⟨false, bk, 0, 0, [iV 43], 0⟩, ⟨false, bt, 0, 0, [.bool lst], 0⟩] (fun v rs => ∃ A1 c1 A2 b2 c2, (0 < c2 → A2 = some ⟨b2, 0, none⟩) ∧ nn ≤ c2 ∧ v = .tuple #[] ∧ rs = [⟨true, br, 0, 83, [.slice A1 0 c1, iV 0], 0⟩, ⟨true, bc, 0, 29, [rnd.map u8V, [s1, s2, .slice A2 nn c2, .slice none 0 0, .slice none 0 0, .slice none 0 0, .slice none 0 0, .slice none 0 0, .slice none 0 0, .slice none 0 0]].flatten, 0⟩, ⟨true, b2, 0, 3, ns.map iV, c2 - nn⟩]) := by
 refine Con.enter Try.func94 Try.ntmps94 (Nat.le_of_ble_eq_true rfl) rfl fun w => ?_
 refine At.region ?_
 refine At.q (some 5) (Q_loadO (k := 3) rfl rfl Try.underlying93 rfl rfl rfl) ?_
 refine At.q (some 6) (Q_loadO (k := 4) rfl rfl Try.underlying3 rfl rfl rfl) ?_
 refine At.p (some 7) (P_move rfl rfl) ?_
 refine At.q (some 8) (Q_loadO (k := 5) rfl rfl Try.underlying4 rfl rfl rfl) ?_
 refine At.s (S_callF (some 9) [(1, _), (0, _)] [(2, _)] [0, 1, 54] (fb := [_]) (vs := [_, _, _]) (lb := []) rfl rfl en49 rfl (ON rfl rfl (ON rfl rfl O0)) (by simp) (VN (by simp) rfl (View.sub (j := 0) (m := (beN 1 (2 * nn) ++ (nsB ns ++ ([] : List (BitVec 8)))).length) (by omega) (viewS List.drop_zero)) V0) (by simp) (k_cext (bc := bc) (rnd := rnd) (s1 := s1) (s2 := s2) (s3 := s3) (ns := ns) (nn := nn) (br := br) (bl := bl) (cr := cr) (q := q) (Ar := Ar) (lst := lst) LN hAr LN hnn hns LN LN) (by rintro _ _ ⟨X9, x9, A9i, b9i, c9i, g9i, g9j, rfl, rfl⟩; rfl) ?_)
 rintro _ _ ⟨X9, x9, A9i, b9i, c9i, g9i, g9j, rfl, rfl⟩
 refine At.nil ?_
 refine At.give (.inr rfl) [0, 1, 54] (rows' := [_, _, _]) (vs := []) rfl trivial rfl (by simp) (by simp) ⟨X9, x9, A9i, b9i, c9i, g9i, g9j, rfl, rfl⟩

set_option maxHeartbeats 2000000 in
theorem k_insE2 {br : Nat} {bc : Nat} {rnd : List (BitVec 8)} {s1 s2 s3 : Value} {ns : List Int} {nn : Nat} {Ab : Option Addr} {cb bb qb : Nat} {bf bk bt : Nat} {lst : Bool} (hrnd : rnd.length = 32) (hnn : ns.length = nn) (hns : ∀ e ∈ ns, 0 ≤ e ∧ e < 65536) (hAb : 0 < (beN 1 (2 * nn) ++ (nsB ns ++ ([] : List (BitVec 8)))).length → Ab = some ⟨bb, qb, none⟩) (h1 : 1 ≤ nn) (h4 : nn ≤ 4) :
  Con Try.prog 93 [ptr br 0, .slice Ab (beN 1 (2 * nn) ++ (nsB ns ++ ([] : List (BitVec 8)))).length cb, .func (.func 94) #[] #[ptr bf 0, ptr bk 0, ptr bt 0]] [⟨true, bc, 0, 29, [(rnd).map u8V, [s1, s2, s3, .slice none 0 0, .slice none 0 0, .slice none 0 0, .slice none 0 0, .slice none 0 0, .slice none 0 0, .slice none 0 0]].flatten, 0⟩, pRow bb qb (beN 1 (2 * nn) ++ (nsB ns ++ ([] : List (BitVec 8)))), ⟨false, bf, 0, 0, [.func (.func 49) #[ptr bc 0] #[]], 0⟩, ⟨false, bk, 0, 0, [iV 43], 0⟩, ⟨false, bt, 0, 0, [.bool lst], 0⟩] (fun v rs => ∃ A2 b2 c2, (0 < c2 → A2 = some ⟨b2, 0, none⟩) ∧ nn ≤ c2 ∧ v = .tuple #[] ∧ rs = [⟨true, bc, 0, 29, [rnd.map u8V, [s1, s2, .slice A2 nn c2, .slice none 0 0, .slice none 0 0, .slice none 0 0, .slice none 0 0, .slice none 0 0, .slice none 0 0, .slice none 0 0]].flatten, 0⟩, ⟨true, b2, 0, 3, ns.map iV, c2 - nn⟩]) := by
 refine Con.enter Try.func93 Try.ntmps93 (Nat.le_of_ble_eq_true rfl) rfl fun w => ?_
 refine At.seq ?_
 refine At.region ?_
 refine At.p (some 7) (P_move rfl rfl) ?_
 refine At.s (S_callV (some 8) [(1, _)] [8, 2008] (vs := [_]) rfl en9 rfl (VN (by simp) rfl View.all V0) (by simp) (k_New (b := (beN 1 (2 * nn) ++ (nsB ns ++ ([] : List (BitVec 8))))) (Ab := Ab) (nb := ((beN 1 (2 * nn) ++ (nsB ns ++ ([] : List (BitVec 8)))).length)) (cb := cb) (bb := bb) (qb := qb) LN hAb LN) (by rintro _ _ ⟨b8, bb8, A8, c8, g8a, g8b, rfl, rfl⟩; rfl) ?_)
 rintro _ _ ⟨b8, bb8, A8, c8, g8a, g8b, rfl, rfl⟩
 refine At.p (some 6) (P_assign rfl rfl) ?_
 refine At.nil ?_
 refine At.next ?_
 refine At.seq ?_
 refine At.region ?_
 refine At.p (some 9) (P_move rfl rfl) ?_
 refine At.p (some 10) (P_move rfl rfl) ?_
 refine At.s (S_callF (some 11) [(8, _), (0, _)] [(2008, _), (2, _), (3, _), (4, _)] [8, 0, 54] (fb := []) (vs := [_]) (lb := [_, _, _]) rfl rfl en94 rfl (ON rfl rfl (ON rfl rfl O0)) (by simp) (VN (by simp) rfl (View.sub (j := 0) (m := (beN 1 (2 * nn) ++ (nsB ns ++ ([] : List (BitVec 8)))).length) (by omega) (viewS List.drop_zero)) (VN (by simp) rfl View.all (VN (by simp) rfl View.all (VN (by simp) rfl View.all V0)))) (by simp) (k_ex11 (bc := bc) (rnd := rnd) (s1 := s1) (s2 := s2) (s3 := s3) (ns := ns) (nn := nn) (br := b8) (bl := bb8) (cr := c8) (q := 0) (Ar := A8) (bf := bf) (bk := bk) (bt := bt) (lst := lst) (fun h => g8a (by omega)) LN LN hnn hns LN LN) (by rintro _ _ ⟨X11, x11, A11i, b11i, c11i, g11i, g11j, rfl, rfl⟩; rfl) ?_)
 rintro _ _ ⟨X11, x11, A11i, b11i, c11i, g11i, g11j, rfl, rfl⟩
 refine At.nil ?_
 refine At.next ?_
 refine At.seq ?_
 refine At.region ?_
 refine At.p (some 12) (P_move rfl rfl) ?_
 refine At.s (S_callV (some 13) [(8, _), (98, _)] [] (vs := [_]) rfl en13 rfl (VN (by simp) rfl View.all (VE rfl rfl V0)) (by simp) (k_Done (br := b8) (bl := bb8) (cr := x11) (q := 0) (Ar := X11) (l := ([] : List (BitVec 8))) (fun h => absurd h (Nat.lt_irrefl 0)) LN LN) (by rintro _ _ ⟨rfl, rfl⟩; rfl) ?_)
 rintro _ _ ⟨rfl, rfl⟩
 refine At.p (some 14) (P_cmp rfl rfl rfl rfl rfl rfl) ?_
 refine At.nil ?_
 refine At.next ?_
 refine At.cond rfl (fun h14 => by simp at h14) (fun h14 => ?_)
 have e14 : 0 = 0 := bne_eq_false_iff_eq.1 h14
 refine At.skip ?_
 refine At.give (.inr rfl) [0, 54] (rows' := [_, _]) (vs := []) rfl trivial rfl (by simp) (by simp) ⟨A11i, b11i, c11i, g11i, g11j, rfl, rfl⟩

set_option maxHeartbeats 2000000 in
theorem k_ex1Y {br bl cr q : Nat} {Ar : Option Addr} {bc : Nat} {rnd : List (BitVec 8)} {s1 s2 s3 : Value} {ns : List Int} {nn : Nat} {bm : Nat} {bh bf : Nat} (hAr : 0 < (beN 2 43 ++ (beN 2 (1 + 2 * nn) ++ ((beN 1 (2 * nn) ++ (nsB ns ++ ([] : List (BitVec 8)))) ++ ([] : List (BitVec 8))))).length → Ar = some ⟨bl, q, none⟩) (hcr : (beN 2 43 ++ (beN 2 (1 + 2 * nn) ++ ((beN 1 (2 * nn) ++ (nsB ns ++ ([] : List (BitVec 8)))) ++ ([] : List (BitVec 8))))).length ≤ cr) (hrnd : rnd.length = 32) (hnn : ns.length = nn) (hns : ∀ e ∈ ns, 0 ≤ e ∧ e < 65536) (h1 : 1 ≤ nn) (h4 : nn ≤ 4) :
  Con Try.prog 92 [ptr br 0, ptr bh 0, ptr bf 0] [⟨true, br, 0, 83, [.slice Ar ((beN 2 43 ++ (beN 2 (1 + 2 * nn) ++ ((beN 1 (2 * nn) ++ (nsB ns ++ ([] : List (BitVec 8)))) ++ ([] : List (BitVec 8))))).length) cr, iV 0], 0⟩, ⟨true, bc, 0, 29, [(rnd).map u8V, [s1, s2, s3, .slice none 0 0, .slice none 0 0, .slice none 0 0, .slice none 0 0, .slice none 0 0, .slice none 0 0, .slice none 0 0]].flatten, 0⟩, (mRow bm []), pRow bl q (beN 2 43 ++ (beN 2 (1 + 2 * nn) ++ ((beN 1 (2 * nn) ++ (nsB ns ++ ([] : List (BitVec 8)))) ++ ([] : List (BitVec 8))))), ⟨false, bh, 0, 0, [.map (some bm)], 0⟩, ⟨false, bf, 0, 0, [.func (.func 49) #[ptr bc 0] #[]], 0⟩] (fun v rs => ∃ A1 c1 A2 b2 c2, (0 < c2 → A2 = some ⟨b2, 0, none⟩) ∧ nn ≤ c2 ∧ v = .tuple #[] ∧ rs = [⟨true, br, 0, 83, [.slice A1 0 c1, iV 0], 0⟩, ⟨true, bc, 0, 29, [rnd.map u8V, [s1, s2, .slice A2 nn c2, .slice none 0 0, .slice none 0 0, .slice none 0 0, .slice none 0 0, .slice none 0 0, .slice none 0 0, .slice none 0 0]].flatten, 0⟩, ⟨true, b2, 0, 3, ns.map iV, c2 - nn⟩]) := by
 refine Con.enter Try.func92 Try.ntmps92 (Nat.le_of_ble_eq_true rfl) rfl fun w => ?_
 refine At.block ?_
 refine At.once fun K0 hK0 => ?_
 refine At.seq ?_
 refine At.seq ?_
 refine At.region ?_
 refine At.p (some 7) (P_move rfl rfl) ?_
 refine At.s (S_callV (some 8) [(0, _), (3, _)] [] (vs := [_]) rfl en42 rfl (VN (by simp) rfl View.all (VN (by simp) rfl (View.sub (j := 0) (m := (beN 2 43 ++ (beN 2 (1 + 2 * nn) ++ ((beN 1 (2 * nn) ++ (nsB ns ++ ([] : List (BitVec 8)))) ++ ([] : List (BitVec 8))))).length) (by omega) (viewS List.drop_zero)) V0)) (by simp) (k_Left (br := br) (bl := bl) (cr := cr) (q := q) (Ar := Ar) (l := (beN 2 43 ++ (beN 2 (1 + 2 * nn) ++ ((beN 1 (2 * nn) ++ (nsB ns ++ ([] : List (BitVec 8)))) ++ ([] : List (BitVec 8)))))) hAr LN) (by rintro _ _ ⟨rfl, rfl⟩; rfl) ?_)
 rintro _ _ ⟨rfl, rfl⟩
 refine At.p (some 9) (P_cmp rfl rfl rfl rfl rfl rfl) ?_
 refine At.p (some 10) (P_move rfl rfl) ?_
 refine At.gy (t := 10) rfl (decide_eq_true LN) rfl rfl ?_
 refine At.p (some 11) (P_move rfl rfl) ?_
 refine At.gy (t := 10) rfl (decide_eq_true LN) rfl rfl ?_
 refine At.s (S_callV (some 12) [(0, _)] [] (vs := [_]) rfl en90 rfl (VN (by simp) rfl View.all V0) (by simp) (k_Wrong (br := br) (sv := .slice Ar ((beN 2 43 ++ (beN 2 (1 + 2 * nn) ++ ((beN 1 (2 * nn) ++ (nsB ns ++ ([] : List (BitVec 8)))) ++ ([] : List (BitVec 8))))).length) cr)) (by rintro _ _ ⟨rfl, rfl⟩; rfl) ?_)
 rintro _ _ ⟨rfl, rfl⟩
 refine At.gy (t := 10) rfl (decide_eq_true LN) rfl rfl ?_
 refine At.p (some 13) (P_not rfl rfl) ?_
 refine At.p (some 14) (P_pick_t rfl rfl (decide_eq_true LN) rfl) ?_
 refine At.nil ?_
 refine At.next ?_
 refine At.cond rfl (fun h14 => ?_) (fun h14 => by exfalso; first | (simp at h14; done) | (simp at h14; omega))
 refine At.skip ?_
 refine At.next ?_
 refine At.block ?_
 refine At.seq ?_
 refine At.region ?_
 refine At.p (some 15) (P_move rfl rfl) ?_
 refine At.s (S_callR (some 16) [(0, _)] [(3, _)] [0] (vs := [_, _]) rfl en39 rfl (ON rfl rfl O0) (by simp) (VN (by simp) rfl (View.sub (j := 0) (m := (beN 2 43 ++ (beN 2 (1 + 2 * nn) ++ ((beN 1 (2 * nn) ++ (nsB ns ++ ([] : List (BitVec 8)))) ++ ([] : List (BitVec 8))))).length) (by omega) (viewS List.drop_zero)) V0) (by simp) (k_UintN (br := br) (bl := bl) (cr := cr) (q := q) (Ar := Ar) (w := 2) (m := 43) (rest := (beN 2 (1 + 2 * nn) ++ ((beN 1 (2 * nn) ++ (nsB ns ++ ([] : List (BitVec 8)))) ++ ([] : List (BitVec 8))))) (beI_beN2 LN) (by decide) (by decide) hAr LN) (by rintro _ _ ⟨B16, e16, g16c, g16d, rfl, rfl⟩; rfl) ?_)
 rintro _ _ ⟨B16, e16, g16c, g16d, rfl, rfl⟩
 refine At.s (S_alloc (some 4) 204 (zs := [iV 0]) rfl ze3 rfl (fun b204 => ?_))
 refine At.s (S_store none (k := 204) rfl rfl rfl sz3 rfl rfl rfl LN ?_)
 refine At.nil ?_
 refine At.next ?_
 refine At.seq ?_
 refine At.region ?_
 refine At.p (some 17) (P_move rfl rfl) ?_
 refine At.s (S_callR (some 18) [(0, _)] [(3, _)] [0, 18] (vs := [_, _, _, _]) rfl en10 rfl (ON rfl rfl O0) (by simp) (VN (by simp) rfl (View.sub (j := (0 + 2)) (m := (beN 2 (1 + 2 * nn) ++ ((beN 1 (2 * nn) ++ (nsB ns ++ ([] : List (BitVec 8)))) ++ ([] : List (BitVec 8)))).length) (by omega) (viewS (dropS List.drop_zero (beN_len _ _)))) V0) (by simp) (k_VecA (br := br) (bl := bl) (cr := e16) (q := (q + 2)) (Ar := B16) (w := 2) (m := (1 + 2 * nn)) (lo := 0) (hi := 65535) (x := (beN 1 (2 * nn) ++ (nsB ns ++ ([] : List (BitVec 8))))) (rest := ([] : List (BitVec 8))) (beI_beN2 LN) (by decide) (by decide) LN LN LN LN (fun h => g16c (by omega)) LN) (by rintro _ _ ⟨B18, e18, A18, b18, c18, g18c, g18d, g18a, g18b, rfl, rfl⟩; rfl) ?_)
 rintro _ _ ⟨B18, e18, A18, b18, c18, g18c, g18d, g18a, g18b, rfl, rfl⟩
 refine At.p (some 5) (P_assign rfl rfl) ?_
 refine At.nil ?_
 refine At.next ?_
 refine At.seq ?_
 refine At.seq ?_
 refine At.region ?_
 refine At.q (some 19) (Q_loadO (k := 4) rfl rfl Try.underlying134 rfl rfl rfl) ?_
 refine At.q (some 20) (Q_loadO (k := 204) rfl rfl Try.underlying3 rfl rfl rfl) ?_
 refine At.q (some 21) (Q_lookup (k := 2) rfl Try.underlying134 Try.underlying3 ze4 rfl rfl rfl) ?_
 refine At.nil ?_
 refine At.next ?_
 refine At.cond rfl (fun h21 => by simp at h21) (fun h21 => ?_)
 have e21 : ¬ 43 ∈ [] := of_decide_eq_false h21
 refine At.skip ?_
 refine At.next ?_
 refine At.seq ?_
 refine At.region ?_
 refine At.q (some 24) (Q_loadO (k := 4) rfl rfl Try.underlying134 rfl rfl rfl) ?_
 refine At.q (some 25) (Q_loadO (k := 204) rfl rfl Try.underlying3 rfl rfl rfl) ?_
 refine At.s (S_mapUpdate none (k := 2) rfl Try.underlying134 Try.underlying3 rfl rfl rfl rfl (by simp) ?_)
 refine At.nil ?_
 refine At.next ?_
 refine At.seq ?_
 refine At.region ?_
 refine At.p (some 26) (P_move rfl rfl) ?_
 refine At.s (S_callV (some 27) [(0, _), (3, _)] [] (vs := [_]) rfl en42 rfl (VN (by simp) rfl View.all (VN (by simp) rfl (View.sub (j := (((0 + 2) + 2) + (1 + 2 * nn))) (m := ([] : List (BitVec 8)).length) (by omega) (viewS (dropS (dropS (dropS List.drop_zero (beN_len _ _)) (beN_len _ _)) LN))) V0)) (by simp) (k_Left (br := br) (bl := bl) (cr := e18) (q := (((q + 2) + 2) + (1 + 2 * nn))) (Ar := B18) (l := ([] : List (BitVec 8))) (fun h => g18c (by omega)) LN) (by rintro _ _ ⟨rfl, rfl⟩; rfl) ?_)
 rintro _ _ ⟨rfl, rfl⟩
 refine At.p (some 28) (P_cmp rfl rfl rfl rfl rfl rfl) ?_
 refine At.s (S_alloc (some 6) 206 (zs := [.bool false]) rfl ze4 rfl (fun b206 => ?_))
 refine At.s (S_store none (k := 206) rfl rfl rfl sz4 rfl rfl rfl LN ?_)
 refine At.nil ?_
 refine At.next ?_
 refine At.region ?_
 refine At.p (some 29) (P_move rfl rfl) ?_
 refine At.p (some 30) (P_move rfl rfl) ?_
 refine At.p (some 31) (P_makeFunc (vs := [_, _, _]) rfl rfl) ?_
 refine At.s (S_callR (some 32) [(1, _)] [(18, _), (5, _), (204, _), (206, _)] [1, 54] (vs := [_, _, _]) rfl en93 rfl (ON rfl rfl O0) (by simp) (VN (by simp) rfl View.all (VN (by simp) rfl View.all (VN (by simp) rfl View.all (VN (by simp) rfl View.all V0)))) (by simp) (k_insE2 (br := br) (bc := bc) (rnd := rnd) (s1 := s1) (s2 := s2) (s3 := s3) (ns := ns) (nn := nn) (Ab := A18) (cb := c18) (bb := b18) (qb := 0) (bf := bf) (bk := b204) (bt := b206) (lst := ((([] : List (BitVec 8)).length : Int) == 0)) LN hnn hns (fun h => g18a (by omega)) LN LN) (by rintro _ _ ⟨A32i, b32i, c32i, g32i, g32j, rfl, rfl⟩; rfl) ?_)
 rintro _ _ ⟨A32i, b32i, c32i, g32i, g32j, rfl, rfl⟩
 refine At.nil ?_
 refine At.inb_n ?_
 refine At.next ?_
 refine hK0 _ _ fun K1 => ?_
 refine At.seq ?_
 refine At.seq ?_
 refine At.region ?_
 refine At.p (some 7) (P_move rfl rfl) ?_
 refine At.s (S_callV (some 8) [(0, _), (3, _)] [] (vs := [_]) rfl en42 rfl (VN (by simp) rfl View.all (VN (by simp) rfl (View.sub (j := (((0 + 2) + 2) + (1 + 2 * nn))) (m := ([] : List (BitVec 8)).length) (by omega) (viewS (dropS (dropS (dropS List.drop_zero (beN_len _ _)) (beN_len _ _)) LN))) V0)) (by simp) (k_Left (br := br) (bl := bl) (cr := e18) (q := (((q + 2) + 2) + (1 + 2 * nn))) (Ar := B18) (l := ([] : List (BitVec 8))) (fun h => g18c (by omega)) LN) (by rintro _ _ ⟨rfl, rfl⟩; rfl) ?_)
 rintro _ _ ⟨rfl, rfl⟩
 refine At.p (some 9) (P_cmp rfl rfl rfl rfl rfl rfl) ?_
 refine At.p (some 10) (P_move rfl rfl) ?_
 refine At.gn (some 11) (t := 10) rfl (decide_eq_false LN) rfl rfl ?_
 refine At.gn (some 12) (t := 10) rfl (decide_eq_false LN) rfl rfl ?_
 refine At.gn (some 13) (t := 10) rfl (decide_eq_false LN) rfl rfl ?_
 refine At.p (some 14) (P_pick_f rfl rfl (decide_eq_false LN) rfl) ?_
 refine At.nil ?_
 refine At.next ?_
 refine At.cond rfl (fun h14 => by exfalso; first | (simp at h14; done) | (simp at h14; omega)) (fun h14 => ?_)
 refine At.exit ?_
 refine At.thn_e ?_
 refine At.thn_e ?_
 refine At.inb_hit ?_
 refine At.give (.inr rfl) [0, 1, 54] (rows' := [_, _, _]) (vs := []) rfl trivial rfl (by simp) (by simp) ⟨B18, e18, A32i, b32i, c32i, g32i, g32j, rfl, rfl⟩

set_option maxHeartbeats 2000000 in
theorem k_insE1 {br bm : Nat} {bc : Nat} {rnd : List (BitVec 8)} {s1 s2 s3 : Value} {ns : List Int} {nn : Nat} {Ab : Option Addr} {cb bb qb : Nat} {bh bf : Nat} (hrnd : rnd.length = 32) (hnn : ns.length = nn) (hns : ∀ e ∈ ns, 0 ≤ e ∧ e < 65536) (hAb : 0 < (beN 2 43 ++ (beN 2 (1 + 2 * nn) ++ ((beN 1 (2 * nn) ++ (nsB ns ++ ([] : List (BitVec 8)))) ++ ([] : List (BitVec 8))))).length → Ab = some ⟨bb, qb, none⟩) (h1 : 1 ≤ nn) (h4 : nn ≤ 4) :
  Con Try.prog 93 [ptr br 0, .slice Ab (beN 2 43 ++ (beN 2 (1 + 2 * nn) ++ ((beN 1 (2 * nn) ++ (nsB ns ++ ([] : List (BitVec 8)))) ++ ([] : List (BitVec 8))))).length cb, .func (.func 92) #[] #[ptr bh 0, ptr bf 0]] [⟨true, bc, 0, 29, [(rnd).map u8V, [s1, s2, s3, .slice none 0 0, .slice none 0 0, .slice none 0 0, .slice none 0 0, .slice none 0 0, .slice none 0 0, .slice none 0 0]].flatten, 0⟩, (mRow bm []), pRow bb qb (beN 2 43 ++ (beN 2 (1 + 2 * nn) ++ ((beN 1 (2 * nn) ++ (nsB ns ++ ([] : List (BitVec 8)))) ++ ([] : List (BitVec 8))))), ⟨false, bh, 0, 0, [.map (some bm)], 0⟩, ⟨false, bf, 0, 0, [.func (.func 49) #[ptr bc 0] #[]], 0⟩] (fun v rs => ∃ A2 b2 c2, (0 < c2 → A2 = some ⟨b2, 0, none⟩) ∧ nn ≤ c2 ∧ v = .tuple #[] ∧ rs = [⟨true, bc, 0, 29, [rnd.map u8V, [s1, s2, .slice A2 nn c2, .slice none 0 0, .slice none 0 0, .slice none 0 0, .slice none 0 0, .slice none 0 0, .slice none 0 0, .slice none 0 0]].flatten, 0⟩, ⟨true, b2, 0, 3, ns.map iV, c2 - nn⟩]) := by
 refine Con.enter Try.func93 Try.ntmps93 (Nat.le_of_ble_eq_true rfl) rfl fun w => ?_
 refine At.seq ?_
 refine At.region ?_
 refine At.p (some 7) (P_move rfl rfl) ?_
 refine At.s (S_callV (some 8) [(2, _)] [8, 2008] (vs := [_]) rfl en9 rfl (VN (by simp) rfl View.all V0) (by simp) (k_New (b := (beN 2 43 ++ (beN 2 (1 + 2 * nn) ++ ((beN 1 (2 * nn) ++ (nsB ns ++ ([] : List (BitVec 8)))) ++ ([] : List (BitVec 8)))))) (Ab := Ab) (nb := ((beN 2 43 ++ (beN 2 (1 + 2 * nn) ++ ((beN 1 (2 * nn) ++ (nsB ns ++ ([] : List (BitVec 8)))) ++ ([] : List (BitVec 8))))).length)) (cb := cb) (bb := bb) (qb := qb) LN hAb LN) (by rintro _ _ ⟨b8, bb8, A8, c8, g8a, g8b, rfl, rfl⟩; rfl) ?_)
 rintro _ _ ⟨b8, bb8, A8, c8, g8a, g8b, rfl, rfl⟩
 refine At.p (some 6) (P_assign rfl rfl) ?_
 refine At.nil ?_
 refine At.next ?_
 refine At.seq ?_
 refine At.region ?_
 refine At.p (some 9) (P_move rfl rfl) ?_
 refine At.p (some 10) (P_move rfl rfl) ?_
 refine At.s (S_callF (some 11) [(8, _), (0, _), (1, _)] [(2008, _), (3, _), (4, _)] [8, 0, 54] (fb := []) (vs := [_]) (lb := [_, _]) rfl rfl en92 rfl (ON rfl rfl (ON rfl rfl (ON rfl rfl O0))) (by simp) (VN (by simp) rfl (View.sub (j := 0) (m := (beN 2 43 ++ (beN 2 (1 + 2 * nn) ++ ((beN 1 (2 * nn) ++ (nsB ns ++ ([] : List (BitVec 8)))) ++ ([] : List (BitVec 8))))).length) (by omega) (viewS List.drop_zero)) (VN (by simp) rfl View.all (VN (by simp) rfl View.all V0))) (by simp) (k_ex1Y (bc := bc) (rnd := rnd) (s1 := s1) (s2 := s2) (s3 := s3) (ns := ns) (nn := nn) (br := b8) (bl := bb8) (cr := c8) (q := 0) (Ar := A8) (bm := bm) (bh := bh) (bf := bf) (fun h => g8a (by omega)) LN LN hnn hns LN LN) (by rintro _ _ ⟨X11, x11, A11i, b11i, c11i, g11i, g11j, rfl, rfl⟩; rfl) ?_)
 rintro _ _ ⟨X11, x11, A11i, b11i, c11i, g11i, g11j, rfl, rfl⟩
 refine At.nil ?_
 refine At.next ?_
 refine At.seq ?_
 refine At.region ?_
 refine At.p (some 12) (P_move rfl rfl) ?_
 refine At.s (S_callV (some 13) [(8, _), (98, _)] [] (vs := [_]) rfl en13 rfl (VN (by simp) rfl View.all (VE rfl rfl V0)) (by simp) (k_Done (br := b8) (bl := bb8) (cr := x11) (q := 0) (Ar := X11) (l := ([] : List (BitVec 8))) (fun h => absurd h (Nat.lt_irrefl 0)) LN LN) (by rintro _ _ ⟨rfl, rfl⟩; rfl) ?_)
 rintro _ _ ⟨rfl, rfl⟩
 refine At.p (some 14) (P_cmp rfl rfl rfl rfl rfl rfl) ?_
 refine At.nil ?_
 refine At.next ?_
 refine At.cond rfl (fun h14 => by simp at h14) (fun h14 => ?_)
 have e14 : 0 = 0 := bne_eq_false_iff_eq.1 h14
 refine At.skip ?_
 refine At.give (.inr rfl) [0, 54] (rows' := [_, _]) (vs := []) rfl trivial rfl (by simp) (by simp) ⟨A11i, b11i, c11i, g11i, g11j, rfl, rfl⟩

set_option maxHeartbeats 2000000 in
theorem k_ex1S {br bl cr q : Nat} {Ar : Option Addr} {bh bf : Nat} (hAr : 0 < ([] : List (BitVec 8)).length → Ar = some ⟨bl, q, none⟩) (hcr : ([] : List (BitVec 8)).length ≤ cr) :
  Con Try.prog 92 [ptr br 0, ptr bh 0, ptr bf 0] [⟨false, br, 0, 83, [.slice Ar (([] : List (BitVec 8)).length) cr, iV 0], 0⟩, pRow bl q ([] : List (BitVec 8))] (fun v rs => v = .tuple #[] ∧ rs = []) := by
 refine Con.enter Try.func92 Try.ntmps92 (Nat.le_of_ble_eq_true rfl) rfl fun w => ?_
 refine At.block ?_
 refine At.once fun K0 hK0 => ?_
 refine At.seq ?_
 refine At.seq ?_
 refine At.region ?_
 refine At.p (some 7) (P_move rfl rfl) ?_
 refine At.s (S_callV (some 8) [(0, _), (1, _)] [] (vs := [_]) rfl en42 rfl (VN (by simp) rfl View.all (VN (by simp) rfl (View.sub (j := 0) (m := ([] : List (BitVec 8)).length) (by omega) (viewS List.drop_zero)) V0)) (by simp) (k_Left (br := br) (bl := bl) (cr := cr) (q := q) (Ar := Ar) (l := ([] : List (BitVec 8))) hAr LN) (by rintro _ _ ⟨rfl, rfl⟩; rfl) ?_)
 rintro _ _ ⟨rfl, rfl⟩
 refine At.p (some 9) (P_cmp rfl rfl rfl rfl rfl rfl) ?_
 refine At.p (some 10) (P_move rfl rfl) ?_
 refine At.gn (some 11) (t := 10) rfl rfl rfl rfl ?_
 refine At.gn (some 12) (t := 10) rfl rfl rfl rfl ?_
 refine At.gn (some 13) (t := 10) rfl rfl rfl rfl ?_
 refine At.p (some 14) (P_pick_f rfl rfl rfl rfl) ?_
 refine At.nil ?_
 refine At.next ?_
 refine At.cond rfl (fun h14 => by simp at h14) (fun h14 => ?_)
 refine At.exit ?_
 refine At.thn_e ?_
 refine At.thn_e ?_
 refine At.inb_hit ?_
 refine At.give (.inr rfl) [] (rows' := []) (vs := []) rfl trivial rfl (by simp) (by simp) ⟨rfl, rfl⟩

set_option maxHeartbeats 2000000 in
theorem k_insS {br : Nat} {Ab : Option Addr} {cb bb qb : Nat} {bh bf : Nat}  :
  Con Try.prog 93 [ptr br 0, .slice Ab ([] : List (BitVec 8)).length cb, .func (.func 92) #[] #[ptr bh 0, ptr bf 0]] [pRow bb qb ([] : List (BitVec 8))] (fun v rs => v = .tuple #[] ∧ rs = []) := by
 refine Con.enter Try.func93 Try.ntmps93 (Nat.le_of_ble_eq_true rfl) rfl fun w => ?_
 refine At.seq ?_
 refine At.region ?_
 refine At.p (some 7) (P_move rfl rfl) ?_
 refine At.s (S_callV (some 8) [(0, _)] [8, 2008] (vs := [_]) rfl en9 rfl (VN (by simp) rfl View.all V0) (by simp) (k_New (b := ([] : List (BitVec 8))) (Ab := Ab) (nb := (([] : List (BitVec 8)).length)) (cb := cb) (bb := bb) (qb := qb) LN (fun h => absurd h (Nat.lt_irrefl 0)) LN) (by rintro _ _ ⟨b8, bb8, A8, c8, g8a, g8b, rfl, rfl⟩; rfl) ?_)
 rintro _ _ ⟨b8, bb8, A8, c8, g8a, g8b, rfl, rfl⟩
 refine At.p (some 6) (P_assign rfl rfl) ?_
 refine At.nil ?_
 refine At.next ?_
 refine At.seq ?_
 refine At.region ?_
 refine At.p (some 9) (P_move rfl rfl) ?_
 refine At.p (some 10) (P_move rfl rfl) ?_
 refine At.s (S_callF (some 11) [] [(8, _), (2008, _)] [] (fb := []) (vs := [_]) (lb := [_, _]) rfl rfl en92 rfl O0 (by simp) (VN (by simp) rfl View.all (VN (by simp) rfl (View.sub (j := 0) (m := ([] : List (BitVec 8)).length) (by omega) (viewS List.drop_zero)) V0)) (by simp) (k_ex1S (br := b8) (bl := bb8) (cr := c8) (q := 0) (Ar := A8) (bh := bh) (bf := bf) (fun h => g8a (by omega)) LN) (by rintro _ _ ⟨rfl, rfl⟩; rfl) ?_)
 rintro _ _ ⟨rfl, rfl⟩
 refine At.nil ?_
 refine At.next ?_
 refine At.seq ?_
 refine At.region ?_
 refine At.p (some 12) (P_move rfl rfl) ?_
 refine At.s (S_callV (some 13) [(8, _), (2008, _)] [] (vs := [_]) rfl en13 rfl (VN (by simp) rfl View.all (VN (by simp) rfl (View.sub (j := 0) (m := ([] : List (BitVec 8)).length) (by omega) (viewS List.drop_zero)) V0)) (by simp) (k_Done (br := b8) (bl := bb8) (cr := c8) (q := 0) (Ar := A8) (l := ([] : List (BitVec 8))) (fun h => g8a (by omega)) LN LN) (by rintro _ _ ⟨rfl, rfl⟩; rfl) ?_)
 rintro _ _ ⟨rfl, rfl⟩
 refine At.p (some 14) (P_cmp rfl rfl rfl rfl rfl rfl) ?_
 refine At.nil ?_
 refine At.next ?_
 refine At.cond rfl (fun h14 => by simp at h14) (fun h14 => ?_)
 have e14 : 0 = 0 := bne_eq_false_iff_eq.1 h14
 refine At.skip ?_
 refine At.give (.inr rfl) [] (rows' := []) (vs := []) rfl trivial rfl (by simp) (by simp) ⟨rfl, rfl⟩

set_option maxHeartbeats 2000000 in
theorem k_witE {br bl cr q : Nat} {Ar : Option Addr} {bc : Nat} {rnd : List (BitVec 8)} {s1 s2 s3 : Value} {ns : List Int} {nn : Nat} {bm : Nat} {bh bf : Nat} (hAr : 0 < (beN 2 (5 + 2 * nn) ++ ((beN 2 43 ++ (beN 2 (1 + 2 * nn) ++ ((beN 1 (2 * nn) ++ (nsB ns ++ ([] : List (BitVec 8)))) ++ ([] : List (BitVec 8))))) ++ ([] : List (BitVec 8)))).length → Ar = some ⟨bl, q, none⟩) (hcr : (beN 2 (5 + 2 * nn) ++ ((beN 2 43 ++ (beN 2 (1 + 2 * nn) ++ ((beN 1 (2 * nn) ++ (nsB ns ++ ([] : List (BitVec 8)))) ++ ([] : List (BitVec 8))))) ++ ([] : List (BitVec 8)))).length ≤ cr) (hrnd : rnd.length = 32) (hnn : ns.length = nn) (hns : ∀ e ∈ ns, 0 ≤ e ∧ e < 65536) (h1 : 1 ≤ nn) (h4 : nn ≤ 4) :
  Con Try.prog 88 [ptr br 0, iV 2, .func (.func 92) #[] #[ptr bh 0, ptr bf 0]] [⟨true, br, 0, 83, [.slice Ar ((beN 2 (5 + 2 * nn) ++ ((beN 2 43 ++ (beN 2 (1 + 2 * nn) ++ ((beN 1 (2 * nn) ++ (nsB ns ++ ([] : List (BitVec 8)))) ++ ([] : List (BitVec 8))))) ++ ([] : List (BitVec 8)))).length) cr, iV 0], 0⟩, ⟨true, bc, 0, 29, [(rnd).map u8V, [s1, s2, s3, .slice none 0 0, .slice none 0 0, .slice none 0 0, .slice none 0 0, .slice none 0 0, .slice none 0 0, .slice none 0 0]].flatten, 0⟩, (mRow bm []), pRow bl q (beN 2 (5 + 2 * nn) ++ ((beN 2 43 ++ (beN 2 (1 + 2 * nn) ++ ((beN 1 (2 * nn) ++ (nsB ns ++ ([] : List (BitVec 8)))) ++ ([] : List (BitVec 8))))) ++ ([] : List (BitVec 8)))), ⟨false, bh, 0, 0, [.map (some bm)], 0⟩, ⟨false, bf, 0, 0, [.func (.func 49) #[ptr bc 0] #[]], 0⟩] (fun v rs => ∃ A1 c1 A2 b2 c2, (0 < c2 → A2 = some ⟨b2, 0, none⟩) ∧ nn ≤ c2 ∧ v = .tuple #[] ∧ rs = [⟨true, br, 0, 83, [.slice A1 0 c1, iV 0], 0⟩, ⟨true, bc, 0, 29, [rnd.map u8V, [s1, s2, .slice A2 nn c2, .slice none 0 0, .slice none 0 0, .slice none 0 0, .slice none 0 0, .slice none 0 0, .slice none 0 0, .slice none 0 0]].flatten, 0⟩, ⟨true, b2, 0, 3, ns.map iV, c2 - nn⟩]) := by
 refine Con.enter Try.func88 Try.ntmps88 (Nat.le_of_ble_eq_true rfl) rfl fun w => ?_
 refine At.region ?_
 refine At.p (some 6) (P_move rfl rfl) ?_
 refine At.p (some 7) (P_move rfl rfl) ?_
 refine At.p (some 8) (P_move rfl rfl) ?_
 refine At.s (S_callR (some 9) [(0, _)] [(3, _)] [0, 9] (vs := [_, _, _, _]) rfl en10 rfl (ON rfl rfl O0) (by simp) (VN (by simp) rfl (View.sub (j := 0) (m := (beN 2 (5 + 2 * nn) ++ ((beN 2 43 ++ (beN 2 (1 + 2 * nn) ++ ((beN 1 (2 * nn) ++ (nsB ns ++ ([] : List (BitVec 8)))) ++ ([] : List (BitVec 8))))) ++ ([] : List (BitVec 8)))).length) (by omega) (viewS List.drop_zero)) V0) (by simp) (k_VecA (br := br) (bl := bl) (cr := cr) (q := q) (Ar := Ar) (w := 2) (m := (5 + 2 * nn)) (lo := 0) (hi := 65535) (x := (beN 2 43 ++ (beN 2 (1 + 2 * nn) ++ ((beN 1 (2 * nn) ++ (nsB ns ++ ([] : List (BitVec 8)))) ++ ([] : List (BitVec 8)))))) (rest := ([] : List (BitVec 8))) (beI_beN2 LN) (by decide) (by decide) LN LN LN LN hAr LN) (by rintro _ _ ⟨B9, e9, A9, b9, c9, g9c, g9d, g9a, g9b, rfl, rfl⟩; rfl) ?_)
 rintro _ _ ⟨B9, e9, A9, b9, c9, g9c, g9d, g9a, g9b, rfl, rfl⟩
 refine At.p (some 10) (P_move rfl rfl) ?_
 refine At.s (S_callR (some 11) [(1, _), (2, _)] [(9, _), (4, _), (5, _)] [1, 54] (vs := [_, _, _]) rfl en93 rfl (ON rfl rfl (ON rfl rfl O0)) (by simp) (VN (by simp) rfl View.all (VN (by simp) rfl View.all (VN (by simp) rfl View.all V0))) (by simp) (k_insE1 (br := br) (bm := bm) (bc := bc) (rnd := rnd) (s1 := s1) (s2 := s2) (s3 := s3) (ns := ns) (nn := nn) (Ab := A9) (cb := c9) (bb := b9) (qb := 0) (bh := bh) (bf := bf) LN hnn hns (fun h => g9a (by omega)) LN LN) (by rintro _ _ ⟨A11i, b11i, c11i, g11i, g11j, rfl, rfl⟩; rfl) ?_)
 rintro _ _ ⟨A11i, b11i, c11i, g11i, g11j, rfl, rfl⟩
 refine At.nil ?_
 refine At.give (.inr rfl) [0, 1, 54] (rows' := [_, _, _]) (vs := []) rfl trivial rfl (by simp) (by simp) ⟨B9, e9, A11i, b11i, c11i, g11i, g11j, rfl, rfl⟩

set_option maxHeartbeats 2000000 in
theorem k_witS {br bl cr q : Nat} {Ar : Option Addr} {X : List (BitVec 8)} {mm : Nat} {bh bf : Nat} (hAr : 0 < (beN 2 mm ++ X).length → Ar = some ⟨bl, q, none⟩) (hcr : (beN 2 mm ++ X).length ≤ cr) (hx : X.length < mm) (hmm : mm < 65536) :
  Con Try.prog 88 [ptr br 0, iV 2, .func (.func 92) #[] #[ptr bh 0, ptr bf 0]] [⟨true, br, 0, 83, [.slice Ar ((beN 2 mm ++ X).length) cr, iV 0], 0⟩, pRow bl q (beN 2 mm ++ X)] (fun v rs => ∃ A1 c1, (0 < X.length → A1 = some ⟨bl, q + 2, none⟩) ∧ X.length ≤ c1 ∧ v = .tuple #[] ∧ rs = [⟨true, br, 0, 83, [.slice A1 X.length c1, iV 2], 0⟩]) := by
 refine Con.enter Try.func88 Try.ntmps88 (Nat.le_of_ble_eq_true rfl) rfl fun w => ?_
 refine At.region ?_
 refine At.p (some 6) (P_move rfl rfl) ?_
 refine At.p (some 7) (P_move rfl rfl) ?_
 refine At.p (some 8) (P_move rfl rfl) ?_
 refine At.s (S_callR (some 9) [(0, _)] [(1, _)] [0, 9] (vs := [_, _, _, _]) rfl en10 rfl (ON rfl rfl O0) (by simp) (VN (by simp) rfl (View.sub (j := 0) (m := (beN 2 mm ++ X).length) (by omega) (viewS List.drop_zero)) V0) (by simp) (k_VecB (br := br) (bl := bl) (cr := cr) (q := q) (Ar := Ar) (w := 2) (m := mm) (lo := 0) (hi := 65535) (x := X) (beI_beN2 LN) (by decide) (by decide) LN LN hAr LN) (by rintro _ _ ⟨B9, e9, A9, b9, c9, g9c, g9d, g9a, rfl, rfl⟩; rfl) ?_)
 rintro _ _ ⟨B9, e9, A9, b9, c9, g9c, g9d, g9a, rfl, rfl⟩
 refine At.p (some 10) (P_move rfl rfl) ?_
 refine At.s (S_callV (some 11) [(9, _)] [] (vs := [_, _, _]) rfl en93 rfl (VN (by simp) rfl View.all V0) (by simp) (k_insS (br := br) (Ab := A9) (cb := c9) (bb := b9) (qb := 0) (bh := bh) (bf := bf)) (by rintro _ _ ⟨rfl, rfl⟩; rfl) ?_)
 rintro _ _ ⟨rfl, rfl⟩
 refine At.nil ?_
 refine At.give (.inr rfl) [0] (rows' := [_]) (vs := []) rfl trivial rfl (by simp) (by simp) ⟨B9, e9, g9c, g9d, rfl, rfl⟩

set_option maxHeartbeats 2000000 in
theorem k_extY {br bl cr q : Nat} {Ar : Option Addr} {bc : Nat} {rnd : List (BitVec 8)} {s1 s2 s3 : Value} {ns : List Int} {nn : Nat} (hAr : 0 < (beN 2 (5 + 2 * nn) ++ ((beN 2 43 ++ (beN 2 (1 + 2 * nn) ++ ((beN 1 (2 * nn) ++ (nsB ns ++ ([] : List (BitVec 8)))) ++ ([] : List (BitVec 8))))) ++ ([] : List (BitVec 8)))).length → Ar = some ⟨bl, q, none⟩) (hcr : (beN 2 (5 + 2 * nn) ++ ((beN 2 43 ++ (beN 2 (1 + 2 * nn) ++ ((beN 1 (2 * nn) ++ (nsB ns ++ ([] : List (BitVec 8)))) ++ ([] : List (BitVec 8))))) ++ ([] : List (BitVec 8)))).length ≤ cr) (hrnd : rnd.length = 32) (hnn : ns.length = nn) (hns : ∀ e ∈ ns, 0 ≤ e ∧ e < 65536) (h1 : 1 ≤ nn) (h4 : nn ≤ 4) :
  Con Try.prog 48 [ptr br 0, .func (.func 49) #[ptr bc 0] #[]] [⟨true, br, 0, 83, [.slice Ar ((beN 2 (5 + 2 * nn) ++ ((beN 2 43 ++ (beN 2 (1 + 2 * nn) ++ ((beN 1 (2 * nn) ++ (nsB ns ++ ([] : List (BitVec 8)))) ++ ([] : List (BitVec 8))))) ++ ([] : List (BitVec 8)))).length) cr, iV 0], 0⟩, ⟨true, bc, 0, 29, [(rnd).map u8V, [s1, s2, s3, .slice none 0 0, .slice none 0 0, .slice none 0 0, .slice none 0 0, .slice none 0 0, .slice none 0 0, .slice none 0 0]].flatten, 0⟩, pRow bl q (beN 2 (5 + 2 * nn) ++ ((beN 2 43 ++ (beN 2 (1 + 2 * nn) ++ ((beN 1 (2 * nn) ++ (nsB ns ++ ([] : List (BitVec 8)))) ++ ([] : List (BitVec 8))))) ++ ([] : List (BitVec 8))))] (fun v rs => ∃ A1 c1 A2 b2 c2, (0 < c2 → A2 = some ⟨b2, 0, none⟩) ∧ nn ≤ c2 ∧ v = .tuple #[] ∧ rs = [⟨true, br, 0, 83, [.slice A1 0 c1, iV 0], 0⟩, ⟨true, bc, 0, 29, [rnd.map u8V, [s1, s2, .slice A2 nn c2, .slice none 0 0, .slice none 0 0, .slice none 0 0, .slice none 0 0, .slice none 0 0, .slice none 0 0, .slice none 0 0]].flatten, 0⟩, ⟨true, b2, 0, 3, ns.map iV, c2 - nn⟩]) := by
 refine Con.enter Try.func48 Try.ntmps48 (Nat.le_of_ble_eq_true rfl) rfl fun w => ?_
 refine At.seq ?_
 refine At.region ?_
 refine At.s (S_box (some 3) 3 (zs := [.func (.func 49) #[ptr bc 0] #[]]) rfl rfl rfl (fun b3 => ?_))
 refine At.nil ?_
 refine At.next ?_
 refine At.seq ?_
 refine At.region ?_
 refine At.s (S_makeMap (some 5) 5 rfl (fun b5 => ?_))
 refine At.s (S_alloc (some 4) 4 (zs := [.map none]) rfl ze134 rfl (fun b4 => ?_))
 refine At.s (S_store none (k := 4) rfl rfl rfl sz134 rfl rfl rfl LN ?_)
 refine At.nil ?_
 refine At.next ?_
 refine At.region ?_
 refine At.p (some 6) (P_move rfl rfl) ?_
 refine At.p (some 7) (P_makeFunc (vs := [_, _]) rfl rfl) ?_
 refine At.s (S_callR (some 8) [(0, _), (1, _), (5, _)] [(2, _), (4, _), (3, _)] [0, 1, 54] (vs := [_, _, _]) rfl en88 rfl (ON rfl rfl (ON rfl rfl (ON rfl rfl O0))) (by simp) (VN (by simp) rfl (View.sub (j := 0) (m := (beN 2 (5 + 2 * nn) ++ ((beN 2 43 ++ (beN 2 (1 + 2 * nn) ++ ((beN 1 (2 * nn) ++ (nsB ns ++ ([] : List (BitVec 8)))) ++ ([] : List (BitVec 8))))) ++ ([] : List (BitVec 8)))).length) (by omega) (viewS List.drop_zero)) (VN (by simp) rfl View.all (VN (by simp) rfl View.all V0))) (by simp) (k_witE (bc := bc) (rnd := rnd) (s1 := s1) (s2 := s2) (s3 := s3) (ns := ns) (nn := nn) (br := br) (bl := bl) (cr := cr) (q := q) (Ar := Ar) (bm := b5) (bh := b4) (bf := b3) hAr LN LN hnn hns LN LN) (by rintro _ _ ⟨X8, x8, A8i, b8i, c8i, g8i, g8j, rfl, rfl⟩; rfl) ?_)
 rintro _ _ ⟨X8, x8, A8i, b8i, c8i, g8i, g8j, rfl, rfl⟩
 refine At.nil ?_
 refine At.give (.inr rfl) [0, 1, 54] (rows' := [_, _, _]) (vs := []) rfl trivial rfl (by simp) (by simp) ⟨X8, x8, A8i, b8i, c8i, g8i, g8j, rfl, rfl⟩

set_option maxHeartbeats 2000000 in
theorem k_extS {br bl cr q : Nat} {Ar : Option Addr} {X : List (BitVec 8)} {mm : Nat} {bc : Nat} (hAr : 0 < (beN 2 mm ++ X).length → Ar = some ⟨bl, q, none⟩) (hcr : (beN 2 mm ++ X).length ≤ cr) (hx : X.length < mm) (hmm : mm < 65536) :
  Con Try.prog 48 [ptr br 0, .func (.func 49) #[ptr bc 0] #[]] [⟨true, br, 0, 83, [.slice Ar ((beN 2 mm ++ X).length) cr, iV 0], 0⟩, pRow bl q (beN 2 mm ++ X)] (fun v rs => ∃ A1 c1, (0 < X.length → A1 = some ⟨bl, q + 2, none⟩) ∧ X.length ≤ c1 ∧ v = .tuple #[] ∧ rs = [⟨true, br, 0, 83, [.slice A1 X.length c1, iV 2], 0⟩]) := by
 refine Con.enter Try.func48 Try.ntmps48 (Nat.le_of_ble_eq_true rfl) rfl fun w => ?_
 refine At.seq ?_
 refine At.region ?_
 refine At.s (S_box (some 3) 3 (zs := [.func (.func 49) #[ptr bc 0] #[]]) rfl rfl rfl (fun b3 => ?_))
 refine At.nil ?_
 refine At.next ?_
 refine At.seq ?_
 refine At.region ?_
 refine At.s (S_makeMap (some 5) 5 rfl (fun b5 => ?_))
 refine At.s (S_alloc (some 4) 4 (zs := [.map none]) rfl ze134 rfl (fun b4 => ?_))
 refine At.s (S_store none (k := 4) rfl rfl rfl sz134 rfl rfl rfl LN ?_)
 refine At.nil ?_
 refine At.next ?_
 refine At.region ?_
 refine At.p (some 6) (P_move rfl rfl) ?_
 refine At.p (some 7) (P_makeFunc (vs := [_, _]) rfl rfl) ?_
 refine At.s (S_callR (some 8) [(0, _)] [(1, _)] [0] (vs := [_, _, _]) rfl en88 rfl (ON rfl rfl O0) (by simp) (VN (by simp) rfl (View.sub (j := 0) (m := (beN 2 mm ++ X).length) (by omega) (viewS List.drop_zero)) V0) (by simp) (k_witS (br := br) (bl := bl) (cr := cr) (q := q) (Ar := Ar) (X := X) (mm := mm) (bh := b4) (bf := b3) hAr LN LN LN) (by rintro _ _ ⟨B8, e8, g8c, g8d, rfl, rfl⟩; rfl) ?_)
 rintro _ _ ⟨B8, e8, g8c, g8d, rfl, rfl⟩
 refine At.nil ?_
 refine At.give (.inr rfl) [0] (rows' := [_]) (vs := []) rfl trivial rfl (by simp) (by simp) ⟨B8, e8, g8c, g8d, rfl, rfl⟩

set_option maxHeartbeats 2000000 in
theorem k_hmust {br bl cr q : Nat} {Ar : Option Addr} {rest : List (BitVec 8)} (hAr : 0 < (beN 2 771 ++ rest).length → Ar = some ⟨bl, q, none⟩) (hcr : (beN 2 771 ++ rest).length ≤ cr) :
  Con Try.prog 44 [ptr br 0, iV 771, iV 2] [⟨true, br, 0, 83, [.slice Ar ((beN 2 771 ++ rest).length) cr, iV 0], 0⟩, pRow bl q (beN 2 771 ++ rest)] (fun v rs => ∃ A1 c1, (0 < rest.length → A1 = some ⟨bl, q + 2, none⟩) ∧ rest.length ≤ c1 ∧ v = .tuple #[] ∧ rs = [⟨true, br, 0, 83, [.slice A1 rest.length c1, iV 0], 0⟩]) := by
 refine Con.enter Try.func44 Try.ntmps44 (Nat.le_of_ble_eq_true rfl) rfl fun w => ?_
 refine At.seq ?_
 refine At.region ?_
 refine At.p (some 6) (P_move rfl rfl) ?_
 refine At.p (some 7) (P_move rfl rfl) ?_
 refine At.s (S_callR (some 8) [(0, _)] [(1, _)] [0] (vs := [_, _]) rfl en39 rfl (ON rfl rfl O0) (by simp) (VN (by simp) rfl (View.sub (j := 0) (m := (beN 2 771 ++ rest).length) (by omega) (viewS List.drop_zero)) V0) (by simp) (k_UintN (br := br) (bl := bl) (cr := cr) (q := q) (Ar := Ar) (w := 2) (m := 771) (rest := rest) (beI_beN2 LN) (by decide) (by decide) hAr LN) (by rintro _ _ ⟨B8, e8, g8c, g8d, rfl, rfl⟩; rfl) ?_)
 rintro _ _ ⟨B8, e8, g8c, g8d, rfl, rfl⟩
 refine At.p (some 9) (P_move rfl rfl) ?_
 refine At.p (some 10) (P_cmp rfl rfl rfl rfl rfl rfl) ?_
 refine At.nil ?_
 refine At.next ?_
 refine At.cond rfl (fun h10 => by simp at h10) (fun h10 => ?_)
 have e10 : 771 = 771 := bne_eq_false_iff_eq.1 h10
 refine At.skip ?_
 refine At.give (.inr rfl) [0] (rows' := [_]) (vs := []) rfl trivial rfl (by simp) (by simp) ⟨B8, e8, g8c, g8d, rfl, rfl⟩


end Go.Proofs.Ytcjfkmhijfcciaa

