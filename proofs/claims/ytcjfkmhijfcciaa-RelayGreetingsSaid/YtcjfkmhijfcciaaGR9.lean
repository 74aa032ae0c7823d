import Derived.Test.YtcjfkmhijfcciaaGR8
namespace Go.Proofs.Ytcjfkmhijfcciaa
set_option maxRecDepth 20000
set_option linter.unusedVariables false
set_option linter.unusedSimpArgs false
open Go.SE Go.RowKit
attribute [local irreducible] sumS
set_option maxHeartbeats 2000000 in
theorem k_GetY {rnd sess : List (BitVec 8)} {su : List Int} {ns nu : Nat} {vs : List Int} {nn : Nat} {Ab : Option Addr} {nb cb bb qb : Nat} (hrnd : rnd.length = 32) (hns : sess.length = ns) (hnu : su.length = nu) (hsu : ∀ e ∈ su, 0 ≤ e ∧ e < 65536) (hnn : vs.length = nn) (hvs : ∀ e ∈ vs, 0 ≤ e ∧ e < 65536) (hnb : (beN 2 771 ++ (rnd ++ (beN 1 ns ++ (sess ++ (beN 2 (2 * nu) ++ (nsB su ++ (beN 1 1 ++ ([0#8] ++ (beN 2 (5 + 2 * nn) ++ ((beN 2 43 ++ (beN 2 (1 + 2 * nn) ++ ((beN 1 (2 * nn) ++ (nsB vs ++ ([] : List (BitVec 8)))) ++ ([] : List (BitVec 8))))) ++ ([] : List (BitVec 8)))))))))))).length = nb) (hAb : 0 < nb → Ab = some ⟨bb, qb, none⟩) (hb6 : nb ≤ 100000) (hs : ns ≤ 32) (hu1 : 1 ≤ nu) (hu8 : nu ≤ 8) (hn1 : 1 ≤ nn) (hn4 : nn ≤ 4) :
  Con Try.prog 14 [.slice Ab nb cb] [pRow bb qb (beN 2 771 ++ (rnd ++ (beN 1 ns ++ (sess ++ (beN 2 (2 * nu) ++ (nsB su ++ (beN 1 1 ++ ([0#8] ++ (beN 2 (5 + 2 * nn) ++ ((beN 2 43 ++ (beN 2 (1 + 2 * nn) ++ ((beN 1 (2 * nn) ++ (nsB vs ++ ([] : List (BitVec 8)))) ++ ([] : List (BitVec 8))))) ++ ([] : List (BitVec 8))))))))))))] (fun v rs => ∃ A1 b1 c1 A2 b2 c2 A3 b3 c3, (0 < c1 → A1 = some ⟨b1, 0, none⟩) ∧ sess.length ≤ c1 ∧ (0 < c2 → A2 = some ⟨b2, 0, none⟩) ∧ nu ≤ c2 ∧ (0 < c3 → A3 = some ⟨b3, 0, none⟩) ∧ nn ≤ c3 ∧ v = .tuple #[.agg ([rnd.map u8V, [.slice A1 sess.length c1, .slice A2 nu c2, .slice A3 nn c3, .slice none 0 0, .slice none 0 0, .slice none 0 0, .slice none 0 0, .slice none 0 0, .slice none 0 0, .slice none 0 0]].flatten).toArray, iV 0] ∧ rs = [⟨true, b1, 0, 5, sess.map u8V, c1 - sess.length⟩, ⟨true, b2, 0, 3, su.map iV, c2 - nu⟩, ⟨true, b3, 0, 3, vs.map iV, c3 - nn⟩]) := by
 refine Con.enter Try.func14 Try.ntmps14 (Nat.le_of_ble_eq_true rfl) rfl fun w => ?_
 refine At.seq ?_
 refine At.region ?_
 refine At.s (S_alloc (some 2) 2 (zs := [(List.replicate 32 0#8).map u8V, [.slice none 0 0, .slice none 0 0, .slice none 0 0, .slice none 0 0, .slice none 0 0, .slice none 0 0, .slice none 0 0, .slice none 0 0, .slice none 0 0, .slice none 0 0]].flatten) rfl ze29 rfl (fun b2 => ?_))
 refine At.p (some 3) (P_assign rfl rfl) ?_
 refine At.nil ?_
 refine At.next ?_
 refine At.seq ?_
 refine At.region ?_
 refine At.p (some 8) (P_move rfl rfl) ?_
 refine At.s (S_callV (some 9) [(0, _)] [9, 2009] (vs := [_]) rfl en9 rfl (VN (by simp) rfl View.all V0) (by simp) (k_New (b := (beN 2 771 ++ (rnd ++ (beN 1 ns ++ (sess ++ (beN 2 (2 * nu) ++ (nsB su ++ (beN 1 1 ++ ([0#8] ++ (beN 2 (5 + 2 * nn) ++ ((beN 2 43 ++ (beN 2 (1 + 2 * nn) ++ ((beN 1 (2 * nn) ++ (nsB vs ++ ([] : List (BitVec 8)))) ++ ([] : List (BitVec 8))))) ++ ([] : List (BitVec 8))))))))))))) (Ab := Ab) (nb := nb) (cb := cb) (bb := bb) (qb := qb) LN hAb LN) (by rintro _ _ ⟨b9, bb9, A9, c9, g9a, g9b, rfl, rfl⟩; rfl) ?_)
 rintro _ _ ⟨b9, bb9, A9, c9, g9a, g9b, rfl, rfl⟩
 refine At.p (some 4) (P_assign rfl rfl) ?_
 refine At.nil ?_
 refine At.next ?_
 refine At.seq ?_
 refine At.region ?_
 refine At.s (S_alloc (some 5) 5 (zs := [(List.replicate 32 0#8).map u8V, [.slice none 0 0, .slice none 0 0, .slice none 0 0, .slice none 0 0, .slice none 0 0, .slice none 0 0, .slice none 0 0, .slice none 0 0, .slice none 0 0, .slice none 0 0]].flatten) rfl ze29 rfl (fun b5 => ?_))
 refine At.nil ?_
 refine At.next ?_
 refine At.seq ?_
 refine At.region ?_
 refine At.p (some 10) (P_move rfl rfl) ?_
 refine At.s (S_callR (some 11) [(9, _)] [(2009, _)] [9] (vs := [_, _, _]) rfl en44 rfl (ON rfl rfl O0) (by simp) (VN (by simp) rfl (View.sub (j := 0) (m := (beN 2 771 ++ (rnd ++ (beN 1 ns ++ (sess ++ (beN 2 (2 * nu) ++ (nsB su ++ (beN 1 1 ++ ([0#8] ++ (beN 2 (5 + 2 * nn) ++ ((beN 2 43 ++ (beN 2 (1 + 2 * nn) ++ ((beN 1 (2 * nn) ++ (nsB vs ++ ([] : List (BitVec 8)))) ++ ([] : List (BitVec 8))))) ++ ([] : List (BitVec 8)))))))))))).length) (by omega) (viewS List.drop_zero)) V0) (by simp) (k_hmust (br := b9) (bl := bb9) (cr := c9) (q := 0) (Ar := A9) (rest := (rnd ++ (beN 1 ns ++ (sess ++ (beN 2 (2 * nu) ++ (nsB su ++ (beN 1 1 ++ ([0#8] ++ (beN 2 (5 + 2 * nn) ++ ((beN 2 43 ++ (beN 2 (1 + 2 * nn) ++ ((beN 1 (2 * nn) ++ (nsB vs ++ ([] : List (BitVec 8)))) ++ ([] : List (BitVec 8))))) ++ ([] : List (BitVec 8)))))))))))) (fun h => g9a (by omega)) LN) (by rintro _ _ ⟨B11, e11, g11c, g11d, rfl, rfl⟩; rfl) ?_)
 rintro _ _ ⟨B11, e11, g11c, g11d, rfl, rfl⟩
 refine At.nil ?_
 refine At.next ?_
 refine At.seq ?_
 refine At.draws 4 [3] [.q true [0, 1], .q false [2], .e true 3] (by kernel_rfl) (by kernel_rfl) ?_
 refine At.wp (some 12) (P_fieldAddr0 (off := 0) rfl Try.underlying29 rfl sz22 rfl rfl) ?_
 refine At.wp (some 13) (P_slice_arr1 (l := 0) (h := 32) (m := 32) rfl Try.underlying22 sz5 rfl rfl rfl rfl DO DO DO DO) ?_
 refine At.wqn ?_
 refine At.wp (some 14) (P_move rfl rfl) ?_
 refine At.wqn ?_
 refine At.we ?_
 refine S_callR (some 15) [(9, _)] [(2009, _)] [9, 15] (vs := [_, _]) rfl en43 rfl (ON rfl rfl O0) (by simp) (VN (by simp) rfl (View.sub (j := (0 + 2)) (m := (rnd ++ (beN 1 ns ++ (sess ++ (beN 2 (2 * nu) ++ (nsB su ++ (beN 1 1 ++ ([0#8] ++ (beN 2 (5 + 2 * nn) ++ ((beN 2 43 ++ (beN 2 (1 + 2 * nn) ++ ((beN 1 (2 * nn) ++ (nsB vs ++ ([] : List (BitVec 8)))) ++ ([] : List (BitVec 8))))) ++ ([] : List (BitVec 8))))))))))).length) (by omega) (viewS (dropS List.drop_zero (beN_len _ _)))) V0) (by simp) (k_BytesA (br := b9) (bl := bb9) (cr := e11) (q := (0 + 2)) (Ar := B11) (a := rnd) (rest := (beN 1 ns ++ (sess ++ (beN 2 (2 * nu) ++ (nsB su ++ (beN 1 1 ++ ([0#8] ++ (beN 2 (5 + 2 * nn) ++ ((beN 2 43 ++ (beN 2 (1 + 2 * nn) ++ ((beN 1 (2 * nn) ++ (nsB vs ++ ([] : List (BitVec 8)))) ++ ([] : List (BitVec 8))))) ++ ([] : List (BitVec 8))))))))))) (n := 32) LN LN (fun h => g11c (by omega)) LN) (by rintro _ _ ⟨B15, e15, A15, b15, c15, g15c, g15d, g15a, g15b, rfl, rfl⟩; rfl) ?_
 rintro _ _ ⟨B15, e15, A15, b15, c15, g15c, g15d, g15a, g15b, rfl, rfl⟩
 refine At.wt rfl ?_
 refine At.s (S_copy (some 16) 5 (news := (rnd).map u8V) (m := rnd.length) (n := 32) (p := 0) rfl Try.underlying23 sz5 rfl (fun h => (fun _ => rfl) OG) rfl (Src2.row (k := 15) (j := 0) rfl (fun h => (fun h => g15a (by omega)) OG) (fun _ => ⟨rfl, rfl, rfl⟩) (take_full LN) LN) OG LN (by intro u hu; obtain ⟨z, _, rfl⟩ := List.mem_map.1 hu; rfl) LN ?_)
 refine At.row 5 (⟨true, b5, 0, 29, [(rnd).map u8V, [.slice none 0 0, .slice none 0 0, .slice none 0 0, .slice none 0 0, .slice none 0 0, .slice none 0 0, .slice none 0 0, .slice none 0 0, .slice none 0 0, .slice none 0 0]].flatten, 0⟩) rfl (seg_set (i := 0) rfl LN LN) ?_
 refine At.nil ?_
 refine At.next ?_
 refine At.seq ?_
 refine At.region ?_
 refine At.p (some 17) (P_move rfl rfl) ?_
 refine At.s (S_callR (some 18) [(9, _)] [(2009, _)] [9, 18] (vs := [_, _, _, _]) rfl en10 rfl (ON rfl rfl O0) (by simp) (VN (by simp) rfl (View.sub (j := ((0 + 2) + 32)) (m := (beN 1 ns ++ (sess ++ (beN 2 (2 * nu) ++ (nsB su ++ (beN 1 1 ++ ([0#8] ++ (beN 2 (5 + 2 * nn) ++ ((beN 2 43 ++ (beN 2 (1 + 2 * nn) ++ ((beN 1 (2 * nn) ++ (nsB vs ++ ([] : List (BitVec 8)))) ++ ([] : List (BitVec 8))))) ++ ([] : List (BitVec 8)))))))))).length) (by omega) (viewS (dropS (dropS List.drop_zero (beN_len _ _)) LN))) V0) (by simp) (k_VecA (br := b9) (bl := bb9) (cr := e15) (q := ((0 + 2) + 32)) (Ar := B15) (w := 1) (m := ns) (lo := 0) (hi := 32) (x := sess) (rest := (beN 2 (2 * nu) ++ (nsB su ++ (beN 1 1 ++ ([0#8] ++ (beN 2 (5 + 2 * nn) ++ ((beN 2 43 ++ (beN 2 (1 + 2 * nn) ++ ((beN 1 (2 * nn) ++ (nsB vs ++ ([] : List (BitVec 8)))) ++ ([] : List (BitVec 8))))) ++ ([] : List (BitVec 8))))))))) (beI_beN1 LN) (by decide) (by decide) LN LN LN LN (fun h => g15c (by omega)) LN) (by rintro _ _ ⟨B18, e18, A18, b18, c18, g18c, g18d, g18a, g18b, rfl, rfl⟩; rfl) ?_)
 rintro _ _ ⟨B18, e18, A18, b18, c18, g18c, g18d, g18a, g18b, rfl, rfl⟩
 refine At.p (some 19) (P_fieldAddr0 (off := 32) rfl Try.underlying29 rfl sz23 rfl rfl) ?_
 refine At.s (S_store none (k := 5) rfl rfl rfl sz23 rfl rfl rfl LN ?_)
 refine At.row 5 (⟨true, b5, 0, 29, [(rnd).map u8V, [.slice A18 sess.length c18, .slice none 0 0, .slice none 0 0, .slice none 0 0, .slice none 0 0, .slice none 0 0, .slice none 0 0, .slice none 0 0, .slice none 0 0, .slice none 0 0]].flatten, 0⟩) rfl (seg_set1 (x := ([.slice none 0 0, .slice none 0 0, .slice none 0 0, .slice none 0 0, .slice none 0 0, .slice none 0 0, .slice none 0 0, .slice none 0 0, .slice none 0 0, .slice none 0 0] : List Value)) (i := 1) (p := 0) rfl LN OG) ?_
 refine At.nil ?_
 refine At.next ?_
 refine At.seq ?_
 refine At.region ?_
 refine At.p (some 20) (P_move rfl rfl) ?_
 refine At.s (S_callR (some 21) [(9, _)] [(2009, _)] [9, 21] (vs := [_, _, _]) rfl en45 rfl (ON rfl rfl O0) (by simp) (VN (by simp) rfl (View.sub (j := ((((0 + 2) + 32) + 1) + ns)) (m := (beN 2 (2 * nu) ++ (nsB su ++ (beN 1 1 ++ ([0#8] ++ (beN 2 (5 + 2 * nn) ++ ((beN 2 43 ++ (beN 2 (1 + 2 * nn) ++ ((beN 1 (2 * nn) ++ (nsB vs ++ ([] : List (BitVec 8)))) ++ ([] : List (BitVec 8))))) ++ ([] : List (BitVec 8)))))))).length) (by omega) (viewS (dropS (dropS (dropS (dropS List.drop_zero (beN_len _ _)) LN) (beN_len _ _)) LN))) V0) (by simp) (k_nums2 (br := b9) (bl := bb9) (cr := e18) (q := ((((0 + 2) + 32) + 1) + ns)) (Ar := B18) (ns := su) (nn := nu) (rest := (beN 1 1 ++ ([0#8] ++ (beN 2 (5 + 2 * nn) ++ ((beN 2 43 ++ (beN 2 (1 + 2 * nn) ++ ((beN 1 (2 * nn) ++ (nsB vs ++ ([] : List (BitVec 8)))) ++ ([] : List (BitVec 8))))) ++ ([] : List (BitVec 8))))))) (most := 8) (fun h => g18c (by omega)) LN hnu hsu LN LN LN LN) (by rintro _ _ ⟨B21, e21, A21i, b21i, c21i, g21c, g21d, g21i, g21j, rfl, rfl⟩; rfl) ?_)
 rintro _ _ ⟨B21, e21, A21i, b21i, c21i, g21c, g21d, g21i, g21j, rfl, rfl⟩
 refine At.p (some 22) (P_fieldAddr0 (off := 33) rfl Try.underlying29 rfl sz24 rfl rfl) ?_
 refine At.s (S_store none (k := 5) rfl rfl rfl sz24 rfl rfl rfl LN ?_)
 refine At.row 5 (⟨true, b5, 0, 29, [(rnd).map u8V, [.slice A18 sess.length c18, .slice A21i nu c21i, .slice none 0 0, .slice none 0 0, .slice none 0 0, .slice none 0 0, .slice none 0 0, .slice none 0 0, .slice none 0 0, .slice none 0 0]].flatten, 0⟩) rfl (seg_set1 (x := ([.slice A18 sess.length c18, .slice none 0 0, .slice none 0 0, .slice none 0 0, .slice none 0 0, .slice none 0 0, .slice none 0 0, .slice none 0 0, .slice none 0 0, .slice none 0 0] : List Value)) (i := 1) (p := 1) rfl LN OG) ?_
 refine At.nil ?_
 refine At.next ?_
 refine At.seq ?_
 refine At.seq ?_
 refine At.region ?_
 refine At.p (some 23) (P_move rfl rfl) ?_
 refine At.s (S_callR (some 24) [(9, _)] [(2009, _)] [9, 24] (vs := [_, _, _, _]) rfl en10 rfl (ON rfl rfl O0) (by simp) (VN (by simp) rfl (View.sub (j := ((((((0 + 2) + 32) + 1) + ns) + 2) + (2 * nu))) (m := (beN 1 1 ++ ([0#8] ++ (beN 2 (5 + 2 * nn) ++ ((beN 2 43 ++ (beN 2 (1 + 2 * nn) ++ ((beN 1 (2 * nn) ++ (nsB vs ++ ([] : List (BitVec 8)))) ++ ([] : List (BitVec 8))))) ++ ([] : List (BitVec 8)))))).length) (by omega) (viewS (dropS (dropS (dropS (dropS (dropS (dropS List.drop_zero (beN_len _ _)) LN) (beN_len _ _)) LN) (beN_len _ _)) LN))) V0) (by simp) (k_VecA (br := b9) (bl := bb9) (cr := e21) (q := ((((((0 + 2) + 32) + 1) + ns) + 2) + (2 * nu))) (Ar := B21) (w := 1) (m := 1) (lo := 1) (hi := 1) (x := [0#8]) (rest := (beN 2 (5 + 2 * nn) ++ ((beN 2 43 ++ (beN 2 (1 + 2 * nn) ++ ((beN 1 (2 * nn) ++ (nsB vs ++ ([] : List (BitVec 8)))) ++ ([] : List (BitVec 8))))) ++ ([] : List (BitVec 8))))) (beI_beN1 LN) (by decide) (by decide) LN LN LN LN (fun h => g21c (by omega)) LN) (by rintro _ _ ⟨B24, e24, A24, b24, c24, g24c, g24d, g24a, g24b, rfl, rfl⟩; rfl) ?_)
 rintro _ _ ⟨B24, e24, A24, b24, c24, g24c, g24d, g24a, g24b, rfl, rfl⟩
 refine At.p (some 6) (P_assign rfl rfl) ?_
 refine At.nil ?_
 refine At.next ?_
 refine At.seq ?_
 refine At.region ?_
 refine At.p (some 25) (P_move rfl rfl) ?_
 refine At.s (S_buildSliceV (some 26) 26 (([0#8]).map u8V) rfl Try.underlying23 sz5 ze5 rfl rfl (by decide) (by decide) rfl rfl (fun b26 => ?_))
 refine At.s (S_callV (some 27) [(24, _), (26, _)] [] (vs := [_, _]) rfl en46 rfl (VN (by simp) rfl View.all (VN (by simp) rfl View.all V0)) (by simp) (c_BEq (a := [0#8]) (na := ([0#8].length)) (Aa := A24) (ca := c24) (ba := b24) (qa := 0) (b := [0#8]) (nb := 1) (Ab := (some ⟨b26, 0, none⟩)) (cb := 1) (bb := b26) (qb := 0) LN (fun h => g24a (by omega)) LN (fun _ => rfl) OG) (by rintro _ _ ⟨rfl, rfl⟩; rfl) ?_)
 rintro _ _ ⟨rfl, rfl⟩
 refine At.p (some 28) (P_not rfl rfl) ?_
 refine At.nil ?_
 refine At.next ?_
 refine At.cond rfl (fun h28 => by simp at h28) (fun h28 => ?_)
 have e28 : [0#8] = [0#8] := of_decide_eq_true (by first | (simp; done) | simpa using h28)
 refine At.skip ?_
 refine At.next ?_
 refine At.seq ?_
 refine At.region ?_
 refine At.p (some 31) (P_move rfl rfl) ?_
 refine At.p (some 32) (P_makeFuncF (us := [_]) (vs := []) rfl rfl rfl) ?_
 refine At.s (S_callR (some 33) [(9, _), (5, _)] [(2009, _)] [9, 5, 54] (vs := [_, _]) rfl en48 rfl (ON rfl rfl (ON rfl rfl O0)) (by simp) (VN (by simp) rfl (View.sub (j := ((((((((0 + 2) + 32) + 1) + ns) + 2) + (2 * nu)) + 1) + 1)) (m := (beN 2 (5 + 2 * nn) ++ ((beN 2 43 ++ (beN 2 (1 + 2 * nn) ++ ((beN 1 (2 * nn) ++ (nsB vs ++ ([] : List (BitVec 8)))) ++ ([] : List (BitVec 8))))) ++ ([] : List (BitVec 8)))).length) (by omega) (viewS (dropS (dropS (dropS (dropS (dropS (dropS (dropS (dropS List.drop_zero (beN_len _ _)) LN) (beN_len _ _)) LN) (beN_len _ _)) LN) (beN_len _ _)) LN))) V0) (by simp) (k_extY (bc := b5) (rnd := rnd) (s1 := (.slice A18 sess.length c18)) (s2 := (.slice A21i nu c21i)) (s3 := (.slice none 0 0)) (ns := vs) (nn := nn) (br := b9) (bl := bb9) (cr := e24) (q := ((((((((0 + 2) + 32) + 1) + ns) + 2) + (2 * nu)) + 1) + 1)) (Ar := B24) (fun h => g24c (by omega)) LN LN hnn hvs LN LN) (by rintro _ _ ⟨X33, x33, A33i, b33i, c33i, g33i, g33j, rfl, rfl⟩; rfl) ?_)
 rintro _ _ ⟨X33, x33, A33i, b33i, c33i, g33i, g33j, rfl, rfl⟩
 refine At.nil ?_
 refine At.next ?_
 refine At.seq ?_
 refine At.seq ?_
 refine At.region ?_
 refine At.p (some 34) (P_move rfl rfl) ?_
 refine At.s (S_callV (some 35) [(9, _), (98, _)] [] (vs := [_]) rfl en13 rfl (VN (by simp) rfl View.all (VE rfl rfl V0)) (by simp) (k_Done (br := b9) (bl := bb9) (cr := x33) (q := 0) (Ar := X33) (l := ([] : List (BitVec 8))) (fun h => absurd h (Nat.lt_irrefl 0)) LN LN) (by rintro _ _ ⟨rfl, rfl⟩; rfl) ?_)
 rintro _ _ ⟨rfl, rfl⟩
 refine At.p (some 7) (P_assign rfl rfl) ?_
 refine At.nil ?_
 refine At.next ?_
 refine At.seq ?_
 refine At.region ?_
 refine At.p (some 36) (P_move rfl rfl) ?_
 refine At.p (some 37) (P_cmp rfl rfl rfl rfl rfl rfl) ?_
 refine At.nil ?_
 refine At.next ?_
 refine At.cond rfl (fun h37 => by simp at h37) (fun h37 => ?_)
 have e37 : 0 = 0 := bne_eq_false_iff_eq.1 h37
 refine At.skip ?_
 refine At.next ?_
 refine At.seq ?_
 refine At.region ?_
 refine At.q (some 40) (Q_loadA (k := 5) rfl rfl Try.underlying29 rfl sz29 LN rfl) ?_
 refine At.s (S_storeA none (k := 2) (vs := [(rnd).map u8V, [.slice A18 sess.length c18, .slice A21i nu c21i, .slice A33i nn c33i, .slice none 0 0, .slice none 0 0, .slice none 0 0, .slice none 0 0, .slice none 0 0, .slice none 0 0, .slice none 0 0]].flatten) rfl rfl rfl (by rw [sz29]; exact congrArg some LN) rfl (one_flatc (one_map (fun _ => rfl)) (one_flatc (one_cons rfl (one_cons rfl (one_cons rfl (one_cons rfl (one_cons rfl (one_cons rfl (one_cons rfl (one_cons rfl (one_cons rfl (one_cons rfl one_nil)))))))))) one_flat0)) NG rfl LN ?_)
 refine At.p (some 3) (P_assign rfl rfl) ?_
 refine At.nil ?_
 refine At.next ?_
 refine At.ret ?_
 refine At.giveV (.inl rfl) [18, 21, 54] (rows' := [_, _, _]) (ResV.two rfl (ResOne.cellA (k := 2) rfl Try.underlying29 rfl sz29 LN rfl) (ResOne.tmp rfl)) rfl (by simp) (by simp) ⟨A18, b18, c18, A21i, b21i, c21i, A33i, b33i, c33i, g18a, g18b, g21i, g21j, g33i, g33j, rfl, rfl⟩

set_option maxHeartbeats 2000000 in
theorem k_GetS {rnd sess : List (BitVec 8)} {su : List Int} {ns nu : Nat} {X : List (BitVec 8)} {mm : Nat} {Ab : Option Addr} {nb cb bb qb : Nat} (hrnd : rnd.length = 32) (hns : sess.length = ns) (hnu : su.length = nu) (hsu : ∀ e ∈ su, 0 ≤ e ∧ e < 65536) (hnb : (beN 2 771 ++ (rnd ++ (beN 1 ns ++ (sess ++ (beN 2 (2 * nu) ++ (nsB su ++ (beN 1 1 ++ ([0#8] ++ (beN 2 mm ++ X))))))))).length = nb) (hAb : 0 < nb → Ab = some ⟨bb, qb, none⟩) (hb6 : nb ≤ 100000) (hs : ns ≤ 32) (hu1 : 1 ≤ nu) (hu8 : nu ≤ 8) (hx : X.length < mm) (hmm : mm < 65536) :
  Con Try.prog 14 [.slice Ab nb cb] [pRow bb qb (beN 2 771 ++ (rnd ++ (beN 1 ns ++ (sess ++ (beN 2 (2 * nu) ++ (nsB su ++ (beN 1 1 ++ ([0#8] ++ (beN 2 mm ++ X)))))))))] (fun v rs => v = .tuple #[.agg ([(List.replicate 32 0#8).map u8V, [.slice none 0 0, .slice none 0 0, .slice none 0 0, .slice none 0 0, .slice none 0 0, .slice none 0 0, .slice none 0 0, .slice none 0 0, .slice none 0 0, .slice none 0 0]].flatten).toArray, iV 2] ∧ rs = []) := by
 refine Con.enter Try.func14 Try.ntmps14 (Nat.le_of_ble_eq_true rfl) rfl fun w => ?_
 refine At.seq ?_
 refine At.region ?_
 refine At.s (S_alloc (some 2) 2 (zs := [(List.replicate 32 0#8).map u8V, [.slice none 0 0, .slice none 0 0, .slice none 0 0, .slice none 0 0, .slice none 0 0, .slice none 0 0, .slice none 0 0, .slice none 0 0, .slice none 0 0, .slice none 0 0]].flatten) rfl ze29 rfl (fun b2 => ?_))
 refine At.p (some 3) (P_assign rfl rfl) ?_
 refine At.nil ?_
 refine At.next ?_
 refine At.seq ?_
 refine At.region ?_
 refine At.p (some 8) (P_move rfl rfl) ?_
 refine At.s (S_callV (some 9) [(0, _)] [9, 2009] (vs := [_]) rfl en9 rfl (VN (by simp) rfl View.all V0) (by simp) (k_New (b := (beN 2 771 ++ (rnd ++ (beN 1 ns ++ (sess ++ (beN 2 (2 * nu) ++ (nsB su ++ (beN 1 1 ++ ([0#8] ++ (beN 2 mm ++ X)))))))))) (Ab := Ab) (nb := nb) (cb := cb) (bb := bb) (qb := qb) LN hAb LN) (by rintro _ _ ⟨b9, bb9, A9, c9, g9a, g9b, rfl, rfl⟩; rfl) ?_)
 rintro _ _ ⟨b9, bb9, A9, c9, g9a, g9b, rfl, rfl⟩
 refine At.p (some 4) (P_assign rfl rfl) ?_
 refine At.nil ?_
 refine At.next ?_
 refine At.seq ?_
 refine At.region ?_
 refine At.s (S_alloc (some 5) 5 (zs := [(List.replicate 32 0#8).map u8V, [.slice none 0 0, .slice none 0 0, .slice none 0 0, .slice none 0 0, .slice none 0 0, .slice none 0 0, .slice none 0 0, .slice none 0 0, .slice none 0 0, .slice none 0 0]].flatten) rfl ze29 rfl (fun b5 => ?_))
 refine At.nil ?_
 refine At.next ?_
 refine At.seq ?_
 refine At.region ?_
 refine At.p (some 10) (P_move rfl rfl) ?_
 refine At.s (S_callR (some 11) [(9, _)] [(2009, _)] [9] (vs := [_, _, _]) rfl en44 rfl (ON rfl rfl O0) (by simp) (VN (by simp) rfl (View.sub (j := 0) (m := (beN 2 771 ++ (rnd ++ (beN 1 ns ++ (sess ++ (beN 2 (2 * nu) ++ (nsB su ++ (beN 1 1 ++ ([0#8] ++ (beN 2 mm ++ X))))))))).length) (by omega) (viewS List.drop_zero)) V0) (by simp) (k_hmust (br := b9) (bl := bb9) (cr := c9) (q := 0) (Ar := A9) (rest := (rnd ++ (beN 1 ns ++ (sess ++ (beN 2 (2 * nu) ++ (nsB su ++ (beN 1 1 ++ ([0#8] ++ (beN 2 mm ++ X))))))))) (fun h => g9a (by omega)) LN) (by rintro _ _ ⟨B11, e11, g11c, g11d, rfl, rfl⟩; rfl) ?_)
 rintro _ _ ⟨B11, e11, g11c, g11d, rfl, rfl⟩
 refine At.nil ?_
 refine At.next ?_
 refine At.seq ?_
 refine At.draws 4 [3] [.q true [0, 1], .q false [2], .e true 3] (by kernel_rfl) (by kernel_rfl) ?_
 refine At.wp (some 12) (P_fieldAddr0 (off := 0) rfl Try.underlying29 rfl sz22 rfl rfl) ?_
 refine At.wp (some 13) (P_slice_arr1 (l := 0) (h := 32) (m := 32) rfl Try.underlying22 sz5 rfl rfl rfl rfl DO DO DO DO) ?_
 refine At.wqn ?_
 refine At.wp (some 14) (P_move rfl rfl) ?_
 refine At.wqn ?_
 refine At.we ?_
 refine S_callR (some 15) [(9, _)] [(2009, _)] [9, 15] (vs := [_, _]) rfl en43 rfl (ON rfl rfl O0) (by simp) (VN (by simp) rfl (View.sub (j := (0 + 2)) (m := (rnd ++ (beN 1 ns ++ (sess ++ (beN 2 (2 * nu) ++ (nsB su ++ (beN 1 1 ++ ([0#8] ++ (beN 2 mm ++ X)))))))).length) (by omega) (viewS (dropS List.drop_zero (beN_len _ _)))) V0) (by simp) (k_BytesA (br := b9) (bl := bb9) (cr := e11) (q := (0 + 2)) (Ar := B11) (a := rnd) (rest := (beN 1 ns ++ (sess ++ (beN 2 (2 * nu) ++ (nsB su ++ (beN 1 1 ++ ([0#8] ++ (beN 2 mm ++ X)))))))) (n := 32) LN LN (fun h => g11c (by omega)) LN) (by rintro _ _ ⟨B15, e15, A15, b15, c15, g15c, g15d, g15a, g15b, rfl, rfl⟩; rfl) ?_
 rintro _ _ ⟨B15, e15, A15, b15, c15, g15c, g15d, g15a, g15b, rfl, rfl⟩
 refine At.wt rfl ?_
 refine At.s (S_copy (some 16) 5 (news := (rnd).map u8V) (m := rnd.length) (n := 32) (p := 0) rfl Try.underlying23 sz5 rfl (fun h => (fun _ => rfl) OG) rfl (Src2.row (k := 15) (j := 0) rfl (fun h => (fun h => g15a (by omega)) OG) (fun _ => ⟨rfl, rfl, rfl⟩) (take_full LN) LN) OG LN (by intro u hu; obtain ⟨z, _, rfl⟩ := List.mem_map.1 hu; rfl) LN ?_)
 refine At.row 5 (⟨true, b5, 0, 29, [(rnd).map u8V, [.slice none 0 0, .slice none 0 0, .slice none 0 0, .slice none 0 0, .slice none 0 0, .slice none 0 0, .slice none 0 0, .slice none 0 0, .slice none 0 0, .slice none 0 0]].flatten, 0⟩) rfl (seg_set (i := 0) rfl LN LN) ?_
 refine At.nil ?_
 refine At.next ?_
 refine At.seq ?_
 refine At.region ?_
 refine At.p (some 17) (P_move rfl rfl) ?_
 refine At.s (S_callR (some 18) [(9, _)] [(2009, _)] [9, 18] (vs := [_, _, _, _]) rfl en10 rfl (ON rfl rfl O0) (by simp) (VN (by simp) rfl (View.sub (j := ((0 + 2) + 32)) (m := (beN 1 ns ++ (sess ++ (beN 2 (2 * nu) ++ (nsB su ++ (beN 1 1 ++ ([0#8] ++ (beN 2 mm ++ X))))))).length) (by omega) (viewS (dropS (dropS List.drop_zero (beN_len _ _)) LN))) V0) (by simp) (k_VecA (br := b9) (bl := bb9) (cr := e15) (q := ((0 + 2) + 32)) (Ar := B15) (w := 1) (m := ns) (lo := 0) (hi := 32) (x := sess) (rest := (beN 2 (2 * nu) ++ (nsB su ++ (beN 1 1 ++ ([0#8] ++ (beN 2 mm ++ X)))))) (beI_beN1 LN) (by decide) (by decide) LN LN LN LN (fun h => g15c (by omega)) LN) (by rintro _ _ ⟨B18, e18, A18, b18, c18, g18c, g18d, g18a, g18b, rfl, rfl⟩; rfl) ?_)
 rintro _ _ ⟨B18, e18, A18, b18, c18, g18c, g18d, g18a, g18b, rfl, rfl⟩
 refine At.p (some 19) (P_fieldAddr0 (off := 32) rfl Try.underlying29 rfl sz23 rfl rfl) ?_
 refine At.s (S_store none (k := 5) rfl rfl rfl sz23 rfl rfl rfl LN ?_)
 refine At.row 5 (⟨true, b5, 0, 29, [(rnd).map u8V, [.slice A18 sess.length c18, .slice none 0 0, .slice none 0 0, .slice none 0 0, .slice none 0 0, .slice none 0 0, .slice none 0 0, .slice none 0 0, .slice none 0 0, .slice none 0 0]].flatten, 0⟩) rfl (seg_set1 (x := ([.slice none 0 0, .slice none 0 0, .slice none 0 0, .slice none 0 0, .slice none 0 0, .slice none 0 0, .slice none 0 0, .slice none 0 0, .slice none 0 0, .slice none 0 0] : List Value)) (i := 1) (p := 0) rfl LN OG) ?_
 refine At.nil ?_
 refine At.next ?_
 refine At.seq ?_
 refine At.region ?_
 refine At.p (some 20) (P_move rfl rfl) ?_
 refine At.s (S_callR (some 21) [(9, _)] [(2009, _)] [9, 21] (vs := [_, _, _]) rfl en45 rfl (ON rfl rfl O0) (by simp) (VN (by simp) rfl (View.sub (j := ((((0 + 2) + 32) + 1) + ns)) (m := (beN 2 (2 * nu) ++ (nsB su ++ (beN 1 1 ++ ([0#8] ++ (beN 2 mm ++ X))))).length) (by omega) (viewS (dropS (dropS (dropS (dropS List.drop_zero (beN_len _ _)) LN) (beN_len _ _)) LN))) V0) (by simp) (k_nums2 (br := b9) (bl := bb9) (cr := e18) (q := ((((0 + 2) + 32) + 1) + ns)) (Ar := B18) (ns := su) (nn := nu) (rest := (beN 1 1 ++ ([0#8] ++ (beN 2 mm ++ X)))) (most := 8) (fun h => g18c (by omega)) LN hnu hsu LN LN LN LN) (by rintro _ _ ⟨B21, e21, A21i, b21i, c21i, g21c, g21d, g21i, g21j, rfl, rfl⟩; rfl) ?_)
 rintro _ _ ⟨B21, e21, A21i, b21i, c21i, g21c, g21d, g21i, g21j, rfl, rfl⟩
 refine At.p (some 22) (P_fieldAddr0 (off := 33) rfl Try.underlying29 rfl sz24 rfl rfl) ?_
 refine At.s (S_store none (k := 5) rfl rfl rfl sz24 rfl rfl rfl LN ?_)
 refine At.row 5 (⟨true, b5, 0, 29, [(rnd).map u8V, [.slice A18 sess.length c18, .slice A21i nu c21i, .slice none 0 0, .slice none 0 0, .slice none 0 0, .slice none 0 0, .slice none 0 0, .slice none 0 0, .slice none 0 0, .slice none 0 0]].flatten, 0⟩) rfl (seg_set1 (x := ([.slice A18 sess.length c18, .slice none 0 0, .slice none 0 0, .slice none 0 0, .slice none 0 0, .slice none 0 0, .slice none 0 0, .slice none 0 0, .slice none 0 0, .slice none 0 0] : List Value)) (i := 1) (p := 1) rfl LN OG) ?_
 refine At.nil ?_
 refine At.next ?_
 refine At.seq ?_
 refine At.seq ?_
 refine At.region ?_
 refine At.p (some 23) (P_move rfl rfl) ?_
 refine At.s (S_callR (some 24) [(9, _)] [(2009, _)] [9, 24] (vs := [_, _, _, _]) rfl en10 rfl (ON rfl rfl O0) (by simp) (VN (by simp) rfl (View.sub (j := ((((((0 + 2) + 32) + 1) + ns) + 2) + (2 * nu))) (m := (beN 1 1 ++ ([0#8] ++ (beN 2 mm ++ X))).length) (by omega) (viewS (dropS (dropS (dropS (dropS (dropS (dropS List.drop_zero (beN_len _ _)) LN) (beN_len _ _)) LN) (beN_len _ _)) LN))) V0) (by simp) (k_VecA (br := b9) (bl := bb9) (cr := e21) (q := ((((((0 + 2) + 32) + 1) + ns) + 2) + (2 * nu))) (Ar := B21) (w := 1) (m := 1) (lo := 1) (hi := 1) (x := [0#8]) (rest := (beN 2 mm ++ X)) (beI_beN1 LN) (by decide) (by decide) LN LN LN LN (fun h => g21c (by omega)) LN) (by rintro _ _ ⟨B24, e24, A24, b24, c24, g24c, g24d, g24a, g24b, rfl, rfl⟩; rfl) ?_)
 rintro _ _ ⟨B24, e24, A24, b24, c24, g24c, g24d, g24a, g24b, rfl, rfl⟩
 refine At.p (some 6) (P_assign rfl rfl) ?_
 refine At.nil ?_
 refine At.next ?_
 refine At.seq ?_
 refine At.region ?_
 refine At.p (some 25) (P_move rfl rfl) ?_
 refine At.s (S_buildSliceV (some 26) 26 (([0#8]).map u8V) rfl Try.underlying23 sz5 ze5 rfl rfl (by decide) (by decide) rfl rfl (fun b26 => ?_))
 refine At.s (S_callV (some 27) [(24, _), (26, _)] [] (vs := [_, _]) rfl en46 rfl (VN (by simp) rfl View.all (VN (by simp) rfl View.all V0)) (by simp) (c_BEq (a := [0#8]) (na := ([0#8].length)) (Aa := A24) (ca := c24) (ba := b24) (qa := 0) (b := [0#8]) (nb := 1) (Ab := (some ⟨b26, 0, none⟩)) (cb := 1) (bb := b26) (qb := 0) LN (fun h => g24a (by omega)) LN (fun _ => rfl) OG) (by rintro _ _ ⟨rfl, rfl⟩; rfl) ?_)
 rintro _ _ ⟨rfl, rfl⟩
 refine At.p (some 28) (P_not rfl rfl) ?_
 refine At.nil ?_
 refine At.next ?_
 refine At.cond rfl (fun h28 => by simp at h28) (fun h28 => ?_)
 have e28 : [0#8] = [0#8] := of_decide_eq_true (by first | (simp; done) | simpa using h28)
 refine At.skip ?_
 refine At.next ?_
 refine At.seq ?_
 refine At.region ?_
 refine At.p (some 31) (P_move rfl rfl) ?_
 refine At.p (some 32) (P_makeFuncF (us := [_]) (vs := []) rfl rfl rfl) ?_
 refine At.s (S_callR (some 33) [(9, _)] [(2009, _)] [9] (vs := [_, _]) rfl en48 rfl (ON rfl rfl O0) (by simp) (VN (by simp) rfl (View.sub (j := ((((((((0 + 2) + 32) + 1) + ns) + 2) + (2 * nu)) + 1) + 1)) (m := (beN 2 mm ++ X).length) (by omega) (viewS (dropS (dropS (dropS (dropS (dropS (dropS (dropS (dropS List.drop_zero (beN_len _ _)) LN) (beN_len _ _)) LN) (beN_len _ _)) LN) (beN_len _ _)) LN))) V0) (by simp) (k_extS (br := b9) (bl := bb9) (cr := e24) (q := ((((((((0 + 2) + 32) + 1) + ns) + 2) + (2 * nu)) + 1) + 1)) (Ar := B24) (X := X) (mm := mm) (bc := b5) (fun h => g24c (by omega)) LN LN LN) (by rintro _ _ ⟨B33, e33, g33c, g33d, rfl, rfl⟩; rfl) ?_)
 rintro _ _ ⟨B33, e33, g33c, g33d, rfl, rfl⟩
 refine At.nil ?_
 refine At.next ?_
 refine At.seq ?_
 refine At.seq ?_
 refine At.region ?_
 refine At.p (some 34) (P_move rfl rfl) ?_
 refine At.s (S_callV (some 35) [(9, _), (2009, _)] [] (vs := [_]) rfl en13 rfl (VN (by simp) rfl View.all (VN (by simp) rfl (View.sub (j := (((((((((0 + 2) + 32) + 1) + ns) + 2) + (2 * nu)) + 1) + 1) + 2)) (m := X.length) (by omega) (viewS (dropS (dropS (dropS (dropS (dropS (dropS (dropS (dropS (dropS List.drop_zero (beN_len _ _)) LN) (beN_len _ _)) LN) (beN_len _ _)) LN) (beN_len _ _)) LN) (beN_len _ _)))) V0)) (by simp) (k_Done2 (br := b9) (bl := bb9) (cr := e33) (q := (((((((((0 + 2) + 32) + 1) + ns) + 2) + (2 * nu)) + 1) + 1) + 2)) (Ar := B33) (l := X) (fun h => g33c (by omega)) LN) (by rintro _ _ ⟨rfl, rfl⟩; rfl) ?_)
 rintro _ _ ⟨rfl, rfl⟩
 refine At.p (some 7) (P_assign rfl rfl) ?_
 refine At.nil ?_
 refine At.next ?_
 refine At.seq ?_
 refine At.region ?_
 refine At.p (some 36) (P_move rfl rfl) ?_
 refine At.p (some 37) (P_cmp rfl rfl rfl rfl rfl rfl) ?_
 refine At.nil ?_
 refine At.next ?_
 refine At.cond rfl (fun h37 => ?_) (fun h37 => by simp at h37)
 have e37 : 2 ≠ 0 := bne_iff_ne.1 h37
 refine At.seq ?_
 refine At.region ?_
 refine At.p (some 38) (P_build_struct (cs := ([(List.replicate 32 0#8).map u8V, [.slice none 0 0, .slice none 0 0, .slice none 0 0, .slice none 0 0, .slice none 0 0, .slice none 0 0, .slice none 0 0, .slice none 0 0, .slice none 0 0, .slice none 0 0]].flatten).toArray) (parts := _) (vs := []) rfl Try.underlying29 ze29 pl29 rfl (by show Instr.fill _ ([(List.replicate 32 0#8).map u8V, [.slice none 0 0], [.slice none 0 0], [.slice none 0 0], [.slice none 0 0], [.slice none 0 0], [.slice none 0 0], [.slice none 0 0], [.slice none 0 0], [.slice none 0 0], [.slice none 0 0]].flatten).toArray _ = _; exact fill_end (by simp))) ?_
 refine At.p (some 39) (P_move rfl rfl) ?_
 refine At.s (S_storeA none (k := 2) (vs := [(List.replicate 32 0#8).map u8V, [.slice none 0 0, .slice none 0 0, .slice none 0 0, .slice none 0 0, .slice none 0 0, .slice none 0 0, .slice none 0 0, .slice none 0 0, .slice none 0 0, .slice none 0 0]].flatten) rfl rfl rfl (by rw [sz29]; exact congrArg some LN) rfl (one_flatc (one_map (fun _ => rfl)) (one_flatc (one_cons rfl (one_cons rfl (one_cons rfl (one_cons rfl (one_cons rfl (one_cons rfl (one_cons rfl (one_cons rfl (one_cons rfl (one_cons rfl one_nil)))))))))) one_flat0)) NG rfl LN ?_)
 refine At.p (some 3) (P_assign rfl rfl) ?_
 refine At.nil ?_
 refine At.next ?_
 refine At.ret ?_
 refine At.thn_r ?_
 refine At.giveV (.inl rfl) [] (rows' := []) (ResV.two rfl (ResOne.cellA (k := 2) rfl Try.underlying29 rfl sz29 LN rfl) (ResOne.tmp rfl)) rfl (by simp) (by simp) ⟨rfl, rfl⟩

set_option maxHeartbeats 2000000 in
theorem k_Take {x : List (BitVec 8)} {m : Nat} {Ab : Option Addr} {nb cb bb qb : Nat} (hx : x.length = m) (hnb : (beN 1 1 ++ (beN 3 m ++ (x ++ ([] : List (BitVec 8))))).length = nb) (hAb : 0 < nb → Ab = some ⟨bb, qb, none⟩) (hm : m ≤ 2048) (hb1 : 4 ≤ nb) (hb6 : nb ≤ 100000) :
  Con Try.prog 11 [.slice Ab nb cb] [pRow bb qb (beN 1 1 ++ (beN 3 m ++ (x ++ ([] : List (BitVec 8)))))] (fun v rs => ∃ A1 b1 c1 A2 b2 c2, (0 < c1 → A1 = some ⟨b1, 0, none⟩) ∧ x.length ≤ c1 ∧ (0 < c2 → A2 = some ⟨b2, 0, none⟩) ∧ v = .tuple #[.agg [iV 1, .slice A1 x.length c1].toArray, .slice A2 0 c2, .bool true, iV 0] ∧ rs = [⟨true, b1, 0, 5, x.map u8V, c1 - x.length⟩, ⟨true, b2, 0, 5, [], c2⟩]) := by
 refine Con.enter Try.func11 Try.ntmps11 (Nat.le_of_ble_eq_true rfl) rfl fun w => ?_
 refine At.seq ?_
 refine At.region ?_
 refine At.s (S_alloc (some 2) 2 (zs := [iV 0, .slice none 0 0]) rfl ze36 rfl (fun b2 => ?_))
 refine At.p (some 3) (P_assign rfl rfl) ?_
 refine At.p (some 4) (P_assign rfl rfl) ?_
 refine At.p (some 5) (P_assign rfl rfl) ?_
 refine At.nil ?_
 refine At.next ?_
 refine At.seq ?_
 refine At.region ?_
 refine At.p (some 11) (P_move rfl rfl) ?_
 refine At.s (S_callV (some 12) [(0, _)] [12] (vs := [_]) rfl en38 rfl (VN (by simp) rfl View.all V0) (by simp) (c_BClone (b := (beN 1 1 ++ (beN 3 m ++ (x ++ ([] : List (BitVec 8)))))) (nb := nb) (Ab := Ab) (cb := cb) (bb := bb) (qb := qb) LN hAb OG) (by rintro _ _ ⟨A12, b12, c12, g12a, g12b, rfl, rfl⟩; rfl) ?_)
 rintro _ _ ⟨A12, b12, c12, g12a, g12b, rfl, rfl⟩
 refine At.p (some 6) (P_assign rfl rfl) ?_
 refine At.nil ?_
 refine At.next ?_
 refine At.seq ?_
 refine At.seq ?_
 refine At.region ?_
 refine At.p (some 13) (P_move rfl rfl) ?_
 refine At.p (some 14) (P_len_sl rfl rfl ⟨_, Try.underlying23⟩ rfl) ?_
 refine At.p (some 15) (P_cmp rfl rfl rfl rfl rfl rfl) ?_
 refine At.nil ?_
 refine At.next ?_
 refine At.cond rfl (fun h15 => by have := of_decide_eq_true h15; omega) (fun h15 => ?_)
 have e15 : ¬ (nb : Int) < 4 := of_decide_eq_false h15
 refine At.skip ?_
 refine At.next ?_
 refine At.seq ?_
 refine At.region ?_
 refine At.p (some 18) (P_move rfl rfl) ?_
 refine At.s (S_callV (some 19) [(0, _)] [19, 2019] (vs := [_]) rfl en9 rfl (VN (by simp) rfl View.all V0) (by simp) (k_New (b := (beN 1 1 ++ (beN 3 m ++ (x ++ ([] : List (BitVec 8)))))) (Ab := Ab) (nb := nb) (cb := cb) (bb := bb) (qb := qb) LN hAb LN) (by rintro _ _ ⟨b19, bb19, A19, c19, g19a, g19b, rfl, rfl⟩; rfl) ?_)
 rintro _ _ ⟨b19, bb19, A19, c19, g19a, g19b, rfl, rfl⟩
 refine At.p (some 7) (P_assign rfl rfl) ?_
 refine At.nil ?_
 refine At.next ?_
 refine At.seq ?_
 refine At.region ?_
 refine At.p (some 20) (P_move rfl rfl) ?_
 refine At.s (S_callR (some 21) [(19, _)] [(2019, _)] [19] (vs := [_, _]) rfl en39 rfl (ON rfl rfl O0) (by simp) (VN (by simp) rfl (View.sub (j := 0) (m := (beN 1 1 ++ (beN 3 m ++ (x ++ ([] : List (BitVec 8))))).length) (by omega) (viewS List.drop_zero)) V0) (by simp) (k_UintN (br := b19) (bl := bb19) (cr := c19) (q := 0) (Ar := A19) (w := 1) (m := 1) (rest := (beN 3 m ++ (x ++ ([] : List (BitVec 8))))) (beI_beN1 LN) (by decide) (by decide) (fun h => g19a (by omega)) LN) (by rintro _ _ ⟨B21, e21, g21c, g21d, rfl, rfl⟩; rfl) ?_)
 rintro _ _ ⟨B21, e21, g21c, g21d, rfl, rfl⟩
 refine At.p (some 22) (P_move rfl rfl) ?_
 refine At.s (S_callR (some 23) [(19, _)] [(2019, _)] [19] (vs := [_, _]) rfl en39 rfl (ON rfl rfl O0) (by simp) (VN (by simp) rfl (View.sub (j := (0 + 1)) (m := (beN 3 m ++ (x ++ ([] : List (BitVec 8)))).length) (by omega) (viewS (dropS List.drop_zero (beN_len _ _)))) V0) (by simp) (k_UintN (br := b19) (bl := bb19) (cr := e21) (q := (0 + 1)) (Ar := B21) (w := 3) (m := m) (rest := (x ++ ([] : List (BitVec 8)))) (beI_beN3 LN) (by decide) (by decide) (fun h => g21c (by omega)) LN) (by rintro _ _ ⟨B23, e23, g23c, g23d, rfl, rfl⟩; rfl) ?_)
 rintro _ _ ⟨B23, e23, g23c, g23d, rfl, rfl⟩
 refine At.p (some 8) (P_assign rfl rfl) ?_
 refine At.p (some 9) (P_assign rfl rfl) ?_
 refine At.nil ?_
 refine At.next ?_
 refine At.seq ?_
 refine At.block ?_
 refine At.seq ?_
 refine At.region ?_
 refine At.p (some 25) (P_move rfl rfl) ?_
 refine At.p (some 26) (P_cmp rfl rfl rfl rfl rfl rfl) ?_
 refine At.p (some 24) (P_assign rfl rfl) ?_
 refine At.nil ?_
 refine At.next ?_
 refine At.cond rfl (fun h24 => by exfalso; have e9 : (m : Int) > 2048 := of_decide_eq_true h24; first | omega | (simp at e9; done) | (simp at e9; omega)) (fun h24 => ?_)
 have e24 : ¬ (m : Int) > 2048 := of_decide_eq_false h24
 refine At.seq ?_
 refine At.region ?_
 refine At.p (some 29) (P_move rfl rfl) ?_
 refine At.p (some 30) (P_move rfl rfl) ?_
 refine At.s (S_callV (some 31) [(19, _), (2019, _)] [] (vs := [_]) rfl en42 rfl (VN (by simp) rfl View.all (VN (by simp) rfl (View.sub (j := ((0 + 1) + 3)) (m := (x ++ ([] : List (BitVec 8))).length) (by omega) (viewS (dropS (dropS List.drop_zero (beN_len _ _)) (beN_len _ _)))) V0)) (by simp) (k_Left (br := b19) (bl := bb19) (cr := e23) (q := ((0 + 1) + 3)) (Ar := B23) (l := (x ++ ([] : List (BitVec 8)))) (fun h => g23c (by omega)) LN) (by rintro _ _ ⟨rfl, rfl⟩; rfl) ?_)
 rintro _ _ ⟨rfl, rfl⟩
 refine At.p (some 32) (P_cmp rfl rfl rfl rfl rfl rfl) ?_
 refine At.p (some 28) (P_assign rfl rfl) ?_
 refine At.nil ?_
 refine At.next ?_
 refine At.cond rfl (fun h28 => by exfalso; have e9 : (m : Int) > ((x ++ ([] : List (BitVec 8))).length : Int) := of_decide_eq_true h28; first | omega | (simp at e9; done) | (simp at e9; omega)) (fun h28 => ?_)
 have e28 : ¬ (m : Int) > ((x ++ ([] : List (BitVec 8))).length : Int) := of_decide_eq_false h28
 refine At.skip ?_
 refine At.inb_n ?_
 refine At.next ?_
 refine At.seq ?_
 refine At.region ?_
 refine At.p (some 35) (P_move rfl rfl) ?_
 refine At.p (some 36) (P_move rfl rfl) ?_
 refine At.s (S_callR (some 37) [(19, _)] [(2019, _)] [19, 37] (vs := [_, _]) rfl en43 rfl (ON rfl rfl O0) (by simp) (VN (by simp) rfl (View.sub (j := ((0 + 1) + 3)) (m := (x ++ ([] : List (BitVec 8))).length) (by omega) (viewS (dropS (dropS List.drop_zero (beN_len _ _)) (beN_len _ _)))) V0) (by simp) (k_BytesA (br := b19) (bl := bb19) (cr := e23) (q := ((0 + 1) + 3)) (Ar := B23) (a := x) (rest := ([] : List (BitVec 8))) (n := m) LN LN (fun h => g23c (by omega)) LN) (by rintro _ _ ⟨B37, e37, A37, b37, c37, g37c, g37d, g37a, g37b, rfl, rfl⟩; rfl) ?_)
 rintro _ _ ⟨B37, e37, A37, b37, c37, g37c, g37d, g37a, g37b, rfl, rfl⟩
 refine At.p (some 10) (P_assign rfl rfl) ?_
 refine At.nil ?_
 refine At.next ?_
 refine At.seq ?_
 refine At.region ?_
 refine At.p (some 38) (P_move rfl rfl) ?_
 refine At.p (some 39) (P_move rfl rfl) ?_
 refine At.p (some 40) (P_build_struct (parts := _) (vs := [(0, _), (1, _)]) rfl Try.underlying36 ze36 pl36 rfl rfl) ?_
 refine At.p (some 41) (P_move rfl rfl) ?_
 refine At.p (some 42) (P_move rfl rfl) ?_
 refine At.s (S_callV (some 43) [(19, _), (2019, _)] [] (vs := [_]) rfl en42 rfl (VN (by simp) rfl View.all (VN (by simp) rfl (View.sub (j := (((0 + 1) + 3) + m)) (m := ([] : List (BitVec 8)).length) (by omega) (viewS (dropS (dropS (dropS List.drop_zero (beN_len _ _)) (beN_len _ _)) LN))) V0)) (by simp) (k_Left (br := b19) (bl := bb19) (cr := e37) (q := (((0 + 1) + 3) + m)) (Ar := B37) (l := ([] : List (BitVec 8))) (fun h => g37c (by omega)) LN) (by rintro _ _ ⟨rfl, rfl⟩; rfl) ?_)
 rintro _ _ ⟨rfl, rfl⟩
 refine At.s (S_callR (some 44) [(19, _)] [(2019, _)] [19, 44] (vs := [_, _]) rfl en43 rfl (ON rfl rfl O0) (by simp) (VN (by simp) rfl (View.sub (j := (((0 + 1) + 3) + m)) (m := ([] : List (BitVec 8)).length) (by omega) (viewS (dropS (dropS (dropS List.drop_zero (beN_len _ _)) (beN_len _ _)) LN))) V0) (by simp) (k_BytesA (br := b19) (bl := bb19) (cr := e37) (q := (((0 + 1) + 3) + m)) (Ar := B37) (a := ([] : List (BitVec 8))) (rest := ([] : List (BitVec 8))) (n := ([] : List (BitVec 8)).length) LN LN (fun h => absurd h (Nat.lt_irrefl 0)) LN) (by rintro _ _ ⟨B44, e44, A44, b44, c44, g44c, g44d, g44a, g44b, rfl, rfl⟩; rfl) ?_)
 rintro _ _ ⟨B44, e44, A44, b44, c44, g44c, g44d, g44a, g44b, rfl, rfl⟩
 refine At.s (S_storeA none (k := 2) (vs := [iV 1, .slice A37 x.length c37]) rfl rfl rfl (by rw [sz36]; exact congrArg some LN) rfl (one_cons rfl (one_cons rfl one_nil)) NG rfl LN ?_)
 refine At.p (some 3) (P_assign rfl rfl) ?_
 refine At.p (some 4) (P_assign rfl rfl) ?_
 refine At.p (some 5) (P_assign rfl rfl) ?_
 refine At.nil ?_
 refine At.next ?_
 refine At.ret ?_
 refine At.giveV (.inl rfl) [37, 44] (rows' := [_, _]) (ResV.cttt rfl (ResOne.cellA (k := 2) rfl Try.underlying36 rfl sz36 LN rfl) (ResOne.tmp rfl) (ResOne.tmp rfl) (ResOne.tmp rfl)) rfl (by simp) (by simp) ⟨A37, b37, c37, A44, b44, c44, g37a, g37b, g44a, rfl, rfl⟩


end Go.Proofs.Ytcjfkmhijfcciaa

