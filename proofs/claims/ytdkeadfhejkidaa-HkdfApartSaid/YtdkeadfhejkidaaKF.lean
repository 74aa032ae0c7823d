import Derived.Test.YtdkeadfhejkidaaKE
namespace Go.Proofs.Ytdkeadfhejkidaa
set_option maxRecDepth 20000
set_option linter.unusedVariables false
set_option linter.unusedSimpArgs false
open Go.SE Go.RowKit
set_option maxHeartbeats 4000000 in
theorem l_Apart (key l cx : List (BitVec 8)) (A : Option Addr) (ca bq q : Nat) (hkey : key.length = 32) (hA : 0 < cx.length → A = some ⟨bq, q, none⟩) (hca : cx.length ≤ ca) (hll : l.length ≤ 9223372036854775807) :
    Con Try.prog 13 [aggK key, strV l, .slice A cx.length ca] [pRow bq q cx] (fun v rs => v = .bool true ∧ rs = []) := by
  refine Con.enter Try.func13 Try.ntmps13 (Nat.le_of_ble_eq_true rfl) rfl fun w => ?_
  refine At.seq ?_
  have hk32 : key.length = 32 := hkey
  obtain ⟨n1, hn1⟩ : ∃ n, n = min l.length 40 := ⟨_, rfl⟩
  have hl2 : (l.take n1).length = n1 := by simp; omega
  obtain ⟨nc, hnc⟩ : ∃ n, n = min cx.length 40 := ⟨_, rfl⟩
  have hc2 : (cx.take nc).length = nc := by simp; omega
  have hc3 : (cx.take nc ++ [0#8]).length = nc + 1 := by simp; omega
  refine At.region ?_
  refine At.s (S_box (some 3) 3 (zs := key.map u8V) rfl rfl rfl (fun b3 => ?_))
  refine At.p (some 6) (P_assign rfl rfl) ?_
  refine At.nil ?_
  refine At.next ?_
  refine At.seq ?_
  refine At.draws 12 [] [.q false [0, 1, 2, 3, 4, 5, 6, 7, 8, 9, 10, 11]] (by kernel_rfl) (by kernel_rfl) ?_
  refine At.wp (some 23) (P_move rfl rfl) ?_
  refine At.wp (some 24) (P_move rfl rfl) ?_
  refine At.wp (some 25) (P_len_strV rfl rfl Try.underlying9 rfl) ?_
  refine At.wp (some 26) (P_min2 rfl rfl rfl rfl) ?_
  refine At.wp (some 27) (P_slice_strV (h := n1) rfl Try.underlying9 rfl ⟨_, _, rfl, by omega⟩ (by omega)) ?_
  refine At.wp (some 28) (P_add_str (a := [97#8]) rfl rfl rfl (by simp; omega)) ?_
  refine At.wp (some 29) (P_move rfl rfl) ?_
  refine At.wp (some 30) (P_move rfl rfl) ?_
  refine At.wp (some 31) (P_len_sl rfl rfl ⟨_, Try.underlying22⟩ rfl) ?_
  refine At.wp (some 32) (P_min2 rfl rfl rfl rfl) ?_
  refine At.wp (some 33) (P_slice_sl (h := nc) rfl Try.underlying22 sz5 rfl rfl ⟨_, _, rfl, by omega⟩ rfl (by omega) (by omega) (by omega)) ?_
  refine At.wp (some 1) (P_assign rfl rfl) ?_
  refine At.wqn ?_
  refine At.wt rfl ?_
  refine At.p (some 2) (P_assign rfl rfl) ?_
  refine At.nil ?_
  refine At.next ?_
  refine At.seq ?_
  refine At.region ?_
  refine At.q (some 35) (Q_loadA (k := 3) rfl rfl Try.underlying25 rfl sz25 (by first | omega | (simp <;> omega)) rfl) ?_
  refine At.p (some 36) (P_move rfl rfl) ?_
  refine At.p (some 37) (P_move rfl rfl) ?_
  refine At.s (S_callV (some 38) [(0, _)] [7] (vs := [_, _, _, _]) rfl en24 rfl (VN (by simp) rfl (View.sub (j := 0) (m := nc) rfl rfl) V0) (by simp) (c_Label (key := key) (lb := ([97#8] ++ l.take n1)) (cx := (cx.take nc)) (nc := nc) 32 hc2 hkey (by decide) (by simp) (by simp; omega) (by omega) (fun h => cut_zero (hA (by omega)))) (by rintro _ _ ⟨A7, b7, c7, r7, m7, g7a, g7b, rfl, rfl⟩; rfl) ?_)
  rintro _ _ ⟨A7, b7, c7, r7, m7, g7a, g7b, rfl, rfl⟩
  refine At.p (some 34) (P_move rfl rfl) ?_
  refine At.p (some 39) (P_extract rfl rfl rfl) ?_
  refine At.p (some 40) (P_extract rfl rfl rfl) ?_
  refine At.p (some 7) (P_assign rfl rfl) ?_
  refine At.p (some 8) (P_assign rfl rfl) ?_
  refine At.nil ?_
  refine At.next ?_
  refine At.seq ?_
  refine At.region ?_
  refine At.q (some 42) (Q_loadA (k := 3) rfl rfl Try.underlying25 rfl sz25 (by first | omega | (simp <;> omega)) rfl) ?_
  refine At.p (some 43) (P_move rfl rfl) ?_
  refine At.p (some 44) (P_add_str (b := [98#8]) rfl rfl rfl (by simp; omega)) ?_
  refine At.p (some 45) (P_move rfl rfl) ?_
  refine At.s (S_callV (some 46) [(0, _)] [9] (vs := [_, _, _, _]) rfl en24 rfl (VN (by simp) rfl (View.sub (j := 0) (m := nc) rfl rfl) V0) (by simp) (c_Label (key := key) (lb := ([97#8] ++ l.take n1 ++ [98#8])) (cx := (cx.take nc)) (nc := nc) 32 hc2 hkey (by decide) (by simp) (by simp; omega) (by omega) (fun h => cut_zero (hA (by omega)))) (by rintro _ _ ⟨A9, b9, c9, r9, m9, g9a, g9b, rfl, rfl⟩; rfl) ?_)
  rintro _ _ ⟨A9, b9, c9, r9, m9, g9a, g9b, rfl, rfl⟩
  refine At.p (some 41) (P_move rfl rfl) ?_
  refine At.p (some 47) (P_extract rfl rfl rfl) ?_
  refine At.p (some 48) (P_extract rfl rfl rfl) ?_
  refine At.p (some 9) (P_assign rfl rfl) ?_
  refine At.p (some 10) (P_assign rfl rfl) ?_
  refine At.nil ?_
  refine At.next ?_
  refine At.seq ?_
  refine At.eBrute (fun fr H => ∃ (A11 : Option Addr) (b11 c11 r11 : Nat) (m11 : List (BitVec 8)), fr = frOf [(1, strV ([97#8] ++ l.take n1)), (2, .slice (cut A 0 ca 1) nc ca), (3, ptr b3 0), (7, .slice A7 32 c7), (8, iV 0), (9, .slice A9 32 c9), (10, iV 0), (11, .slice A11 32 c11), (12, iV 0)] ∧ H = hOf [(0, pRow bq q cx), (3, ⟨true, b3, 0, 25, key.map u8V, 0⟩), (7, ⟨true, b7, 0, 5, ((labS key ([97#8] ++ l.take n1) (cx.take nc) 32) ++ m7).map u8V, r7⟩), (9, ⟨true, b9, 0, 5, ((labS key ([97#8] ++ l.take n1 ++ [98#8]) (cx.take nc) 32) ++ m9).map u8V, r9⟩), (11, ⟨true, b11, 0, 5, ((labS key ([97#8] ++ l.take n1) (cx.take nc ++ [0#8]) 32) ++ m11).map u8V, r11⟩)] ∧ (0 < 32 → A11 = some ⟨b11, 0, none⟩) ∧ 32 ≤ c11) (by kernel_rfl) ?_ ?_
  · intro Kb hKb
    refine At.eP 1 (some 51) (P_move rfl rfl) (by kernel_rfl) (by kernel_rfl) ?_
    refine At.eP 3 (some 53) (P_move rfl rfl) (by kernel_rfl) (by kernel_rfl) ?_
    refine At.eStep [0, 2, 5] (by kernel_rfl) (by simp) ?_
    refine ⟨?_, ?_, ?_⟩
    ·
      refine At.anyQ (some 50) (Q_loadA (k := 3) rfl rfl Try.underlying25 rfl sz25 (by first | omega | (simp <;> omega)) rfl) ?_
      refine At.eStep [2, 5] (by kernel_rfl) (by simp) ?_
      refine ⟨?_, ?_⟩
      ·
        refine At.anyS (S_buildSlice0 (some 52) 54 rfl Try.underlying22 sz5 (fun b54 => ?_))
        refine At.eStep [4, 5] (by kernel_rfl) (by simp) ?_
        refine ⟨?_, ?_⟩
        ·
          refine At.anyS (S_appendM (some 54) 54 ((cx.take nc)) (f := u8V) (l := []) (L := (cx.take nc)) rfl Try.underlying22 Try.underlying22 (.inr ⟨_, rfl⟩) sz5 by5 ze5 rfl rfl (fun h => ⟨absurd h (by omega), rfl⟩) rfl rfl (Src.row (k := 0) (j := 0) rfl (fun h => cut_zero (hA (by omega))) (fun _ => ⟨rfl, rfl, rfl⟩) (by simp [pRow, List.map_take]) (by simp; omega)) (fun _ => rfl) (by omega) (by omega) rfl hc2 ?_)
          intro A54 b54 c54 g54a g54b
          refine At.eStep [5] (by kernel_rfl) (by simp) ?_
          refine At.anyS (S_buildSliceV (some 55) 55 ([0#8].map u8V) rfl Try.underlying22 sz5 ze5 rfl rfl (by decide) (by decide) rfl rfl (fun b55 => ?_))
          refine At.eStep [6] (by kernel_rfl) (by simp) ?_
          refine At.anyS (S_appendM (some 56) 54 ((cx.take nc ++ [0#8])) (f := u8V) (l := (cx.take nc)) (L := [0#8]) rfl Try.underlying22 Try.underlying22 (.inr ⟨_, rfl⟩) sz5 by5 ze5 rfl rfl (fun h => ⟨g54a h, rfl⟩) rfl (by omega) (Src.row (k := 55) (j := 0) rfl (fun _ => rfl) (fun _ => ⟨rfl, rfl, rfl⟩) rfl rfl) (fun _ => rfl) (by omega) (by omega) rfl rfl ?_)
          intro A56 b56 c56 g56a g56b
          refine At.eStep [7] (by kernel_rfl) (by simp) ?_
          refine At.anyS (S_callV (some 57) [(54, _)] [11] (vs := [_, _, _, _]) rfl en24 rfl (VN (by simp) rfl View.all V0) (by simp) (c_Label (key := key) (lb := ([97#8] ++ l.take n1)) (cx := (cx.take nc ++ [0#8])) (nc := (cx.take nc ++ [0#8]).length) 32 rfl hkey (by decide) (by simp) (by simp; omega) (by omega) (fun h => g56a (by omega))) (by rintro _ _ ⟨A11, b11, c11, r11, m11, g11a, g11b, rfl, rfl⟩; rfl) ?_)
          rintro _ _ ⟨A11, b11, c11, r11, m11, g11a, g11b, rfl, rfl⟩
          refine At.eP 8 (some 49) (P_move rfl rfl) (by kernel_rfl) (by kernel_rfl) ?_
          refine At.eP 9 (some 58) (P_extract rfl rfl rfl) (by kernel_rfl) (by kernel_rfl) ?_
          refine At.eP 10 (some 59) (P_extract rfl rfl rfl) (by kernel_rfl) (by kernel_rfl) ?_
          refine At.eP 11 (some 11) (P_assign rfl rfl) (by kernel_rfl) (by kernel_rfl) ?_
          refine At.eP 12 (some 12) (P_assign rfl rfl) (by kernel_rfl) (by kernel_rfl) ?_
          refine At.eEnd (by kernel_rfl) ?_
          refine At.next ?_
          refine At.to [(1, _), (2, _), (3, _), (7, _), (8, _), (9, _), (10, _), (11, _), (12, _)] [(0, _), (3, _), (7, _), (9, _), (11, _)] (AllL.cons_ (rfl) (AllL.cons_ (rfl) (AllL.cons_ (rfl) (AllL.cons_ (rfl) (AllL.cons_ (rfl) (AllL.cons_ (rfl) (AllL.cons_ (rfl) (AllL.cons_ (rfl) (AllL.cons_ (rfl) trivial))))))))) (AllL.cons_ (rfl) (AllL.cons_ (rfl) (AllL.cons_ (rfl) (AllL.cons_ (rfl) (AllL.cons_ (rfl) trivial))))) ?_
          exact hKb _ _ ⟨_, _, _, _, _, rfl, rfl, g11a, g11b⟩
        ·
          refine At.anyS (S_buildSliceV (some 55) 55 ([0#8].map u8V) rfl Try.underlying22 sz5 ze5 rfl rfl (by decide) (by decide) rfl rfl (fun b55 => ?_))
          refine At.eStep [4] (by kernel_rfl) (by simp) ?_
          refine At.anyS (S_appendM (some 54) 54 ((cx.take nc)) (f := u8V) (l := []) (L := (cx.take nc)) rfl Try.underlying22 Try.underlying22 (.inr ⟨_, rfl⟩) sz5 by5 ze5 rfl rfl (fun h => ⟨absurd h (by omega), rfl⟩) rfl rfl (Src.row (k := 0) (j := 0) rfl (fun h => cut_zero (hA (by omega))) (fun _ => ⟨rfl, rfl, rfl⟩) (by simp [pRow, List.map_take]) (by simp; omega)) (fun _ => rfl) (by omega) (by omega) rfl hc2 ?_)
          intro A54 b54 c54 g54a g54b
          refine At.eStep [6] (by kernel_rfl) (by simp) ?_
          refine At.anyS (S_appendM (some 56) 54 ((cx.take nc ++ [0#8])) (f := u8V) (l := (cx.take nc)) (L := [0#8]) rfl Try.underlying22 Try.underlying22 (.inr ⟨_, rfl⟩) sz5 by5 ze5 rfl rfl (fun h => ⟨g54a h, rfl⟩) rfl (by omega) (Src.row (k := 55) (j := 0) rfl (fun _ => rfl) (fun _ => ⟨rfl, rfl, rfl⟩) rfl rfl) (fun _ => rfl) (by omega) (by omega) rfl rfl ?_)
          intro A56 b56 c56 g56a g56b
          refine At.eStep [7] (by kernel_rfl) (by simp) ?_
          refine At.anyS (S_callV (some 57) [(54, _)] [11] (vs := [_, _, _, _]) rfl en24 rfl (VN (by simp) rfl View.all V0) (by simp) (c_Label (key := key) (lb := ([97#8] ++ l.take n1)) (cx := (cx.take nc ++ [0#8])) (nc := (cx.take nc ++ [0#8]).length) 32 rfl hkey (by decide) (by simp) (by simp; omega) (by omega) (fun h => g56a (by omega))) (by rintro _ _ ⟨A11, b11, c11, r11, m11, g11a, g11b, rfl, rfl⟩; rfl) ?_)
          rintro _ _ ⟨A11, b11, c11, r11, m11, g11a, g11b, rfl, rfl⟩
          refine At.eP 8 (some 49) (P_move rfl rfl) (by kernel_rfl) (by kernel_rfl) ?_
          refine At.eP 9 (some 58) (P_extract rfl rfl rfl) (by kernel_rfl) (by kernel_rfl) ?_
          refine At.eP 10 (some 59) (P_extract rfl rfl rfl) (by kernel_rfl) (by kernel_rfl) ?_
          refine At.eP 11 (some 11) (P_assign rfl rfl) (by kernel_rfl) (by kernel_rfl) ?_
          refine At.eP 12 (some 12) (P_assign rfl rfl) (by kernel_rfl) (by kernel_rfl) ?_
          refine At.eEnd (by kernel_rfl) ?_
          refine At.next ?_
          refine At.to [(1, _), (2, _), (3, _), (7, _), (8, _), (9, _), (10, _), (11, _), (12, _)] [(0, _), (3, _), (7, _), (9, _), (11, _)] (AllL.cons_ (rfl) (AllL.cons_ (rfl) (AllL.cons_ (rfl) (AllL.cons_ (rfl) (AllL.cons_ (rfl) (AllL.cons_ (rfl) (AllL.cons_ (rfl) (AllL.cons_ (rfl) (AllL.cons_ (rfl) trivial))))))))) (AllL.cons_ (rfl) (AllL.cons_ (rfl) (AllL.cons_ (rfl) (AllL.cons_ (rfl) (AllL.cons_ (rfl) trivial))))) ?_
          exact hKb _ _ ⟨_, _, _, _, _, rfl, rfl, g11a, g11b⟩
      ·
        refine At.anyS (S_buildSliceV (some 55) 55 ([0#8].map u8V) rfl Try.underlying22 sz5 ze5 rfl rfl (by decide) (by decide) rfl rfl (fun b55 => ?_))
        refine At.eStep [2] (by kernel_rfl) (by simp) ?_
        refine At.anyS (S_buildSlice0 (some 52) 54 rfl Try.underlying22 sz5 (fun b54 => ?_))
        refine At.eStep [4] (by kernel_rfl) (by simp) ?_
        refine At.anyS (S_appendM (some 54) 54 ((cx.take nc)) (f := u8V) (l := []) (L := (cx.take nc)) rfl Try.underlying22 Try.underlying22 (.inr ⟨_, rfl⟩) sz5 by5 ze5 rfl rfl (fun h => ⟨absurd h (by omega), rfl⟩) rfl rfl (Src.row (k := 0) (j := 0) rfl (fun h => cut_zero (hA (by omega))) (fun _ => ⟨rfl, rfl, rfl⟩) (by simp [pRow, List.map_take]) (by simp; omega)) (fun _ => rfl) (by omega) (by omega) rfl hc2 ?_)
        intro A54 b54 c54 g54a g54b
        refine At.eStep [6] (by kernel_rfl) (by simp) ?_
        refine At.anyS (S_appendM (some 56) 54 ((cx.take nc ++ [0#8])) (f := u8V) (l := (cx.take nc)) (L := [0#8]) rfl Try.underlying22 Try.underlying22 (.inr ⟨_, rfl⟩) sz5 by5 ze5 rfl rfl (fun h => ⟨g54a h, rfl⟩) rfl (by omega) (Src.row (k := 55) (j := 0) rfl (fun _ => rfl) (fun _ => ⟨rfl, rfl, rfl⟩) rfl rfl) (fun _ => rfl) (by omega) (by omega) rfl rfl ?_)
        intro A56 b56 c56 g56a g56b
        refine At.eStep [7] (by kernel_rfl) (by simp) ?_
        refine At.anyS (S_callV (some 57) [(54, _)] [11] (vs := [_, _, _, _]) rfl en24 rfl (VN (by simp) rfl View.all V0) (by simp) (c_Label (key := key) (lb := ([97#8] ++ l.take n1)) (cx := (cx.take nc ++ [0#8])) (nc := (cx.take nc ++ [0#8]).length) 32 rfl hkey (by decide) (by simp) (by simp; omega) (by omega) (fun h => g56a (by omega))) (by rintro _ _ ⟨A11, b11, c11, r11, m11, g11a, g11b, rfl, rfl⟩; rfl) ?_)
        rintro _ _ ⟨A11, b11, c11, r11, m11, g11a, g11b, rfl, rfl⟩
        refine At.eP 8 (some 49) (P_move rfl rfl) (by kernel_rfl) (by kernel_rfl) ?_
        refine At.eP 9 (some 58) (P_extract rfl rfl rfl) (by kernel_rfl) (by kernel_rfl) ?_
        refine At.eP 10 (some 59) (P_extract rfl rfl rfl) (by kernel_rfl) (by kernel_rfl) ?_
        refine At.eP 11 (some 11) (P_assign rfl rfl) (by kernel_rfl) (by kernel_rfl) ?_
        refine At.eP 12 (some 12) (P_assign rfl rfl) (by kernel_rfl) (by kernel_rfl) ?_
        refine At.eEnd (by kernel_rfl) ?_
        refine At.next ?_
        refine At.to [(1, _), (2, _), (3, _), (7, _), (8, _), (9, _), (10, _), (11, _), (12, _)] [(0, _), (3, _), (7, _), (9, _), (11, _)] (AllL.cons_ (rfl) (AllL.cons_ (rfl) (AllL.cons_ (rfl) (AllL.cons_ (rfl) (AllL.cons_ (rfl) (AllL.cons_ (rfl) (AllL.cons_ (rfl) (AllL.cons_ (rfl) (AllL.cons_ (rfl) trivial))))))))) (AllL.cons_ (rfl) (AllL.cons_ (rfl) (AllL.cons_ (rfl) (AllL.cons_ (rfl) (AllL.cons_ (rfl) trivial))))) ?_
        exact hKb _ _ ⟨_, _, _, _, _, rfl, rfl, g11a, g11b⟩
    ·
      refine At.anyS (S_buildSlice0 (some 52) 54 rfl Try.underlying22 sz5 (fun b54 => ?_))
      refine At.eStep [0, 4, 5] (by kernel_rfl) (by simp) ?_
      refine ⟨?_, ?_, ?_⟩
      ·
        refine At.anyQ (some 50) (Q_loadA (k := 3) rfl rfl Try.underlying25 rfl sz25 (by first | omega | (simp <;> omega)) rfl) ?_
        refine At.eStep [4, 5] (by kernel_rfl) (by simp) ?_
        refine ⟨?_, ?_⟩
        ·
          refine At.anyS (S_appendM (some 54) 54 ((cx.take nc)) (f := u8V) (l := []) (L := (cx.take nc)) rfl Try.underlying22 Try.underlying22 (.inr ⟨_, rfl⟩) sz5 by5 ze5 rfl rfl (fun h => ⟨absurd h (by omega), rfl⟩) rfl rfl (Src.row (k := 0) (j := 0) rfl (fun h => cut_zero (hA (by omega))) (fun _ => ⟨rfl, rfl, rfl⟩) (by simp [pRow, List.map_take]) (by simp; omega)) (fun _ => rfl) (by omega) (by omega) rfl hc2 ?_)
          intro A54 b54 c54 g54a g54b
          refine At.eStep [5] (by kernel_rfl) (by simp) ?_
          refine At.anyS (S_buildSliceV (some 55) 55 ([0#8].map u8V) rfl Try.underlying22 sz5 ze5 rfl rfl (by decide) (by decide) rfl rfl (fun b55 => ?_))
          refine At.eStep [6] (by kernel_rfl) (by simp) ?_
          refine At.anyS (S_appendM (some 56) 54 ((cx.take nc ++ [0#8])) (f := u8V) (l := (cx.take nc)) (L := [0#8]) rfl Try.underlying22 Try.underlying22 (.inr ⟨_, rfl⟩) sz5 by5 ze5 rfl rfl (fun h => ⟨g54a h, rfl⟩) rfl (by omega) (Src.row (k := 55) (j := 0) rfl (fun _ => rfl) (fun _ => ⟨rfl, rfl, rfl⟩) rfl rfl) (fun _ => rfl) (by omega) (by omega) rfl rfl ?_)
          intro A56 b56 c56 g56a g56b
          refine At.eStep [7] (by kernel_rfl) (by simp) ?_
          refine At.anyS (S_callV (some 57) [(54, _)] [11] (vs := [_, _, _, _]) rfl en24 rfl (VN (by simp) rfl View.all V0) (by simp) (c_Label (key := key) (lb := ([97#8] ++ l.take n1)) (cx := (cx.take nc ++ [0#8])) (nc := (cx.take nc ++ [0#8]).length) 32 rfl hkey (by decide) (by simp) (by simp; omega) (by omega) (fun h => g56a (by omega))) (by rintro _ _ ⟨A11, b11, c11, r11, m11, g11a, g11b, rfl, rfl⟩; rfl) ?_)
          rintro _ _ ⟨A11, b11, c11, r11, m11, g11a, g11b, rfl, rfl⟩
          refine At.eP 8 (some 49) (P_move rfl rfl) (by kernel_rfl) (by kernel_rfl) ?_
          refine At.eP 9 (some 58) (P_extract rfl rfl rfl) (by kernel_rfl) (by kernel_rfl) ?_
          refine At.eP 10 (some 59) (P_extract rfl rfl rfl) (by kernel_rfl) (by kernel_rfl) ?_
          refine At.eP 11 (some 11) (P_assign rfl rfl) (by kernel_rfl) (by kernel_rfl) ?_
          refine At.eP 12 (some 12) (P_assign rfl rfl) (by kernel_rfl) (by kernel_rfl) ?_
          refine At.eEnd (by kernel_rfl) ?_
          refine At.next ?_
          refine At.to [(1, _), (2, _), (3, _), (7, _), (8, _), (9, _), (10, _), (11, _), (12, _)] [(0, _), (3, _), (7, _), (9, _), (11, _)] (AllL.cons_ (rfl) (AllL.cons_ (rfl) (AllL.cons_ (rfl) (AllL.cons_ (rfl) (AllL.cons_ (rfl) (AllL.cons_ (rfl) (AllL.cons_ (rfl) (AllL.cons_ (rfl) (AllL.cons_ (rfl) trivial))))))))) (AllL.cons_ (rfl) (AllL.cons_ (rfl) (AllL.cons_ (rfl) (AllL.cons_ (rfl) (AllL.cons_ (rfl) trivial))))) ?_
          exact hKb _ _ ⟨_, _, _, _, _, rfl, rfl, g11a, g11b⟩
        ·
          refine At.anyS (S_buildSliceV (some 55) 55 ([0#8].map u8V) rfl Try.underlying22 sz5 ze5 rfl rfl (by decide) (by decide) rfl rfl (fun b55 => ?_))
          refine At.eStep [4] (by kernel_rfl) (by simp) ?_
          refine At.anyS (S_appendM (some 54) 54 ((cx.take nc)) (f := u8V) (l := []) (L := (cx.take nc)) rfl Try.underlying22 Try.underlying22 (.inr ⟨_, rfl⟩) sz5 by5 ze5 rfl rfl (fun h => ⟨absurd h (by omega), rfl⟩) rfl rfl (Src.row (k := 0) (j := 0) rfl (fun h => cut_zero (hA (by omega))) (fun _ => ⟨rfl, rfl, rfl⟩) (by simp [pRow, List.map_take]) (by simp; omega)) (fun _ => rfl) (by omega) (by omega) rfl hc2 ?_)
          intro A54 b54 c54 g54a g54b
          refine At.eStep [6] (by kernel_rfl) (by simp) ?_
          refine At.anyS (S_appendM (some 56) 54 ((cx.take nc ++ [0#8])) (f := u8V) (l := (cx.take nc)) (L := [0#8]) rfl Try.underlying22 Try.underlying22 (.inr ⟨_, rfl⟩) sz5 by5 ze5 rfl rfl (fun h => ⟨g54a h, rfl⟩) rfl (by omega) (Src.row (k := 55) (j := 0) rfl (fun _ => rfl) (fun _ => ⟨rfl, rfl, rfl⟩) rfl rfl) (fun _ => rfl) (by omega) (by omega) rfl rfl ?_)
          intro A56 b56 c56 g56a g56b
          refine At.eStep [7] (by kernel_rfl) (by simp) ?_
          refine At.anyS (S_callV (some 57) [(54, _)] [11] (vs := [_, _, _, _]) rfl en24 rfl (VN (by simp) rfl View.all V0) (by simp) (c_Label (key := key) (lb := ([97#8] ++ l.take n1)) (cx := (cx.take nc ++ [0#8])) (nc := (cx.take nc ++ [0#8]).length) 32 rfl hkey (by decide) (by simp) (by simp; omega) (by omega) (fun h => g56a (by omega))) (by rintro _ _ ⟨A11, b11, c11, r11, m11, g11a, g11b, rfl, rfl⟩; rfl) ?_)
          rintro _ _ ⟨A11, b11, c11, r11, m11, g11a, g11b, rfl, rfl⟩
          refine At.eP 8 (some 49) (P_move rfl rfl) (by kernel_rfl) (by kernel_rfl) ?_
          refine At.eP 9 (some 58) (P_extract rfl rfl rfl) (by kernel_rfl) (by kernel_rfl) ?_
          refine At.eP 10 (some 59) (P_extract rfl rfl rfl) (by kernel_rfl) (by kernel_rfl) ?_
          refine At.eP 11 (some 11) (P_assign rfl rfl) (by kernel_rfl) (by kernel_rfl) ?_
          refine At.eP 12 (some 12) (P_assign rfl rfl) (by kernel_rfl) (by kernel_rfl) ?_
          refine At.eEnd (by kernel_rfl) ?_
          refine At.next ?_
          refine At.to [(1, _), (2, _), (3, _), (7, _), (8, _), (9, _), (10, _), (11, _), (12, _)] [(0, _), (3, _), (7, _), (9, _), (11, _)] (AllL.cons_ (rfl) (AllL.cons_ (rfl) (AllL.cons_ (rfl) (AllL.cons_ (rfl) (AllL.cons_ (rfl) (AllL.cons_ (rfl) (AllL.cons_ (rfl) (AllL.cons_ (rfl) (AllL.cons_ (rfl) trivial))))))))) (AllL.cons_ (rfl) (AllL.cons_ (rfl) (AllL.cons_ (rfl) (AllL.cons_ (rfl) (AllL.cons_ (rfl) trivial))))) ?_
          exact hKb _ _ ⟨_, _, _, _, _, rfl, rfl, g11a, g11b⟩
      ·
        refine At.anyS (S_appendM (some 54) 54 ((cx.take nc)) (f := u8V) (l := []) (L := (cx.take nc)) rfl Try.underlying22 Try.underlying22 (.inr ⟨_, rfl⟩) sz5 by5 ze5 rfl rfl (fun h => ⟨absurd h (by omega), rfl⟩) rfl rfl (Src.row (k := 0) (j := 0) rfl (fun h => cut_zero (hA (by omega))) (fun _ => ⟨rfl, rfl, rfl⟩) (by simp [pRow, List.map_take]) (by simp; omega)) (fun _ => rfl) (by omega) (by omega) rfl hc2 ?_)
        intro A54 b54 c54 g54a g54b
        refine At.eStep [0, 5] (by kernel_rfl) (by simp) ?_
        refine ⟨?_, ?_⟩
        ·
          refine At.anyQ (some 50) (Q_loadA (k := 3) rfl rfl Try.underlying25 rfl sz25 (by first | omega | (simp <;> omega)) rfl) ?_
          refine At.eStep [5] (by kernel_rfl) (by simp) ?_
          refine At.anyS (S_buildSliceV (some 55) 55 ([0#8].map u8V) rfl Try.underlying22 sz5 ze5 rfl rfl (by decide) (by decide) rfl rfl (fun b55 => ?_))
          refine At.eStep [6] (by kernel_rfl) (by simp) ?_
          refine At.anyS (S_appendM (some 56) 54 ((cx.take nc ++ [0#8])) (f := u8V) (l := (cx.take nc)) (L := [0#8]) rfl Try.underlying22 Try.underlying22 (.inr ⟨_, rfl⟩) sz5 by5 ze5 rfl rfl (fun h => ⟨g54a h, rfl⟩) rfl (by omega) (Src.row (k := 55) (j := 0) rfl (fun _ => rfl) (fun _ => ⟨rfl, rfl, rfl⟩) rfl rfl) (fun _ => rfl) (by omega) (by omega) rfl rfl ?_)
          intro A56 b56 c56 g56a g56b
          refine At.eStep [7] (by kernel_rfl) (by simp) ?_
          refine At.anyS (S_callV (some 57) [(54, _)] [11] (vs := [_, _, _, _]) rfl en24 rfl (VN (by simp) rfl View.all V0) (by simp) (c_Label (key := key) (lb := ([97#8] ++ l.take n1)) (cx := (cx.take nc ++ [0#8])) (nc := (cx.take nc ++ [0#8]).length) 32 rfl hkey (by decide) (by simp) (by simp; omega) (by omega) (fun h => g56a (by omega))) (by rintro _ _ ⟨A11, b11, c11, r11, m11, g11a, g11b, rfl, rfl⟩; rfl) ?_)
          rintro _ _ ⟨A11, b11, c11, r11, m11, g11a, g11b, rfl, rfl⟩
          refine At.eP 8 (some 49) (P_move rfl rfl) (by kernel_rfl) (by kernel_rfl) ?_
          refine At.eP 9 (some 58) (P_extract rfl rfl rfl) (by kernel_rfl) (by kernel_rfl) ?_
          refine At.eP 10 (some 59) (P_extract rfl rfl rfl) (by kernel_rfl) (by kernel_rfl) ?_
          refine At.eP 11 (some 11) (P_assign rfl rfl) (by kernel_rfl) (by kernel_rfl) ?_
          refine At.eP 12 (some 12) (P_assign rfl rfl) (by kernel_rfl) (by kernel_rfl) ?_
          refine At.eEnd (by kernel_rfl) ?_
          refine At.next ?_
          refine At.to [(1, _), (2, _), (3, _), (7, _), (8, _), (9, _), (10, _), (11, _), (12, _)] [(0, _), (3, _), (7, _), (9, _), (11, _)] (AllL.cons_ (rfl) (AllL.cons_ (rfl) (AllL.cons_ (rfl) (AllL.cons_ (rfl) (AllL.cons_ (rfl) (AllL.cons_ (rfl) (AllL.cons_ (rfl) (AllL.cons_ (rfl) (AllL.cons_ (rfl) trivial))))))))) (AllL.cons_ (rfl) (AllL.cons_ (rfl) (AllL.cons_ (rfl) (AllL.cons_ (rfl) (AllL.cons_ (rfl) trivial))))) ?_
          exact hKb _ _ ⟨_, _, _, _, _, rfl, rfl, g11a, g11b⟩
        ·
          refine At.anyS (S_buildSliceV (some 55) 55 ([0#8].map u8V) rfl Try.underlying22 sz5 ze5 rfl rfl (by decide) (by decide) rfl rfl (fun b55 => ?_))
          refine At.eStep [0, 6] (by kernel_rfl) (by simp) ?_
          refine ⟨?_, ?_⟩
          ·
            refine At.anyQ (some 50) (Q_loadA (k := 3) rfl rfl Try.underlying25 rfl sz25 (by first | omega | (simp <;> omega)) rfl) ?_
            refine At.eStep [6] (by kernel_rfl) (by simp) ?_
            refine At.anyS (S_appendM (some 56) 54 ((cx.take nc ++ [0#8])) (f := u8V) (l := (cx.take nc)) (L := [0#8]) rfl Try.underlying22 Try.underlying22 (.inr ⟨_, rfl⟩) sz5 by5 ze5 rfl rfl (fun h => ⟨g54a h, rfl⟩) rfl (by omega) (Src.row (k := 55) (j := 0) rfl (fun _ => rfl) (fun _ => ⟨rfl, rfl, rfl⟩) rfl rfl) (fun _ => rfl) (by omega) (by omega) rfl rfl ?_)
            intro A56 b56 c56 g56a g56b
            refine At.eStep [7] (by kernel_rfl) (by simp) ?_
            refine At.anyS (S_callV (some 57) [(54, _)] [11] (vs := [_, _, _, _]) rfl en24 rfl (VN (by simp) rfl View.all V0) (by simp) (c_Label (key := key) (lb := ([97#8] ++ l.take n1)) (cx := (cx.take nc ++ [0#8])) (nc := (cx.take nc ++ [0#8]).length) 32 rfl hkey (by decide) (by simp) (by simp; omega) (by omega) (fun h => g56a (by omega))) (by rintro _ _ ⟨A11, b11, c11, r11, m11, g11a, g11b, rfl, rfl⟩; rfl) ?_)
            rintro _ _ ⟨A11, b11, c11, r11, m11, g11a, g11b, rfl, rfl⟩
            refine At.eP 8 (some 49) (P_move rfl rfl) (by kernel_rfl) (by kernel_rfl) ?_
            refine At.eP 9 (some 58) (P_extract rfl rfl rfl) (by kernel_rfl) (by kernel_rfl) ?_
            refine At.eP 10 (some 59) (P_extract rfl rfl rfl) (by kernel_rfl) (by kernel_rfl) ?_
            refine At.eP 11 (some 11) (P_assign rfl rfl) (by kernel_rfl) (by kernel_rfl) ?_
            refine At.eP 12 (some 12) (P_assign rfl rfl) (by kernel_rfl) (by kernel_rfl) ?_
            refine At.eEnd (by kernel_rfl) ?_
            refine At.next ?_
            refine At.to [(1, _), (2, _), (3, _), (7, _), (8, _), (9, _), (10, _), (11, _), (12, _)] [(0, _), (3, _), (7, _), (9, _), (11, _)] (AllL.cons_ (rfl) (AllL.cons_ (rfl) (AllL.cons_ (rfl) (AllL.cons_ (rfl) (AllL.cons_ (rfl) (AllL.cons_ (rfl) (AllL.cons_ (rfl) (AllL.cons_ (rfl) (AllL.cons_ (rfl) trivial))))))))) (AllL.cons_ (rfl) (AllL.cons_ (rfl) (AllL.cons_ (rfl) (AllL.cons_ (rfl) (AllL.cons_ (rfl) trivial))))) ?_
            exact hKb _ _ ⟨_, _, _, _, _, rfl, rfl, g11a, g11b⟩
          ·
            refine At.anyS (S_appendM (some 56) 54 ((cx.take nc ++ [0#8])) (f := u8V) (l := (cx.take nc)) (L := [0#8]) rfl Try.underlying22 Try.underlying22 (.inr ⟨_, rfl⟩) sz5 by5 ze5 rfl rfl (fun h => ⟨g54a h, rfl⟩) rfl (by omega) (Src.row (k := 55) (j := 0) rfl (fun _ => rfl) (fun _ => ⟨rfl, rfl, rfl⟩) rfl rfl) (fun _ => rfl) (by omega) (by omega) rfl rfl ?_)
            intro A56 b56 c56 g56a g56b
            refine At.eStep [0] (by kernel_rfl) (by simp) ?_
            refine At.anyQ (some 50) (Q_loadA (k := 3) rfl rfl Try.underlying25 rfl sz25 (by first | omega | (simp <;> omega)) rfl) ?_
            refine At.eStep [7] (by kernel_rfl) (by simp) ?_
            refine At.anyS (S_callV (some 57) [(54, _)] [11] (vs := [_, _, _, _]) rfl en24 rfl (VN (by simp) rfl View.all V0) (by simp) (c_Label (key := key) (lb := ([97#8] ++ l.take n1)) (cx := (cx.take nc ++ [0#8])) (nc := (cx.take nc ++ [0#8]).length) 32 rfl hkey (by decide) (by simp) (by simp; omega) (by omega) (fun h => g56a (by omega))) (by rintro _ _ ⟨A11, b11, c11, r11, m11, g11a, g11b, rfl, rfl⟩; rfl) ?_)
            rintro _ _ ⟨A11, b11, c11, r11, m11, g11a, g11b, rfl, rfl⟩
            refine At.eP 8 (some 49) (P_move rfl rfl) (by kernel_rfl) (by kernel_rfl) ?_
            refine At.eP 9 (some 58) (P_extract rfl rfl rfl) (by kernel_rfl) (by kernel_rfl) ?_
            refine At.eP 10 (some 59) (P_extract rfl rfl rfl) (by kernel_rfl) (by kernel_rfl) ?_
            refine At.eP 11 (some 11) (P_assign rfl rfl) (by kernel_rfl) (by kernel_rfl) ?_
            refine At.eP 12 (some 12) (P_assign rfl rfl) (by kernel_rfl) (by kernel_rfl) ?_
            refine At.eEnd (by kernel_rfl) ?_
            refine At.next ?_
            refine At.to [(1, _), (2, _), (3, _), (7, _), (8, _), (9, _), (10, _), (11, _), (12, _)] [(0, _), (3, _), (7, _), (9, _), (11, _)] (AllL.cons_ (rfl) (AllL.cons_ (rfl) (AllL.cons_ (rfl) (AllL.cons_ (rfl) (AllL.cons_ (rfl) (AllL.cons_ (rfl) (AllL.cons_ (rfl) (AllL.cons_ (rfl) (AllL.cons_ (rfl) trivial))))))))) (AllL.cons_ (rfl) (AllL.cons_ (rfl) (AllL.cons_ (rfl) (AllL.cons_ (rfl) (AllL.cons_ (rfl) trivial))))) ?_
            exact hKb _ _ ⟨_, _, _, _, _, rfl, rfl, g11a, g11b⟩
      ·
        refine At.anyS (S_buildSliceV (some 55) 55 ([0#8].map u8V) rfl Try.underlying22 sz5 ze5 rfl rfl (by decide) (by decide) rfl rfl (fun b55 => ?_))
        refine At.eStep [0, 4] (by kernel_rfl) (by simp) ?_
        refine ⟨?_, ?_⟩
        ·
          refine At.anyQ (some 50) (Q_loadA (k := 3) rfl rfl Try.underlying25 rfl sz25 (by first | omega | (simp <;> omega)) rfl) ?_
          refine At.eStep [4] (by kernel_rfl) (by simp) ?_
          refine At.anyS (S_appendM (some 54) 54 ((cx.take nc)) (f := u8V) (l := []) (L := (cx.take nc)) rfl Try.underlying22 Try.underlying22 (.inr ⟨_, rfl⟩) sz5 by5 ze5 rfl rfl (fun h => ⟨absurd h (by omega), rfl⟩) rfl rfl (Src.row (k := 0) (j := 0) rfl (fun h => cut_zero (hA (by omega))) (fun _ => ⟨rfl, rfl, rfl⟩) (by simp [pRow, List.map_take]) (by simp; omega)) (fun _ => rfl) (by omega) (by omega) rfl hc2 ?_)
          intro A54 b54 c54 g54a g54b
          refine At.eStep [6] (by kernel_rfl) (by simp) ?_
          refine At.anyS (S_appendM (some 56) 54 ((cx.take nc ++ [0#8])) (f := u8V) (l := (cx.take nc)) (L := [0#8]) rfl Try.underlying22 Try.underlying22 (.inr ⟨_, rfl⟩) sz5 by5 ze5 rfl rfl (fun h => ⟨g54a h, rfl⟩) rfl (by omega) (Src.row (k := 55) (j := 0) rfl (fun _ => rfl) (fun _ => ⟨rfl, rfl, rfl⟩) rfl rfl) (fun _ => rfl) (by omega) (by omega) rfl rfl ?_)
          intro A56 b56 c56 g56a g56b
          refine At.eStep [7] (by kernel_rfl) (by simp) ?_
          refine At.anyS (S_callV (some 57) [(54, _)] [11] (vs := [_, _, _, _]) rfl en24 rfl (VN (by simp) rfl View.all V0) (by simp) (c_Label (key := key) (lb := ([97#8] ++ l.take n1)) (cx := (cx.take nc ++ [0#8])) (nc := (cx.take nc ++ [0#8]).length) 32 rfl hkey (by decide) (by simp) (by simp; omega) (by omega) (fun h => g56a (by omega))) (by rintro _ _ ⟨A11, b11, c11, r11, m11, g11a, g11b, rfl, rfl⟩; rfl) ?_)
          rintro _ _ ⟨A11, b11, c11, r11, m11, g11a, g11b, rfl, rfl⟩
          refine At.eP 8 (some 49) (P_move rfl rfl) (by kernel_rfl) (by kernel_rfl) ?_
          refine At.eP 9 (some 58) (P_extract rfl rfl rfl) (by kernel_rfl) (by kernel_rfl) ?_
          refine At.eP 10 (some 59) (P_extract rfl rfl rfl) (by kernel_rfl) (by kernel_rfl) ?_
          refine At.eP 11 (some 11) (P_assign rfl rfl) (by kernel_rfl) (by kernel_rfl) ?_
          refine At.eP 12 (some 12) (P_assign rfl rfl) (by kernel_rfl) (by kernel_rfl) ?_
          refine At.eEnd (by kernel_rfl) ?_
          refine At.next ?_
          refine At.to [(1, _), (2, _), (3, _), (7, _), (8, _), (9, _), (10, _), (11, _), (12, _)] [(0, _), (3, _), (7, _), (9, _), (11, _)] (AllL.cons_ (rfl) (AllL.cons_ (rfl) (AllL.cons_ (rfl) (AllL.cons_ (rfl) (AllL.cons_ (rfl) (AllL.cons_ (rfl) (AllL.cons_ (rfl) (AllL.cons_ (rfl) (AllL.cons_ (rfl) trivial))))))))) (AllL.cons_ (rfl) (AllL.cons_ (rfl) (AllL.cons_ (rfl) (AllL.cons_ (rfl) (AllL.cons_ (rfl) trivial))))) ?_
          exact hKb _ _ ⟨_, _, _, _, _, rfl, rfl, g11a, g11b⟩
        ·
          refine At.anyS (S_appendM (some 54) 54 ((cx.take nc)) (f := u8V) (l := []) (L := (cx.take nc)) rfl Try.underlying22 Try.underlying22 (.inr ⟨_, rfl⟩) sz5 by5 ze5 rfl rfl (fun h => ⟨absurd h (by omega), rfl⟩) rfl rfl (Src.row (k := 0) (j := 0) rfl (fun h => cut_zero (hA (by omega))) (fun _ => ⟨rfl, rfl, rfl⟩) (by simp [pRow, List.map_take]) (by simp; omega)) (fun _ => rfl) (by omega) (by omega) rfl hc2 ?_)
          intro A54 b54 c54 g54a g54b
          refine At.eStep [0, 6] (by kernel_rfl) (by simp) ?_
          refine ⟨?_, ?_⟩
          ·
            refine At.anyQ (some 50) (Q_loadA (k := 3) rfl rfl Try.underlying25 rfl sz25 (by first | omega | (simp <;> omega)) rfl) ?_
            refine At.eStep [6] (by kernel_rfl) (by simp) ?_
            refine At.anyS (S_appendM (some 56) 54 ((cx.take nc ++ [0#8])) (f := u8V) (l := (cx.take nc)) (L := [0#8]) rfl Try.underlying22 Try.underlying22 (.inr ⟨_, rfl⟩) sz5 by5 ze5 rfl rfl (fun h => ⟨g54a h, rfl⟩) rfl (by omega) (Src.row (k := 55) (j := 0) rfl (fun _ => rfl) (fun _ => ⟨rfl, rfl, rfl⟩) rfl rfl) (fun _ => rfl) (by omega) (by omega) rfl rfl ?_)
            intro A56 b56 c56 g56a g56b
            refine At.eStep [7] (by kernel_rfl) (by simp) ?_
            refine At.anyS (S_callV (some 57) [(54, _)] [11] (vs := [_, _, _, _]) rfl en24 rfl (VN (by simp) rfl View.all V0) (by simp) (c_Label (key := key) (lb := ([97#8] ++ l.take n1)) (cx := (cx.take nc ++ [0#8])) (nc := (cx.take nc ++ [0#8]).length) 32 rfl hkey (by decide) (by simp) (by simp; omega) (by omega) (fun h => g56a (by omega))) (by rintro _ _ ⟨A11, b11, c11, r11, m11, g11a, g11b, rfl, rfl⟩; rfl) ?_)
            rintro _ _ ⟨A11, b11, c11, r11, m11, g11a, g11b, rfl, rfl⟩
            refine At.eP 8 (some 49) (P_move rfl rfl) (by kernel_rfl) (by kernel_rfl) ?_
            refine At.eP 9 (some 58) (P_extract rfl rfl rfl) (by kernel_rfl) (by kernel_rfl) ?_
            refine At.eP 10 (some 59) (P_extract rfl rfl rfl) (by kernel_rfl) (by kernel_rfl) ?_
            refine At.eP 11 (some 11) (P_assign rfl rfl) (by kernel_rfl) (by kernel_rfl) ?_
            refine At.eP 12 (some 12) (P_assign rfl rfl) (by kernel_rfl) (by kernel_rfl) ?_
            refine At.eEnd (by kernel_rfl) ?_
            refine At.next ?_
            refine At.to [(1, _), (2, _), (3, _), (7, _), (8, _), (9, _), (10, _), (11, _), (12, _)] [(0, _), (3, _), (7, _), (9, _), (11, _)] (AllL.cons_ (rfl) (AllL.cons_ (rfl) (AllL.cons_ (rfl) (AllL.cons_ (rfl) (AllL.cons_ (rfl) (AllL.cons_ (rfl) (AllL.cons_ (rfl) (AllL.cons_ (rfl) (AllL.cons_ (rfl) trivial))))))))) (AllL.cons_ (rfl) (AllL.cons_ (rfl) (AllL.cons_ (rfl) (AllL.cons_ (rfl) (AllL.cons_ (rfl) trivial))))) ?_
            exact hKb _ _ ⟨_, _, _, _, _, rfl, rfl, g11a, g11b⟩
          ·
            refine At.anyS (S_appendM (some 56) 54 ((cx.take nc ++ [0#8])) (f := u8V) (l := (cx.take nc)) (L := [0#8]) rfl Try.underlying22 Try.underlying22 (.inr ⟨_, rfl⟩) sz5 by5 ze5 rfl rfl (fun h => ⟨g54a h, rfl⟩) rfl (by omega) (Src.row (k := 55) (j := 0) rfl (fun _ => rfl) (fun _ => ⟨rfl, rfl, rfl⟩) rfl rfl) (fun _ => rfl) (by omega) (by omega) rfl rfl ?_)
            intro A56 b56 c56 g56a g56b
            refine At.eStep [0] (by kernel_rfl) (by simp) ?_
            refine At.anyQ (some 50) (Q_loadA (k := 3) rfl rfl Try.underlying25 rfl sz25 (by first | omega | (simp <;> omega)) rfl) ?_
            refine At.eStep [7] (by kernel_rfl) (by simp) ?_
            refine At.anyS (S_callV (some 57) [(54, _)] [11] (vs := [_, _, _, _]) rfl en24 rfl (VN (by simp) rfl View.all V0) (by simp) (c_Label (key := key) (lb := ([97#8] ++ l.take n1)) (cx := (cx.take nc ++ [0#8])) (nc := (cx.take nc ++ [0#8]).length) 32 rfl hkey (by decide) (by simp) (by simp; omega) (by omega) (fun h => g56a (by omega))) (by rintro _ _ ⟨A11, b11, c11, r11, m11, g11a, g11b, rfl, rfl⟩; rfl) ?_)
            rintro _ _ ⟨A11, b11, c11, r11, m11, g11a, g11b, rfl, rfl⟩
            refine At.eP 8 (some 49) (P_move rfl rfl) (by kernel_rfl) (by kernel_rfl) ?_
            refine At.eP 9 (some 58) (P_extract rfl rfl rfl) (by kernel_rfl) (by kernel_rfl) ?_
            refine At.eP 10 (some 59) (P_extract rfl rfl rfl) (by kernel_rfl) (by kernel_rfl) ?_
            refine At.eP 11 (some 11) (P_assign rfl rfl) (by kernel_rfl) (by kernel_rfl) ?_
            refine At.eP 12 (some 12) (P_assign rfl rfl) (by kernel_rfl) (by kernel_rfl) ?_
            refine At.eEnd (by kernel_rfl) ?_
            refine At.next ?_
            refine At.to [(1, _), (2, _), (3, _), (7, _), (8, _), (9, _), (10, _), (11, _), (12, _)] [(0, _), (3, _), (7, _), (9, _), (11, _)] (AllL.cons_ (rfl) (AllL.cons_ (rfl) (AllL.cons_ (rfl) (AllL.cons_ (rfl) (AllL.cons_ (rfl) (AllL.cons_ (rfl) (AllL.cons_ (rfl) (AllL.cons_ (rfl) (AllL.cons_ (rfl) trivial))))))))) (AllL.cons_ (rfl) (AllL.cons_ (rfl) (AllL.cons_ (rfl) (AllL.cons_ (rfl) (AllL.cons_ (rfl) trivial))))) ?_
            exact hKb _ _ ⟨_, _, _, _, _, rfl, rfl, g11a, g11b⟩
    ·
      refine At.anyS (S_buildSliceV (some 55) 55 ([0#8].map u8V) rfl Try.underlying22 sz5 ze5 rfl rfl (by decide) (by decide) rfl rfl (fun b55 => ?_))
      refine At.eStep [0, 2] (by kernel_rfl) (by simp) ?_
      refine ⟨?_, ?_⟩
      ·
        refine At.anyQ (some 50) (Q_loadA (k := 3) rfl rfl Try.underlying25 rfl sz25 (by first | omega | (simp <;> omega)) rfl) ?_
        refine At.eStep [2] (by kernel_rfl) (by simp) ?_
        refine At.anyS (S_buildSlice0 (some 52) 54 rfl Try.underlying22 sz5 (fun b54 => ?_))
        refine At.eStep [4] (by kernel_rfl) (by simp) ?_
        refine At.anyS (S_appendM (some 54) 54 ((cx.take nc)) (f := u8V) (l := []) (L := (cx.take nc)) rfl Try.underlying22 Try.underlying22 (.inr ⟨_, rfl⟩) sz5 by5 ze5 rfl rfl (fun h => ⟨absurd h (by omega), rfl⟩) rfl rfl (Src.row (k := 0) (j := 0) rfl (fun h => cut_zero (hA (by omega))) (fun _ => ⟨rfl, rfl, rfl⟩) (by simp [pRow, List.map_take]) (by simp; omega)) (fun _ => rfl) (by omega) (by omega) rfl hc2 ?_)
        intro A54 b54 c54 g54a g54b
        refine At.eStep [6] (by kernel_rfl) (by simp) ?_
        refine At.anyS (S_appendM (some 56) 54 ((cx.take nc ++ [0#8])) (f := u8V) (l := (cx.take nc)) (L := [0#8]) rfl Try.underlying22 Try.underlying22 (.inr ⟨_, rfl⟩) sz5 by5 ze5 rfl rfl (fun h => ⟨g54a h, rfl⟩) rfl (by omega) (Src.row (k := 55) (j := 0) rfl (fun _ => rfl) (fun _ => ⟨rfl, rfl, rfl⟩) rfl rfl) (fun _ => rfl) (by omega) (by omega) rfl rfl ?_)
        intro A56 b56 c56 g56a g56b
        refine At.eStep [7] (by kernel_rfl) (by simp) ?_
        refine At.anyS (S_callV (some 57) [(54, _)] [11] (vs := [_, _, _, _]) rfl en24 rfl (VN (by simp) rfl View.all V0) (by simp) (c_Label (key := key) (lb := ([97#8] ++ l.take n1)) (cx := (cx.take nc ++ [0#8])) (nc := (cx.take nc ++ [0#8]).length) 32 rfl hkey (by decide) (by simp) (by simp; omega) (by omega) (fun h => g56a (by omega))) (by rintro _ _ ⟨A11, b11, c11, r11, m11, g11a, g11b, rfl, rfl⟩; rfl) ?_)
        rintro _ _ ⟨A11, b11, c11, r11, m11, g11a, g11b, rfl, rfl⟩
        refine At.eP 8 (some 49) (P_move rfl rfl) (by kernel_rfl) (by kernel_rfl) ?_
        refine At.eP 9 (some 58) (P_extract rfl rfl rfl) (by kernel_rfl) (by kernel_rfl) ?_
        refine At.eP 10 (some 59) (P_extract rfl rfl rfl) (by kernel_rfl) (by kernel_rfl) ?_
        refine At.eP 11 (some 11) (P_assign rfl rfl) (by kernel_rfl) (by kernel_rfl) ?_
        refine At.eP 12 (some 12) (P_assign rfl rfl) (by kernel_rfl) (by kernel_rfl) ?_
        refine At.eEnd (by kernel_rfl) ?_
        refine At.next ?_
        refine At.to [(1, _), (2, _), (3, _), (7, _), (8, _), (9, _), (10, _), (11, _), (12, _)] [(0, _), (3, _), (7, _), (9, _), (11, _)] (AllL.cons_ (rfl) (AllL.cons_ (rfl) (AllL.cons_ (rfl) (AllL.cons_ (rfl) (AllL.cons_ (rfl) (AllL.cons_ (rfl) (AllL.cons_ (rfl) (AllL.cons_ (rfl) (AllL.cons_ (rfl) trivial))))))))) (AllL.cons_ (rfl) (AllL.cons_ (rfl) (AllL.cons_ (rfl) (AllL.cons_ (rfl) (AllL.cons_ (rfl) trivial))))) ?_
        exact hKb _ _ ⟨_, _, _, _, _, rfl, rfl, g11a, g11b⟩
      ·
        refine At.anyS (S_buildSlice0 (some 52) 54 rfl Try.underlying22 sz5 (fun b54 => ?_))
        refine At.eStep [0, 4] (by kernel_rfl) (by simp) ?_
        refine ⟨?_, ?_⟩
        ·
          refine At.anyQ (some 50) (Q_loadA (k := 3) rfl rfl Try.underlying25 rfl sz25 (by first | omega | (simp <;> omega)) rfl) ?_
          refine At.eStep [4] (by kernel_rfl) (by simp) ?_
          refine At.anyS (S_appendM (some 54) 54 ((cx.take nc)) (f := u8V) (l := []) (L := (cx.take nc)) rfl Try.underlying22 Try.underlying22 (.inr ⟨_, rfl⟩) sz5 by5 ze5 rfl rfl (fun h => ⟨absurd h (by omega), rfl⟩) rfl rfl (Src.row (k := 0) (j := 0) rfl (fun h => cut_zero (hA (by omega))) (fun _ => ⟨rfl, rfl, rfl⟩) (by simp [pRow, List.map_take]) (by simp; omega)) (fun _ => rfl) (by omega) (by omega) rfl hc2 ?_)
          intro A54 b54 c54 g54a g54b
          refine At.eStep [6] (by kernel_rfl) (by simp) ?_
          refine At.anyS (S_appendM (some 56) 54 ((cx.take nc ++ [0#8])) (f := u8V) (l := (cx.take nc)) (L := [0#8]) rfl Try.underlying22 Try.underlying22 (.inr ⟨_, rfl⟩) sz5 by5 ze5 rfl rfl (fun h => ⟨g54a h, rfl⟩) rfl (by omega) (Src.row (k := 55) (j := 0) rfl (fun _ => rfl) (fun _ => ⟨rfl, rfl, rfl⟩) rfl rfl) (fun _ => rfl) (by omega) (by omega) rfl rfl ?_)
          intro A56 b56 c56 g56a g56b
          refine At.eStep [7] (by kernel_rfl) (by simp) ?_
          refine At.anyS (S_callV (some 57) [(54, _)] [11] (vs := [_, _, _, _]) rfl en24 rfl (VN (by simp) rfl View.all V0) (by simp) (c_Label (key := key) (lb := ([97#8] ++ l.take n1)) (cx := (cx.take nc ++ [0#8])) (nc := (cx.take nc ++ [0#8]).length) 32 rfl hkey (by decide) (by simp) (by simp; omega) (by omega) (fun h => g56a (by omega))) (by rintro _ _ ⟨A11, b11, c11, r11, m11, g11a, g11b, rfl, rfl⟩; rfl) ?_)
          rintro _ _ ⟨A11, b11, c11, r11, m11, g11a, g11b, rfl, rfl⟩
          refine At.eP 8 (some 49) (P_move rfl rfl) (by kernel_rfl) (by kernel_rfl) ?_
          refine At.eP 9 (some 58) (P_extract rfl rfl rfl) (by kernel_rfl) (by kernel_rfl) ?_
          refine At.eP 10 (some 59) (P_extract rfl rfl rfl) (by kernel_rfl) (by kernel_rfl) ?_
          refine At.eP 11 (some 11) (P_assign rfl rfl) (by kernel_rfl) (by kernel_rfl) ?_
          refine At.eP 12 (some 12) (P_assign rfl rfl) (by kernel_rfl) (by kernel_rfl) ?_
          refine At.eEnd (by kernel_rfl) ?_
          refine At.next ?_
          refine At.to [(1, _), (2, _), (3, _), (7, _), (8, _), (9, _), (10, _), (11, _), (12, _)] [(0, _), (3, _), (7, _), (9, _), (11, _)] (AllL.cons_ (rfl) (AllL.cons_ (rfl) (AllL.cons_ (rfl) (AllL.cons_ (rfl) (AllL.cons_ (rfl) (AllL.cons_ (rfl) (AllL.cons_ (rfl) (AllL.cons_ (rfl) (AllL.cons_ (rfl) trivial))))))))) (AllL.cons_ (rfl) (AllL.cons_ (rfl) (AllL.cons_ (rfl) (AllL.cons_ (rfl) (AllL.cons_ (rfl) trivial))))) ?_
          exact hKb _ _ ⟨_, _, _, _, _, rfl, rfl, g11a, g11b⟩
        ·
          refine At.anyS (S_appendM (some 54) 54 ((cx.take nc)) (f := u8V) (l := []) (L := (cx.take nc)) rfl Try.underlying22 Try.underlying22 (.inr ⟨_, rfl⟩) sz5 by5 ze5 rfl rfl (fun h => ⟨absurd h (by omega), rfl⟩) rfl rfl (Src.row (k := 0) (j := 0) rfl (fun h => cut_zero (hA (by omega))) (fun _ => ⟨rfl, rfl, rfl⟩) (by simp [pRow, List.map_take]) (by simp; omega)) (fun _ => rfl) (by omega) (by omega) rfl hc2 ?_)
          intro A54 b54 c54 g54a g54b
          refine At.eStep [0, 6] (by kernel_rfl) (by simp) ?_
          refine ⟨?_, ?_⟩
          ·
            refine At.anyQ (some 50) (Q_loadA (k := 3) rfl rfl Try.underlying25 rfl sz25 (by first | omega | (simp <;> omega)) rfl) ?_
            refine At.eStep [6] (by kernel_rfl) (by simp) ?_
            refine At.anyS (S_appendM (some 56) 54 ((cx.take nc ++ [0#8])) (f := u8V) (l := (cx.take nc)) (L := [0#8]) rfl Try.underlying22 Try.underlying22 (.inr ⟨_, rfl⟩) sz5 by5 ze5 rfl rfl (fun h => ⟨g54a h, rfl⟩) rfl (by omega) (Src.row (k := 55) (j := 0) rfl (fun _ => rfl) (fun _ => ⟨rfl, rfl, rfl⟩) rfl rfl) (fun _ => rfl) (by omega) (by omega) rfl rfl ?_)
            intro A56 b56 c56 g56a g56b
            refine At.eStep [7] (by kernel_rfl) (by simp) ?_
            refine At.anyS (S_callV (some 57) [(54, _)] [11] (vs := [_, _, _, _]) rfl en24 rfl (VN (by simp) rfl View.all V0) (by simp) (c_Label (key := key) (lb := ([97#8] ++ l.take n1)) (cx := (cx.take nc ++ [0#8])) (nc := (cx.take nc ++ [0#8]).length) 32 rfl hkey (by decide) (by simp) (by simp; omega) (by omega) (fun h => g56a (by omega))) (by rintro _ _ ⟨A11, b11, c11, r11, m11, g11a, g11b, rfl, rfl⟩; rfl) ?_)
            rintro _ _ ⟨A11, b11, c11, r11, m11, g11a, g11b, rfl, rfl⟩
            refine At.eP 8 (some 49) (P_move rfl rfl) (by kernel_rfl) (by kernel_rfl) ?_
            refine At.eP 9 (some 58) (P_extract rfl rfl rfl) (by kernel_rfl) (by kernel_rfl) ?_
            refine At.eP 10 (some 59) (P_extract rfl rfl rfl) (by kernel_rfl) (by kernel_rfl) ?_
            refine At.eP 11 (some 11) (P_assign rfl rfl) (by kernel_rfl) (by kernel_rfl) ?_
            refine At.eP 12 (some 12) (P_assign rfl rfl) (by kernel_rfl) (by kernel_rfl) ?_
            refine At.eEnd (by kernel_rfl) ?_
            refine At.next ?_
            refine At.to [(1, _), (2, _), (3, _), (7, _), (8, _), (9, _), (10, _), (11, _), (12, _)] [(0, _), (3, _), (7, _), (9, _), (11, _)] (AllL.cons_ (rfl) (AllL.cons_ (rfl) (AllL.cons_ (rfl) (AllL.cons_ (rfl) (AllL.cons_ (rfl) (AllL.cons_ (rfl) (AllL.cons_ (rfl) (AllL.cons_ (rfl) (AllL.cons_ (rfl) trivial))))))))) (AllL.cons_ (rfl) (AllL.cons_ (rfl) (AllL.cons_ (rfl) (AllL.cons_ (rfl) (AllL.cons_ (rfl) trivial))))) ?_
            exact hKb _ _ ⟨_, _, _, _, _, rfl, rfl, g11a, g11b⟩
          ·
            refine At.anyS (S_appendM (some 56) 54 ((cx.take nc ++ [0#8])) (f := u8V) (l := (cx.take nc)) (L := [0#8]) rfl Try.underlying22 Try.underlying22 (.inr ⟨_, rfl⟩) sz5 by5 ze5 rfl rfl (fun h => ⟨g54a h, rfl⟩) rfl (by omega) (Src.row (k := 55) (j := 0) rfl (fun _ => rfl) (fun _ => ⟨rfl, rfl, rfl⟩) rfl rfl) (fun _ => rfl) (by omega) (by omega) rfl rfl ?_)
            intro A56 b56 c56 g56a g56b
            refine At.eStep [0] (by kernel_rfl) (by simp) ?_
            refine At.anyQ (some 50) (Q_loadA (k := 3) rfl rfl Try.underlying25 rfl sz25 (by first | omega | (simp <;> omega)) rfl) ?_
            refine At.eStep [7] (by kernel_rfl) (by simp) ?_
            refine At.anyS (S_callV (some 57) [(54, _)] [11] (vs := [_, _, _, _]) rfl en24 rfl (VN (by simp) rfl View.all V0) (by simp) (c_Label (key := key) (lb := ([97#8] ++ l.take n1)) (cx := (cx.take nc ++ [0#8])) (nc := (cx.take nc ++ [0#8]).length) 32 rfl hkey (by decide) (by simp) (by simp; omega) (by omega) (fun h => g56a (by omega))) (by rintro _ _ ⟨A11, b11, c11, r11, m11, g11a, g11b, rfl, rfl⟩; rfl) ?_)
            rintro _ _ ⟨A11, b11, c11, r11, m11, g11a, g11b, rfl, rfl⟩
            refine At.eP 8 (some 49) (P_move rfl rfl) (by kernel_rfl) (by kernel_rfl) ?_
            refine At.eP 9 (some 58) (P_extract rfl rfl rfl) (by kernel_rfl) (by kernel_rfl) ?_
            refine At.eP 10 (some 59) (P_extract rfl rfl rfl) (by kernel_rfl) (by kernel_rfl) ?_
            refine At.eP 11 (some 11) (P_assign rfl rfl) (by kernel_rfl) (by kernel_rfl) ?_
            refine At.eP 12 (some 12) (P_assign rfl rfl) (by kernel_rfl) (by kernel_rfl) ?_
            refine At.eEnd (by kernel_rfl) ?_
            refine At.next ?_
            refine At.to [(1, _), (2, _), (3, _), (7, _), (8, _), (9, _), (10, _), (11, _), (12, _)] [(0, _), (3, _), (7, _), (9, _), (11, _)] (AllL.cons_ (rfl) (AllL.cons_ (rfl) (AllL.cons_ (rfl) (AllL.cons_ (rfl) (AllL.cons_ (rfl) (AllL.cons_ (rfl) (AllL.cons_ (rfl) (AllL.cons_ (rfl) (AllL.cons_ (rfl) trivial))))))))) (AllL.cons_ (rfl) (AllL.cons_ (rfl) (AllL.cons_ (rfl) (AllL.cons_ (rfl) (AllL.cons_ (rfl) trivial))))) ?_
            exact hKb _ _ ⟨_, _, _, _, _, rfl, rfl, g11a, g11b⟩
  · rintro fr H ⟨A11, b11, c11, r11, m11, rfl, rfl, g11a, g11b⟩
    refine At.next ?_
    refine At.seq ?_
    refine At.region ?_
    refine At.q (some 61) (Q_loadA (k := 3) rfl rfl Try.underlying25 rfl sz25 (by first | omega | (simp <;> omega)) rfl) ?_
    refine At.p (some 62) (P_move rfl rfl) ?_
    refine At.p (some 63) (P_move rfl rfl) ?_
    refine At.s (S_callV (some 64) [(0, _)] [13] (vs := [_, _, _, _]) rfl en25 rfl (VN (by simp) rfl (View.sub (j := 0) (m := nc) rfl rfl) V0) (by simp) (r_Label (key := key) (lb := ([97#8] ++ l.take n1)) (cx := (cx.take nc)) (nc := nc) 32 hc2 hkey (by decide) (by simp) (by simp; omega) (by omega) (fun h => cut_zero (hA (by omega)))) (by rintro _ _ ⟨A13, b13, c13, r13, m13, g13a, g13b, rfl, rfl⟩; rfl) ?_)
    rintro _ _ ⟨A13, b13, c13, r13, m13, g13a, g13b, rfl, rfl⟩
    refine At.p (some 60) (P_move rfl rfl) ?_
    refine At.p (some 65) (P_extract rfl rfl rfl) ?_
    refine At.p (some 66) (P_extract rfl rfl rfl) ?_
    refine At.p (some 13) (P_assign rfl rfl) ?_
    refine At.p (some 14) (P_assign rfl rfl) ?_
    refine At.nil ?_
    refine At.next ?_
    refine At.seq ?_
    refine At.region ?_
    refine At.q (some 68) (Q_loadA (k := 3) rfl rfl Try.underlying25 rfl sz25 (by first | omega | (simp <;> omega)) rfl) ?_
    refine At.p (some 69) (P_move rfl rfl) ?_
    refine At.p (some 70) (P_add_str (b := [98#8]) rfl rfl rfl (by simp; omega)) ?_
    refine At.p (some 71) (P_move rfl rfl) ?_
    refine At.s (S_callV (some 72) [(0, _)] [15] (vs := [_, _, _, _]) rfl en25 rfl (VN (by simp) rfl (View.sub (j := 0) (m := nc) rfl rfl) V0) (by simp) (r_Label (key := key) (lb := ([97#8] ++ l.take n1 ++ [98#8])) (cx := (cx.take nc)) (nc := nc) 32 hc2 hkey (by decide) (by simp) (by simp; omega) (by omega) (fun h => cut_zero (hA (by omega)))) (by rintro _ _ ⟨A15, b15, c15, r15, m15, g15a, g15b, rfl, rfl⟩; rfl) ?_)
    rintro _ _ ⟨A15, b15, c15, r15, m15, g15a, g15b, rfl, rfl⟩
    refine At.p (some 67) (P_move rfl rfl) ?_
    refine At.p (some 73) (P_extract rfl rfl rfl) ?_
    refine At.p (some 74) (P_extract rfl rfl rfl) ?_
    refine At.p (some 15) (P_assign rfl rfl) ?_
    refine At.p (some 16) (P_assign rfl rfl) ?_
    refine At.nil ?_
    refine At.next ?_
    refine At.seq ?_
    refine At.eBrute (fun fr H => ∃ (A17 : Option Addr) (b17 c17 r17 : Nat) (m17 : List (BitVec 8)), fr = frOf [(1, strV ([97#8] ++ l.take n1)), (2, .slice (cut A 0 ca 1) nc ca), (3, ptr b3 0), (7, .slice A7 32 c7), (8, iV 0), (9, .slice A9 32 c9), (10, iV 0), (11, .slice A11 32 c11), (12, iV 0), (13, .slice A13 32 c13), (14, .bool true), (15, .slice A15 32 c15), (16, .bool true), (17, .slice A17 32 c17), (18, .bool true)] ∧ H = hOf [(0, pRow bq q cx), (3, ⟨true, b3, 0, 25, key.map u8V, 0⟩), (7, ⟨true, b7, 0, 5, ((labS key ([97#8] ++ l.take n1) (cx.take nc) 32) ++ m7).map u8V, r7⟩), (9, ⟨true, b9, 0, 5, ((labS key ([97#8] ++ l.take n1 ++ [98#8]) (cx.take nc) 32) ++ m9).map u8V, r9⟩), (11, ⟨true, b11, 0, 5, ((labS key ([97#8] ++ l.take n1) (cx.take nc ++ [0#8]) 32) ++ m11).map u8V, r11⟩), (13, ⟨true, b13, 0, 5, ((labS key ([97#8] ++ l.take n1) (cx.take nc) 32) ++ m13).map u8V, r13⟩), (15, ⟨true, b15, 0, 5, ((labS key ([97#8] ++ l.take n1 ++ [98#8]) (cx.take nc) 32) ++ m15).map u8V, r15⟩), (17, ⟨true, b17, 0, 5, ((labS key ([97#8] ++ l.take n1) (cx.take nc ++ [0#8]) 32) ++ m17).map u8V, r17⟩)] ∧ (0 < 32 → A17 = some ⟨b17, 0, none⟩) ∧ 32 ≤ c17) (by kernel_rfl) ?_ ?_
    · intro Kb hKb
      refine At.eP 1 (some 77) (P_move rfl rfl) (by kernel_rfl) (by kernel_rfl) ?_
      refine At.eP 3 (some 79) (P_move rfl rfl) (by kernel_rfl) (by kernel_rfl) ?_
      refine At.eStep [0, 2, 5] (by kernel_rfl) (by simp) ?_
      refine ⟨?_, ?_, ?_⟩
      ·
        refine At.anyQ (some 76) (Q_loadA (k := 3) rfl rfl Try.underlying25 rfl sz25 (by first | omega | (simp <;> omega)) rfl) ?_
        refine At.eStep [2, 5] (by kernel_rfl) (by simp) ?_
        refine ⟨?_, ?_⟩
        ·
          refine At.anyS (S_buildSlice0 (some 78) 54 rfl Try.underlying22 sz5 (fun b54 => ?_))
          refine At.eStep [4, 5] (by kernel_rfl) (by simp) ?_
          refine ⟨?_, ?_⟩
          ·
            refine At.anyS (S_appendM (some 80) 54 ((cx.take nc)) (f := u8V) (l := []) (L := (cx.take nc)) rfl Try.underlying22 Try.underlying22 (.inr ⟨_, rfl⟩) sz5 by5 ze5 rfl rfl (fun h => ⟨absurd h (by omega), rfl⟩) rfl rfl (Src.row (k := 0) (j := 0) rfl (fun h => cut_zero (hA (by omega))) (fun _ => ⟨rfl, rfl, rfl⟩) (by simp [pRow, List.map_take]) (by simp; omega)) (fun _ => rfl) (by omega) (by omega) rfl hc2 ?_)
            intro A54 b54 c54 g54a g54b
            refine At.eStep [5] (by kernel_rfl) (by simp) ?_
            refine At.anyS (S_buildSliceV (some 81) 55 ([0#8].map u8V) rfl Try.underlying22 sz5 ze5 rfl rfl (by decide) (by decide) rfl rfl (fun b55 => ?_))
            refine At.eStep [6] (by kernel_rfl) (by simp) ?_
            refine At.anyS (S_appendM (some 82) 54 ((cx.take nc ++ [0#8])) (f := u8V) (l := (cx.take nc)) (L := [0#8]) rfl Try.underlying22 Try.underlying22 (.inr ⟨_, rfl⟩) sz5 by5 ze5 rfl rfl (fun h => ⟨g54a h, rfl⟩) rfl (by omega) (Src.row (k := 55) (j := 0) rfl (fun _ => rfl) (fun _ => ⟨rfl, rfl, rfl⟩) rfl rfl) (fun _ => rfl) (by omega) (by omega) rfl rfl ?_)
            intro A56 b56 c56 g56a g56b
            refine At.eStep [7] (by kernel_rfl) (by simp) ?_
            refine At.anyS (S_callV (some 83) [(54, _)] [17] (vs := [_, _, _, _]) rfl en25 rfl (VN (by simp) rfl View.all V0) (by simp) (r_Label (key := key) (lb := ([97#8] ++ l.take n1)) (cx := (cx.take nc ++ [0#8])) (nc := (cx.take nc ++ [0#8]).length) 32 rfl hkey (by decide) (by simp) (by simp; omega) (by omega) (fun h => g56a (by omega))) (by rintro _ _ ⟨A17, b17, c17, r17, m17, g17a, g17b, rfl, rfl⟩; rfl) ?_)
            rintro _ _ ⟨A17, b17, c17, r17, m17, g17a, g17b, rfl, rfl⟩
            refine At.eP 8 (some 75) (P_move rfl rfl) (by kernel_rfl) (by kernel_rfl) ?_
            refine At.eP 9 (some 84) (P_extract rfl rfl rfl) (by kernel_rfl) (by kernel_rfl) ?_
            refine At.eP 10 (some 85) (P_extract rfl rfl rfl) (by kernel_rfl) (by kernel_rfl) ?_
            refine At.eP 11 (some 17) (P_assign rfl rfl) (by kernel_rfl) (by kernel_rfl) ?_
            refine At.eP 12 (some 18) (P_assign rfl rfl) (by kernel_rfl) (by kernel_rfl) ?_
            refine At.eEnd (by kernel_rfl) ?_
            refine At.next ?_
            refine At.to [(1, _), (2, _), (3, _), (7, _), (8, _), (9, _), (10, _), (11, _), (12, _), (13, _), (14, _), (15, _), (16, _), (17, _), (18, _)] [(0, _), (3, _), (7, _), (9, _), (11, _), (13, _), (15, _), (17, _)] (AllL.cons_ (rfl) (AllL.cons_ (rfl) (AllL.cons_ (rfl) (AllL.cons_ (rfl) (AllL.cons_ (rfl) (AllL.cons_ (rfl) (AllL.cons_ (rfl) (AllL.cons_ (rfl) (AllL.cons_ (rfl) (AllL.cons_ (rfl) (AllL.cons_ (rfl) (AllL.cons_ (rfl) (AllL.cons_ (rfl) (AllL.cons_ (rfl) (AllL.cons_ (rfl) trivial))))))))))))))) (AllL.cons_ (rfl) (AllL.cons_ (rfl) (AllL.cons_ (rfl) (AllL.cons_ (rfl) (AllL.cons_ (rfl) (AllL.cons_ (rfl) (AllL.cons_ (rfl) (AllL.cons_ (rfl) trivial)))))))) ?_
            exact hKb _ _ ⟨_, _, _, _, _, rfl, rfl, g17a, g17b⟩
          ·
            refine At.anyS (S_buildSliceV (some 81) 55 ([0#8].map u8V) rfl Try.underlying22 sz5 ze5 rfl rfl (by decide) (by decide) rfl rfl (fun b55 => ?_))
            refine At.eStep [4] (by kernel_rfl) (by simp) ?_
            refine At.anyS (S_appendM (some 80) 54 ((cx.take nc)) (f := u8V) (l := []) (L := (cx.take nc)) rfl Try.underlying22 Try.underlying22 (.inr ⟨_, rfl⟩) sz5 by5 ze5 rfl rfl (fun h => ⟨absurd h (by omega), rfl⟩) rfl rfl (Src.row (k := 0) (j := 0) rfl (fun h => cut_zero (hA (by omega))) (fun _ => ⟨rfl, rfl, rfl⟩) (by simp [pRow, List.map_take]) (by simp; omega)) (fun _ => rfl) (by omega) (by omega) rfl hc2 ?_)
            intro A54 b54 c54 g54a g54b
            refine At.eStep [6] (by kernel_rfl) (by simp) ?_
            refine At.anyS (S_appendM (some 82) 54 ((cx.take nc ++ [0#8])) (f := u8V) (l := (cx.take nc)) (L := [0#8]) rfl Try.underlying22 Try.underlying22 (.inr ⟨_, rfl⟩) sz5 by5 ze5 rfl rfl (fun h => ⟨g54a h, rfl⟩) rfl (by omega) (Src.row (k := 55) (j := 0) rfl (fun _ => rfl) (fun _ => ⟨rfl, rfl, rfl⟩) rfl rfl) (fun _ => rfl) (by omega) (by omega) rfl rfl ?_)
            intro A56 b56 c56 g56a g56b
            refine At.eStep [7] (by kernel_rfl) (by simp) ?_
            refine At.anyS (S_callV (some 83) [(54, _)] [17] (vs := [_, _, _, _]) rfl en25 rfl (VN (by simp) rfl View.all V0) (by simp) (r_Label (key := key) (lb := ([97#8] ++ l.take n1)) (cx := (cx.take nc ++ [0#8])) (nc := (cx.take nc ++ [0#8]).length) 32 rfl hkey (by decide) (by simp) (by simp; omega) (by omega) (fun h => g56a (by omega))) (by rintro _ _ ⟨A17, b17, c17, r17, m17, g17a, g17b, rfl, rfl⟩; rfl) ?_)
            rintro _ _ ⟨A17, b17, c17, r17, m17, g17a, g17b, rfl, rfl⟩
            refine At.eP 8 (some 75) (P_move rfl rfl) (by kernel_rfl) (by kernel_rfl) ?_
            refine At.eP 9 (some 84) (P_extract rfl rfl rfl) (by kernel_rfl) (by kernel_rfl) ?_
            refine At.eP 10 (some 85) (P_extract rfl rfl rfl) (by kernel_rfl) (by kernel_rfl) ?_
            refine At.eP 11 (some 17) (P_assign rfl rfl) (by kernel_rfl) (by kernel_rfl) ?_
            refine At.eP 12 (some 18) (P_assign rfl rfl) (by kernel_rfl) (by kernel_rfl) ?_
            refine At.eEnd (by kernel_rfl) ?_
            refine At.next ?_
            refine At.to [(1, _), (2, _), (3, _), (7, _), (8, _), (9, _), (10, _), (11, _), (12, _), (13, _), (14, _), (15, _), (16, _), (17, _), (18, _)] [(0, _), (3, _), (7, _), (9, _), (11, _), (13, _), (15, _), (17, _)] (AllL.cons_ (rfl) (AllL.cons_ (rfl) (AllL.cons_ (rfl) (AllL.cons_ (rfl) (AllL.cons_ (rfl) (AllL.cons_ (rfl) (AllL.cons_ (rfl) (AllL.cons_ (rfl) (AllL.cons_ (rfl) (AllL.cons_ (rfl) (AllL.cons_ (rfl) (AllL.cons_ (rfl) (AllL.cons_ (rfl) (AllL.cons_ (rfl) (AllL.cons_ (rfl) trivial))))))))))))))) (AllL.cons_ (rfl) (AllL.cons_ (rfl) (AllL.cons_ (rfl) (AllL.cons_ (rfl) (AllL.cons_ (rfl) (AllL.cons_ (rfl) (AllL.cons_ (rfl) (AllL.cons_ (rfl) trivial)))))))) ?_
            exact hKb _ _ ⟨_, _, _, _, _, rfl, rfl, g17a, g17b⟩
        ·
          refine At.anyS (S_buildSliceV (some 81) 55 ([0#8].map u8V) rfl Try.underlying22 sz5 ze5 rfl rfl (by decide) (by decide) rfl rfl (fun b55 => ?_))
          refine At.eStep [2] (by kernel_rfl) (by simp) ?_
          refine At.anyS (S_buildSlice0 (some 78) 54 rfl Try.underlying22 sz5 (fun b54 => ?_))
          refine At.eStep [4] (by kernel_rfl) (by simp) ?_
          refine At.anyS (S_appendM (some 80) 54 ((cx.take nc)) (f := u8V) (l := []) (L := (cx.take nc)) rfl Try.underlying22 Try.underlying22 (.inr ⟨_, rfl⟩) sz5 by5 ze5 rfl rfl (fun h => ⟨absurd h (by omega), rfl⟩) rfl rfl (Src.row (k := 0) (j := 0) rfl (fun h => cut_zero (hA (by omega))) (fun _ => ⟨rfl, rfl, rfl⟩) (by simp [pRow, List.map_take]) (by simp; omega)) (fun _ => rfl) (by omega) (by omega) rfl hc2 ?_)
          intro A54 b54 c54 g54a g54b
          refine At.eStep [6] (by kernel_rfl) (by simp) ?_
          refine At.anyS (S_appendM (some 82) 54 ((cx.take nc ++ [0#8])) (f := u8V) (l := (cx.take nc)) (L := [0#8]) rfl Try.underlying22 Try.underlying22 (.inr ⟨_, rfl⟩) sz5 by5 ze5 rfl rfl (fun h => ⟨g54a h, rfl⟩) rfl (by omega) (Src.row (k := 55) (j := 0) rfl (fun _ => rfl) (fun _ => ⟨rfl, rfl, rfl⟩) rfl rfl) (fun _ => rfl) (by omega) (by omega) rfl rfl ?_)
          intro A56 b56 c56 g56a g56b
          refine At.eStep [7] (by kernel_rfl) (by simp) ?_
          refine At.anyS (S_callV (some 83) [(54, _)] [17] (vs := [_, _, _, _]) rfl en25 rfl (VN (by simp) rfl View.all V0) (by simp) (r_Label (key := key) (lb := ([97#8] ++ l.take n1)) (cx := (cx.take nc ++ [0#8])) (nc := (cx.take nc ++ [0#8]).length) 32 rfl hkey (by decide) (by simp) (by simp; omega) (by omega) (fun h => g56a (by omega))) (by rintro _ _ ⟨A17, b17, c17, r17, m17, g17a, g17b, rfl, rfl⟩; rfl) ?_)
          rintro _ _ ⟨A17, b17, c17, r17, m17, g17a, g17b, rfl, rfl⟩
          refine At.eP 8 (some 75) (P_move rfl rfl) (by kernel_rfl) (by kernel_rfl) ?_
          refine At.eP 9 (some 84) (P_extract rfl rfl rfl) (by kernel_rfl) (by kernel_rfl) ?_
          refine At.eP 10 (some 85) (P_extract rfl rfl rfl) (by kernel_rfl) (by kernel_rfl) ?_
          refine At.eP 11 (some 17) (P_assign rfl rfl) (by kernel_rfl) (by kernel_rfl) ?_
          refine At.eP 12 (some 18) (P_assign rfl rfl) (by kernel_rfl) (by kernel_rfl) ?_
          refine At.eEnd (by kernel_rfl) ?_
          refine At.next ?_
          refine At.to [(1, _), (2, _), (3, _), (7, _), (8, _), (9, _), (10, _), (11, _), (12, _), (13, _), (14, _), (15, _), (16, _), (17, _), (18, _)] [(0, _), (3, _), (7, _), (9, _), (11, _), (13, _), (15, _), (17, _)] (AllL.cons_ (rfl) (AllL.cons_ (rfl) (AllL.cons_ (rfl) (AllL.cons_ (rfl) (AllL.cons_ (rfl) (AllL.cons_ (rfl) (AllL.cons_ (rfl) (AllL.cons_ (rfl) (AllL.cons_ (rfl) (AllL.cons_ (rfl) (AllL.cons_ (rfl) (AllL.cons_ (rfl) (AllL.cons_ (rfl) (AllL.cons_ (rfl) (AllL.cons_ (rfl) trivial))))))))))))))) (AllL.cons_ (rfl) (AllL.cons_ (rfl) (AllL.cons_ (rfl) (AllL.cons_ (rfl) (AllL.cons_ (rfl) (AllL.cons_ (rfl) (AllL.cons_ (rfl) (AllL.cons_ (rfl) trivial)))))))) ?_
          exact hKb _ _ ⟨_, _, _, _, _, rfl, rfl, g17a, g17b⟩
      ·
        refine At.anyS (S_buildSlice0 (some 78) 54 rfl Try.underlying22 sz5 (fun b54 => ?_))
        refine At.eStep [0, 4, 5] (by kernel_rfl) (by simp) ?_
        refine ⟨?_, ?_, ?_⟩
        ·
          refine At.anyQ (some 76) (Q_loadA (k := 3) rfl rfl Try.underlying25 rfl sz25 (by first | omega | (simp <;> omega)) rfl) ?_
          refine At.eStep [4, 5] (by kernel_rfl) (by simp) ?_
          refine ⟨?_, ?_⟩
          ·
            refine At.anyS (S_appendM (some 80) 54 ((cx.take nc)) (f := u8V) (l := []) (L := (cx.take nc)) rfl Try.underlying22 Try.underlying22 (.inr ⟨_, rfl⟩) sz5 by5 ze5 rfl rfl (fun h => ⟨absurd h (by omega), rfl⟩) rfl rfl (Src.row (k := 0) (j := 0) rfl (fun h => cut_zero (hA (by omega))) (fun _ => ⟨rfl, rfl, rfl⟩) (by simp [pRow, List.map_take]) (by simp; omega)) (fun _ => rfl) (by omega) (by omega) rfl hc2 ?_)
            intro A54 b54 c54 g54a g54b
            refine At.eStep [5] (by kernel_rfl) (by simp) ?_
            refine At.anyS (S_buildSliceV (some 81) 55 ([0#8].map u8V) rfl Try.underlying22 sz5 ze5 rfl rfl (by decide) (by decide) rfl rfl (fun b55 => ?_))
            refine At.eStep [6] (by kernel_rfl) (by simp) ?_
            refine At.anyS (S_appendM (some 82) 54 ((cx.take nc ++ [0#8])) (f := u8V) (l := (cx.take nc)) (L := [0#8]) rfl Try.underlying22 Try.underlying22 (.inr ⟨_, rfl⟩) sz5 by5 ze5 rfl rfl (fun h => ⟨g54a h, rfl⟩) rfl (by omega) (Src.row (k := 55) (j := 0) rfl (fun _ => rfl) (fun _ => ⟨rfl, rfl, rfl⟩) rfl rfl) (fun _ => rfl) (by omega) (by omega) rfl rfl ?_)
            intro A56 b56 c56 g56a g56b
            refine At.eStep [7] (by kernel_rfl) (by simp) ?_
            refine At.anyS (S_callV (some 83) [(54, _)] [17] (vs := [_, _, _, _]) rfl en25 rfl (VN (by simp) rfl View.all V0) (by simp) (r_Label (key := key) (lb := ([97#8] ++ l.take n1)) (cx := (cx.take nc ++ [0#8])) (nc := (cx.take nc ++ [0#8]).length) 32 rfl hkey (by decide) (by simp) (by simp; omega) (by omega) (fun h => g56a (by omega))) (by rintro _ _ ⟨A17, b17, c17, r17, m17, g17a, g17b, rfl, rfl⟩; rfl) ?_)
            rintro _ _ ⟨A17, b17, c17, r17, m17, g17a, g17b, rfl, rfl⟩
            refine At.eP 8 (some 75) (P_move rfl rfl) (by kernel_rfl) (by kernel_rfl) ?_
            refine At.eP 9 (some 84) (P_extract rfl rfl rfl) (by kernel_rfl) (by kernel_rfl) ?_
            refine At.eP 10 (some 85) (P_extract rfl rfl rfl) (by kernel_rfl) (by kernel_rfl) ?_
            refine At.eP 11 (some 17) (P_assign rfl rfl) (by kernel_rfl) (by kernel_rfl) ?_
            refine At.eP 12 (some 18) (P_assign rfl rfl) (by kernel_rfl) (by kernel_rfl) ?_
            refine At.eEnd (by kernel_rfl) ?_
            refine At.next ?_
            refine At.to [(1, _), (2, _), (3, _), (7, _), (8, _), (9, _), (10, _), (11, _), (12, _), (13, _), (14, _), (15, _), (16, _), (17, _), (18, _)] [(0, _), (3, _), (7, _), (9, _), (11, _), (13, _), (15, _), (17, _)] (AllL.cons_ (rfl) (AllL.cons_ (rfl) (AllL.cons_ (rfl) (AllL.cons_ (rfl) (AllL.cons_ (rfl) (AllL.cons_ (rfl) (AllL.cons_ (rfl) (AllL.cons_ (rfl) (AllL.cons_ (rfl) (AllL.cons_ (rfl) (AllL.cons_ (rfl) (AllL.cons_ (rfl) (AllL.cons_ (rfl) (AllL.cons_ (rfl) (AllL.cons_ (rfl) trivial))))))))))))))) (AllL.cons_ (rfl) (AllL.cons_ (rfl) (AllL.cons_ (rfl) (AllL.cons_ (rfl) (AllL.cons_ (rfl) (AllL.cons_ (rfl) (AllL.cons_ (rfl) (AllL.cons_ (rfl) trivial)))))))) ?_
            exact hKb _ _ ⟨_, _, _, _, _, rfl, rfl, g17a, g17b⟩
          ·
            refine At.anyS (S_buildSliceV (some 81) 55 ([0#8].map u8V) rfl Try.underlying22 sz5 ze5 rfl rfl (by decide) (by decide) rfl rfl (fun b55 => ?_))
            refine At.eStep [4] (by kernel_rfl) (by simp) ?_
            refine At.anyS (S_appendM (some 80) 54 ((cx.take nc)) (f := u8V) (l := []) (L := (cx.take nc)) rfl Try.underlying22 Try.underlying22 (.inr ⟨_, rfl⟩) sz5 by5 ze5 rfl rfl (fun h => ⟨absurd h (by omega), rfl⟩) rfl rfl (Src.row (k := 0) (j := 0) rfl (fun h => cut_zero (hA (by omega))) (fun _ => ⟨rfl, rfl, rfl⟩) (by simp [pRow, List.map_take]) (by simp; omega)) (fun _ => rfl) (by omega) (by omega) rfl hc2 ?_)
            intro A54 b54 c54 g54a g54b
            refine At.eStep [6] (by kernel_rfl) (by simp) ?_
            refine At.anyS (S_appendM (some 82) 54 ((cx.take nc ++ [0#8])) (f := u8V) (l := (cx.take nc)) (L := [0#8]) rfl Try.underlying22 Try.underlying22 (.inr ⟨_, rfl⟩) sz5 by5 ze5 rfl rfl (fun h => ⟨g54a h, rfl⟩) rfl (by omega) (Src.row (k := 55) (j := 0) rfl (fun _ => rfl) (fun _ => ⟨rfl, rfl, rfl⟩) rfl rfl) (fun _ => rfl) (by omega) (by omega) rfl rfl ?_)
            intro A56 b56 c56 g56a g56b
            refine At.eStep [7] (by kernel_rfl) (by simp) ?_
            refine At.anyS (S_callV (some 83) [(54, _)] [17] (vs := [_, _, _, _]) rfl en25 rfl (VN (by simp) rfl View.all V0) (by simp) (r_Label (key := key) (lb := ([97#8] ++ l.take n1)) (cx := (cx.take nc ++ [0#8])) (nc := (cx.take nc ++ [0#8]).length) 32 rfl hkey (by decide) (by simp) (by simp; omega) (by omega) (fun h => g56a (by omega))) (by rintro _ _ ⟨A17, b17, c17, r17, m17, g17a, g17b, rfl, rfl⟩; rfl) ?_)
            rintro _ _ ⟨A17, b17, c17, r17, m17, g17a, g17b, rfl, rfl⟩
            refine At.eP 8 (some 75) (P_move rfl rfl) (by kernel_rfl) (by kernel_rfl) ?_
            refine At.eP 9 (some 84) (P_extract rfl rfl rfl) (by kernel_rfl) (by kernel_rfl) ?_
            refine At.eP 10 (some 85) (P_extract rfl rfl rfl) (by kernel_rfl) (by kernel_rfl) ?_
            refine At.eP 11 (some 17) (P_assign rfl rfl) (by kernel_rfl) (by kernel_rfl) ?_
            refine At.eP 12 (some 18) (P_assign rfl rfl) (by kernel_rfl) (by kernel_rfl) ?_
            refine At.eEnd (by kernel_rfl) ?_
            refine At.next ?_
            refine At.to [(1, _), (2, _), (3, _), (7, _), (8, _), (9, _), (10, _), (11, _), (12, _), (13, _), (14, _), (15, _), (16, _), (17, _), (18, _)] [(0, _), (3, _), (7, _), (9, _), (11, _), (13, _), (15, _), (17, _)] (AllL.cons_ (rfl) (AllL.cons_ (rfl) (AllL.cons_ (rfl) (AllL.cons_ (rfl) (AllL.cons_ (rfl) (AllL.cons_ (rfl) (AllL.cons_ (rfl) (AllL.cons_ (rfl) (AllL.cons_ (rfl) (AllL.cons_ (rfl) (AllL.cons_ (rfl) (AllL.cons_ (rfl) (AllL.cons_ (rfl) (AllL.cons_ (rfl) (AllL.cons_ (rfl) trivial))))))))))))))) (AllL.cons_ (rfl) (AllL.cons_ (rfl) (AllL.cons_ (rfl) (AllL.cons_ (rfl) (AllL.cons_ (rfl) (AllL.cons_ (rfl) (AllL.cons_ (rfl) (AllL.cons_ (rfl) trivial)))))))) ?_
            exact hKb _ _ ⟨_, _, _, _, _, rfl, rfl, g17a, g17b⟩
        ·
          refine At.anyS (S_appendM (some 80) 54 ((cx.take nc)) (f := u8V) (l := []) (L := (cx.take nc)) rfl Try.underlying22 Try.underlying22 (.inr ⟨_, rfl⟩) sz5 by5 ze5 rfl rfl (fun h => ⟨absurd h (by omega), rfl⟩) rfl rfl (Src.row (k := 0) (j := 0) rfl (fun h => cut_zero (hA (by omega))) (fun _ => ⟨rfl, rfl, rfl⟩) (by simp [pRow, List.map_take]) (by simp; omega)) (fun _ => rfl) (by omega) (by omega) rfl hc2 ?_)
          intro A54 b54 c54 g54a g54b
          refine At.eStep [0, 5] (by kernel_rfl) (by simp) ?_
          refine ⟨?_, ?_⟩
          ·
            refine At.anyQ (some 76) (Q_loadA (k := 3) rfl rfl Try.underlying25 rfl sz25 (by first | omega | (simp <;> omega)) rfl) ?_
            refine At.eStep [5] (by kernel_rfl) (by simp) ?_
            refine At.anyS (S_buildSliceV (some 81) 55 ([0#8].map u8V) rfl Try.underlying22 sz5 ze5 rfl rfl (by decide) (by decide) rfl rfl (fun b55 => ?_))
            refine At.eStep [6] (by kernel_rfl) (by simp) ?_
            refine At.anyS (S_appendM (some 82) 54 ((cx.take nc ++ [0#8])) (f := u8V) (l := (cx.take nc)) (L := [0#8]) rfl Try.underlying22 Try.underlying22 (.inr ⟨_, rfl⟩) sz5 by5 ze5 rfl rfl (fun h => ⟨g54a h, rfl⟩) rfl (by omega) (Src.row (k := 55) (j := 0) rfl (fun _ => rfl) (fun _ => ⟨rfl, rfl, rfl⟩) rfl rfl) (fun _ => rfl) (by omega) (by omega) rfl rfl ?_)
            intro A56 b56 c56 g56a g56b
            refine At.eStep [7] (by kernel_rfl) (by simp) ?_
            refine At.anyS (S_callV (some 83) [(54, _)] [17] (vs := [_, _, _, _]) rfl en25 rfl (VN (by simp) rfl View.all V0) (by simp) (r_Label (key := key) (lb := ([97#8] ++ l.take n1)) (cx := (cx.take nc ++ [0#8])) (nc := (cx.take nc ++ [0#8]).length) 32 rfl hkey (by decide) (by simp) (by simp; omega) (by omega) (fun h => g56a (by omega))) (by rintro _ _ ⟨A17, b17, c17, r17, m17, g17a, g17b, rfl, rfl⟩; rfl) ?_)
            rintro _ _ ⟨A17, b17, c17, r17, m17, g17a, g17b, rfl, rfl⟩
            refine At.eP 8 (some 75) (P_move rfl rfl) (by kernel_rfl) (by kernel_rfl) ?_
            refine At.eP 9 (some 84) (P_extract rfl rfl rfl) (by kernel_rfl) (by kernel_rfl) ?_
            refine At.eP 10 (some 85) (P_extract rfl rfl rfl) (by kernel_rfl) (by kernel_rfl) ?_
            refine At.eP 11 (some 17) (P_assign rfl rfl) (by kernel_rfl) (by kernel_rfl) ?_
            refine At.eP 12 (some 18) (P_assign rfl rfl) (by kernel_rfl) (by kernel_rfl) ?_
            refine At.eEnd (by kernel_rfl) ?_
            refine At.next ?_
            refine At.to [(1, _), (2, _), (3, _), (7, _), (8, _), (9, _), (10, _), (11, _), (12, _), (13, _), (14, _), (15, _), (16, _), (17, _), (18, _)] [(0, _), (3, _), (7, _), (9, _), (11, _), (13, _), (15, _), (17, _)] (AllL.cons_ (rfl) (AllL.cons_ (rfl) (AllL.cons_ (rfl) (AllL.cons_ (rfl) (AllL.cons_ (rfl) (AllL.cons_ (rfl) (AllL.cons_ (rfl) (AllL.cons_ (rfl) (AllL.cons_ (rfl) (AllL.cons_ (rfl) (AllL.cons_ (rfl) (AllL.cons_ (rfl) (AllL.cons_ (rfl) (AllL.cons_ (rfl) (AllL.cons_ (rfl) trivial))))))))))))))) (AllL.cons_ (rfl) (AllL.cons_ (rfl) (AllL.cons_ (rfl) (AllL.cons_ (rfl) (AllL.cons_ (rfl) (AllL.cons_ (rfl) (AllL.cons_ (rfl) (AllL.cons_ (rfl) trivial)))))))) ?_
            exact hKb _ _ ⟨_, _, _, _, _, rfl, rfl, g17a, g17b⟩
          ·
            refine At.anyS (S_buildSliceV (some 81) 55 ([0#8].map u8V) rfl Try.underlying22 sz5 ze5 rfl rfl (by decide) (by decide) rfl rfl (fun b55 => ?_))
            refine At.eStep [0, 6] (by kernel_rfl) (by simp) ?_
            refine ⟨?_, ?_⟩
            ·
              refine At.anyQ (some 76) (Q_loadA (k := 3) rfl rfl Try.underlying25 rfl sz25 (by first | omega | (simp <;> omega)) rfl) ?_
              refine At.eStep [6] (by kernel_rfl) (by simp) ?_
              refine At.anyS (S_appendM (some 82) 54 ((cx.take nc ++ [0#8])) (f := u8V) (l := (cx.take nc)) (L := [0#8]) rfl Try.underlying22 Try.underlying22 (.inr ⟨_, rfl⟩) sz5 by5 ze5 rfl rfl (fun h => ⟨g54a h, rfl⟩) rfl (by omega) (Src.row (k := 55) (j := 0) rfl (fun _ => rfl) (fun _ => ⟨rfl, rfl, rfl⟩) rfl rfl) (fun _ => rfl) (by omega) (by omega) rfl rfl ?_)
              intro A56 b56 c56 g56a g56b
              refine At.eStep [7] (by kernel_rfl) (by simp) ?_
              refine At.anyS (S_callV (some 83) [(54, _)] [17] (vs := [_, _, _, _]) rfl en25 rfl (VN (by simp) rfl View.all V0) (by simp) (r_Label (key := key) (lb := ([97#8] ++ l.take n1)) (cx := (cx.take nc ++ [0#8])) (nc := (cx.take nc ++ [0#8]).length) 32 rfl hkey (by decide) (by simp) (by simp; omega) (by omega) (fun h => g56a (by omega))) (by rintro _ _ ⟨A17, b17, c17, r17, m17, g17a, g17b, rfl, rfl⟩; rfl) ?_)
              rintro _ _ ⟨A17, b17, c17, r17, m17, g17a, g17b, rfl, rfl⟩
              refine At.eP 8 (some 75) (P_move rfl rfl) (by kernel_rfl) (by kernel_rfl) ?_
              refine At.eP 9 (some 84) (P_extract rfl rfl rfl) (by kernel_rfl) (by kernel_rfl) ?_
              refine At.eP 10 (some 85) (P_extract rfl rfl rfl) (by kernel_rfl) (by kernel_rfl) ?_
              refine At.eP 11 (some 17) (P_assign rfl rfl) (by kernel_rfl) (by kernel_rfl) ?_
              refine At.eP 12 (some 18) (P_assign rfl rfl) (by kernel_rfl) (by kernel_rfl) ?_
              refine At.eEnd (by kernel_rfl) ?_
              refine At.next ?_
              refine At.to [(1, _), (2, _), (3, _), (7, _), (8, _), (9, _), (10, _), (11, _), (12, _), (13, _), (14, _), (15, _), (16, _), (17, _), (18, _)] [(0, _), (3, _), (7, _), (9, _), (11, _), (13, _), (15, _), (17, _)] (AllL.cons_ (rfl) (AllL.cons_ (rfl) (AllL.cons_ (rfl) (AllL.cons_ (rfl) (AllL.cons_ (rfl) (AllL.cons_ (rfl) (AllL.cons_ (rfl) (AllL.cons_ (rfl) (AllL.cons_ (rfl) (AllL.cons_ (rfl) (AllL.cons_ (rfl) (AllL.cons_ (rfl) (AllL.cons_ (rfl) (AllL.cons_ (rfl) (AllL.cons_ (rfl) trivial))))))))))))))) (AllL.cons_ (rfl) (AllL.cons_ (rfl) (AllL.cons_ (rfl) (AllL.cons_ (rfl) (AllL.cons_ (rfl) (AllL.cons_ (rfl) (AllL.cons_ (rfl) (AllL.cons_ (rfl) trivial)))))))) ?_
              exact hKb _ _ ⟨_, _, _, _, _, rfl, rfl, g17a, g17b⟩
            ·
              refine At.anyS (S_appendM (some 82) 54 ((cx.take nc ++ [0#8])) (f := u8V) (l := (cx.take nc)) (L := [0#8]) rfl Try.underlying22 Try.underlying22 (.inr ⟨_, rfl⟩) sz5 by5 ze5 rfl rfl (fun h => ⟨g54a h, rfl⟩) rfl (by omega) (Src.row (k := 55) (j := 0) rfl (fun _ => rfl) (fun _ => ⟨rfl, rfl, rfl⟩) rfl rfl) (fun _ => rfl) (by omega) (by omega) rfl rfl ?_)
              intro A56 b56 c56 g56a g56b
              refine At.eStep [0] (by kernel_rfl) (by simp) ?_
              refine At.anyQ (some 76) (Q_loadA (k := 3) rfl rfl Try.underlying25 rfl sz25 (by first | omega | (simp <;> omega)) rfl) ?_
              refine At.eStep [7] (by kernel_rfl) (by simp) ?_
              refine At.anyS (S_callV (some 83) [(54, _)] [17] (vs := [_, _, _, _]) rfl en25 rfl (VN (by simp) rfl View.all V0) (by simp) (r_Label (key := key) (lb := ([97#8] ++ l.take n1)) (cx := (cx.take nc ++ [0#8])) (nc := (cx.take nc ++ [0#8]).length) 32 rfl hkey (by decide) (by simp) (by simp; omega) (by omega) (fun h => g56a (by omega))) (by rintro _ _ ⟨A17, b17, c17, r17, m17, g17a, g17b, rfl, rfl⟩; rfl) ?_)
              rintro _ _ ⟨A17, b17, c17, r17, m17, g17a, g17b, rfl, rfl⟩
              refine At.eP 8 (some 75) (P_move rfl rfl) (by kernel_rfl) (by kernel_rfl) ?_
              refine At.eP 9 (some 84) (P_extract rfl rfl rfl) (by kernel_rfl) (by kernel_rfl) ?_
              refine At.eP 10 (some 85) (P_extract rfl rfl rfl) (by kernel_rfl) (by kernel_rfl) ?_
              refine At.eP 11 (some 17) (P_assign rfl rfl) (by kernel_rfl) (by kernel_rfl) ?_
              refine At.eP 12 (some 18) (P_assign rfl rfl) (by kernel_rfl) (by kernel_rfl) ?_
              refine At.eEnd (by kernel_rfl) ?_
              refine At.next ?_
              refine At.to [(1, _), (2, _), (3, _), (7, _), (8, _), (9, _), (10, _), (11, _), (12, _), (13, _), (14, _), (15, _), (16, _), (17, _), (18, _)] [(0, _), (3, _), (7, _), (9, _), (11, _), (13, _), (15, _), (17, _)] (AllL.cons_ (rfl) (AllL.cons_ (rfl) (AllL.cons_ (rfl) (AllL.cons_ (rfl) (AllL.cons_ (rfl) (AllL.cons_ (rfl) (AllL.cons_ (rfl) (AllL.cons_ (rfl) (AllL.cons_ (rfl) (AllL.cons_ (rfl) (AllL.cons_ (rfl) (AllL.cons_ (rfl) (AllL.cons_ (rfl) (AllL.cons_ (rfl) (AllL.cons_ (rfl) trivial))))))))))))))) (AllL.cons_ (rfl) (AllL.cons_ (rfl) (AllL.cons_ (rfl) (AllL.cons_ (rfl) (AllL.cons_ (rfl) (AllL.cons_ (rfl) (AllL.cons_ (rfl) (AllL.cons_ (rfl) trivial)))))))) ?_
              exact hKb _ _ ⟨_, _, _, _, _, rfl, rfl, g17a, g17b⟩
        ·
          refine At.anyS (S_buildSliceV (some 81) 55 ([0#8].map u8V) rfl Try.underlying22 sz5 ze5 rfl rfl (by decide) (by decide) rfl rfl (fun b55 => ?_))
          refine At.eStep [0, 4] (by kernel_rfl) (by simp) ?_
          refine ⟨?_, ?_⟩
          ·
            refine At.anyQ (some 76) (Q_loadA (k := 3) rfl rfl Try.underlying25 rfl sz25 (by first | omega | (simp <;> omega)) rfl) ?_
            refine At.eStep [4] (by kernel_rfl) (by simp) ?_
            refine At.anyS (S_appendM (some 80) 54 ((cx.take nc)) (f := u8V) (l := []) (L := (cx.take nc)) rfl Try.underlying22 Try.underlying22 (.inr ⟨_, rfl⟩) sz5 by5 ze5 rfl rfl (fun h => ⟨absurd h (by omega), rfl⟩) rfl rfl (Src.row (k := 0) (j := 0) rfl (fun h => cut_zero (hA (by omega))) (fun _ => ⟨rfl, rfl, rfl⟩) (by simp [pRow, List.map_take]) (by simp; omega)) (fun _ => rfl) (by omega) (by omega) rfl hc2 ?_)
            intro A54 b54 c54 g54a g54b
            refine At.eStep [6] (by kernel_rfl) (by simp) ?_
            refine At.anyS (S_appendM (some 82) 54 ((cx.take nc ++ [0#8])) (f := u8V) (l := (cx.take nc)) (L := [0#8]) rfl Try.underlying22 Try.underlying22 (.inr ⟨_, rfl⟩) sz5 by5 ze5 rfl rfl (fun h => ⟨g54a h, rfl⟩) rfl (by omega) (Src.row (k := 55) (j := 0) rfl (fun _ => rfl) (fun _ => ⟨rfl, rfl, rfl⟩) rfl rfl) (fun _ => rfl) (by omega) (by omega) rfl rfl ?_)
            intro A56 b56 c56 g56a g56b
            refine At.eStep [7] (by kernel_rfl) (by simp) ?_
            refine At.anyS (S_callV (some 83) [(54, _)] [17] (vs := [_, _, _, _]) rfl en25 rfl (VN (by simp) rfl View.all V0) (by simp) (r_Label (key := key) (lb := ([97#8] ++ l.take n1)) (cx := (cx.take nc ++ [0#8])) (nc := (cx.take nc ++ [0#8]).length) 32 rfl hkey (by decide) (by simp) (by simp; omega) (by omega) (fun h => g56a (by omega))) (by rintro _ _ ⟨A17, b17, c17, r17, m17, g17a, g17b, rfl, rfl⟩; rfl) ?_)
            rintro _ _ ⟨A17, b17, c17, r17, m17, g17a, g17b, rfl, rfl⟩
            refine At.eP 8 (some 75) (P_move rfl rfl) (by kernel_rfl) (by kernel_rfl) ?_
            refine At.eP 9 (some 84) (P_extract rfl rfl rfl) (by kernel_rfl) (by kernel_rfl) ?_
            refine At.eP 10 (some 85) (P_extract rfl rfl rfl) (by kernel_rfl) (by kernel_rfl) ?_
            refine At.eP 11 (some 17) (P_assign rfl rfl) (by kernel_rfl) (by kernel_rfl) ?_
            refine At.eP 12 (some 18) (P_assign rfl rfl) (by kernel_rfl) (by kernel_rfl) ?_
            refine At.eEnd (by kernel_rfl) ?_
            refine At.next ?_
            refine At.to [(1, _), (2, _), (3, _), (7, _), (8, _), (9, _), (10, _), (11, _), (12, _), (13, _), (14, _), (15, _), (16, _), (17, _), (18, _)] [(0, _), (3, _), (7, _), (9, _), (11, _), (13, _), (15, _), (17, _)] (AllL.cons_ (rfl) (AllL.cons_ (rfl) (AllL.cons_ (rfl) (AllL.cons_ (rfl) (AllL.cons_ (rfl) (AllL.cons_ (rfl) (AllL.cons_ (rfl) (AllL.cons_ (rfl) (AllL.cons_ (rfl) (AllL.cons_ (rfl) (AllL.cons_ (rfl) (AllL.cons_ (rfl) (AllL.cons_ (rfl) (AllL.cons_ (rfl) (AllL.cons_ (rfl) trivial))))))))))))))) (AllL.cons_ (rfl) (AllL.cons_ (rfl) (AllL.cons_ (rfl) (AllL.cons_ (rfl) (AllL.cons_ (rfl) (AllL.cons_ (rfl) (AllL.cons_ (rfl) (AllL.cons_ (rfl) trivial)))))))) ?_
            exact hKb _ _ ⟨_, _, _, _, _, rfl, rfl, g17a, g17b⟩
          ·
            refine At.anyS (S_appendM (some 80) 54 ((cx.take nc)) (f := u8V) (l := []) (L := (cx.take nc)) rfl Try.underlying22 Try.underlying22 (.inr ⟨_, rfl⟩) sz5 by5 ze5 rfl rfl (fun h => ⟨absurd h (by omega), rfl⟩) rfl rfl (Src.row (k := 0) (j := 0) rfl (fun h => cut_zero (hA (by omega))) (fun _ => ⟨rfl, rfl, rfl⟩) (by simp [pRow, List.map_take]) (by simp; omega)) (fun _ => rfl) (by omega) (by omega) rfl hc2 ?_)
            intro A54 b54 c54 g54a g54b
            refine At.eStep [0, 6] (by kernel_rfl) (by simp) ?_
            refine ⟨?_, ?_⟩
            ·
              refine At.anyQ (some 76) (Q_loadA (k := 3) rfl rfl Try.underlying25 rfl sz25 (by first | omega | (simp <;> omega)) rfl) ?_
              refine At.eStep [6] (by kernel_rfl) (by simp) ?_
              refine At.anyS (S_appendM (some 82) 54 ((cx.take nc ++ [0#8])) (f := u8V) (l := (cx.take nc)) (L := [0#8]) rfl Try.underlying22 Try.underlying22 (.inr ⟨_, rfl⟩) sz5 by5 ze5 rfl rfl (fun h => ⟨g54a h, rfl⟩) rfl (by omega) (Src.row (k := 55) (j := 0) rfl (fun _ => rfl) (fun _ => ⟨rfl, rfl, rfl⟩) rfl rfl) (fun _ => rfl) (by omega) (by omega) rfl rfl ?_)
              intro A56 b56 c56 g56a g56b
              refine At.eStep [7] (by kernel_rfl) (by simp) ?_
              refine At.anyS (S_callV (some 83) [(54, _)] [17] (vs := [_, _, _, _]) rfl en25 rfl (VN (by simp) rfl View.all V0) (by simp) (r_Label (key := key) (lb := ([97#8] ++ l.take n1)) (cx := (cx.take nc ++ [0#8])) (nc := (cx.take nc ++ [0#8]).length) 32 rfl hkey (by decide) (by simp) (by simp; omega) (by omega) (fun h => g56a (by omega))) (by rintro _ _ ⟨A17, b17, c17, r17, m17, g17a, g17b, rfl, rfl⟩; rfl) ?_)
              rintro _ _ ⟨A17, b17, c17, r17, m17, g17a, g17b, rfl, rfl⟩
              refine At.eP 8 (some 75) (P_move rfl rfl) (by kernel_rfl) (by kernel_rfl) ?_
              refine At.eP 9 (some 84) (P_extract rfl rfl rfl) (by kernel_rfl) (by kernel_rfl) ?_
              refine At.eP 10 (some 85) (P_extract rfl rfl rfl) (by kernel_rfl) (by kernel_rfl) ?_
              refine At.eP 11 (some 17) (P_assign rfl rfl) (by kernel_rfl) (by kernel_rfl) ?_
              refine At.eP 12 (some 18) (P_assign rfl rfl) (by kernel_rfl) (by kernel_rfl) ?_
              refine At.eEnd (by kernel_rfl) ?_
              refine At.next ?_
              refine At.to [(1, _), (2, _), (3, _), (7, _), (8, _), (9, _), (10, _), (11, _), (12, _), (13, _), (14, _), (15, _), (16, _), (17, _), (18, _)] [(0, _), (3, _), (7, _), (9, _), (11, _), (13, _), (15, _), (17, _)] (AllL.cons_ (rfl) (AllL.cons_ (rfl) (AllL.cons_ (rfl) (AllL.cons_ (rfl) (AllL.cons_ (rfl) (AllL.cons_ (rfl) (AllL.cons_ (rfl) (AllL.cons_ (rfl) (AllL.cons_ (rfl) (AllL.cons_ (rfl) (AllL.cons_ (rfl) (AllL.cons_ (rfl) (AllL.cons_ (rfl) (AllL.cons_ (rfl) (AllL.cons_ (rfl) trivial))))))))))))))) (AllL.cons_ (rfl) (AllL.cons_ (rfl) (AllL.cons_ (rfl) (AllL.cons_ (rfl) (AllL.cons_ (rfl) (AllL.cons_ (rfl) (AllL.cons_ (rfl) (AllL.cons_ (rfl) trivial)))))))) ?_
              exact hKb _ _ ⟨_, _, _, _, _, rfl, rfl, g17a, g17b⟩
            ·
              refine At.anyS (S_appendM (some 82) 54 ((cx.take nc ++ [0#8])) (f := u8V) (l := (cx.take nc)) (L := [0#8]) rfl Try.underlying22 Try.underlying22 (.inr ⟨_, rfl⟩) sz5 by5 ze5 rfl rfl (fun h => ⟨g54a h, rfl⟩) rfl (by omega) (Src.row (k := 55) (j := 0) rfl (fun _ => rfl) (fun _ => ⟨rfl, rfl, rfl⟩) rfl rfl) (fun _ => rfl) (by omega) (by omega) rfl rfl ?_)
              intro A56 b56 c56 g56a g56b
              refine At.eStep [0] (by kernel_rfl) (by simp) ?_
              refine At.anyQ (some 76) (Q_loadA (k := 3) rfl rfl Try.underlying25 rfl sz25 (by first | omega | (simp <;> omega)) rfl) ?_
              refine At.eStep [7] (by kernel_rfl) (by simp) ?_
              refine At.anyS (S_callV (some 83) [(54, _)] [17] (vs := [_, _, _, _]) rfl en25 rfl (VN (by simp) rfl View.all V0) (by simp) (r_Label (key := key) (lb := ([97#8] ++ l.take n1)) (cx := (cx.take nc ++ [0#8])) (nc := (cx.take nc ++ [0#8]).length) 32 rfl hkey (by decide) (by simp) (by simp; omega) (by omega) (fun h => g56a (by omega))) (by rintro _ _ ⟨A17, b17, c17, r17, m17, g17a, g17b, rfl, rfl⟩; rfl) ?_)
              rintro _ _ ⟨A17, b17, c17, r17, m17, g17a, g17b, rfl, rfl⟩
              refine At.eP 8 (some 75) (P_move rfl rfl) (by kernel_rfl) (by kernel_rfl) ?_
              refine At.eP 9 (some 84) (P_extract rfl rfl rfl) (by kernel_rfl) (by kernel_rfl) ?_
              refine At.eP 10 (some 85) (P_extract rfl rfl rfl) (by kernel_rfl) (by kernel_rfl) ?_
              refine At.eP 11 (some 17) (P_assign rfl rfl) (by kernel_rfl) (by kernel_rfl) ?_
              refine At.eP 12 (some 18) (P_assign rfl rfl) (by kernel_rfl) (by kernel_rfl) ?_
              refine At.eEnd (by kernel_rfl) ?_
              refine At.next ?_
              refine At.to [(1, _), (2, _), (3, _), (7, _), (8, _), (9, _), (10, _), (11, _), (12, _), (13, _), (14, _), (15, _), (16, _), (17, _), (18, _)] [(0, _), (3, _), (7, _), (9, _), (11, _), (13, _), (15, _), (17, _)] (AllL.cons_ (rfl) (AllL.cons_ (rfl) (AllL.cons_ (rfl) (AllL.cons_ (rfl) (AllL.cons_ (rfl) (AllL.cons_ (rfl) (AllL.cons_ (rfl) (AllL.cons_ (rfl) (AllL.cons_ (rfl) (AllL.cons_ (rfl) (AllL.cons_ (rfl) (AllL.cons_ (rfl) (AllL.cons_ (rfl) (AllL.cons_ (rfl) (AllL.cons_ (rfl) trivial))))))))))))))) (AllL.cons_ (rfl) (AllL.cons_ (rfl) (AllL.cons_ (rfl) (AllL.cons_ (rfl) (AllL.cons_ (rfl) (AllL.cons_ (rfl) (AllL.cons_ (rfl) (AllL.cons_ (rfl) trivial)))))))) ?_
              exact hKb _ _ ⟨_, _, _, _, _, rfl, rfl, g17a, g17b⟩
      ·
        refine At.anyS (S_buildSliceV (some 81) 55 ([0#8].map u8V) rfl Try.underlying22 sz5 ze5 rfl rfl (by decide) (by decide) rfl rfl (fun b55 => ?_))
        refine At.eStep [0, 2] (by kernel_rfl) (by simp) ?_
        refine ⟨?_, ?_⟩
        ·
          refine At.anyQ (some 76) (Q_loadA (k := 3) rfl rfl Try.underlying25 rfl sz25 (by first | omega | (simp <;> omega)) rfl) ?_
          refine At.eStep [2] (by kernel_rfl) (by simp) ?_
          refine At.anyS (S_buildSlice0 (some 78) 54 rfl Try.underlying22 sz5 (fun b54 => ?_))
          refine At.eStep [4] (by kernel_rfl) (by simp) ?_
          refine At.anyS (S_appendM (some 80) 54 ((cx.take nc)) (f := u8V) (l := []) (L := (cx.take nc)) rfl Try.underlying22 Try.underlying22 (.inr ⟨_, rfl⟩) sz5 by5 ze5 rfl rfl (fun h => ⟨absurd h (by omega), rfl⟩) rfl rfl (Src.row (k := 0) (j := 0) rfl (fun h => cut_zero (hA (by omega))) (fun _ => ⟨rfl, rfl, rfl⟩) (by simp [pRow, List.map_take]) (by simp; omega)) (fun _ => rfl) (by omega) (by omega) rfl hc2 ?_)
          intro A54 b54 c54 g54a g54b
          refine At.eStep [6] (by kernel_rfl) (by simp) ?_
          refine At.anyS (S_appendM (some 82) 54 ((cx.take nc ++ [0#8])) (f := u8V) (l := (cx.take nc)) (L := [0#8]) rfl Try.underlying22 Try.underlying22 (.inr ⟨_, rfl⟩) sz5 by5 ze5 rfl rfl (fun h => ⟨g54a h, rfl⟩) rfl (by omega) (Src.row (k := 55) (j := 0) rfl (fun _ => rfl) (fun _ => ⟨rfl, rfl, rfl⟩) rfl rfl) (fun _ => rfl) (by omega) (by omega) rfl rfl ?_)
          intro A56 b56 c56 g56a g56b
          refine At.eStep [7] (by kernel_rfl) (by simp) ?_
          refine At.anyS (S_callV (some 83) [(54, _)] [17] (vs := [_, _, _, _]) rfl en25 rfl (VN (by simp) rfl View.all V0) (by simp) (r_Label (key := key) (lb := ([97#8] ++ l.take n1)) (cx := (cx.take nc ++ [0#8])) (nc := (cx.take nc ++ [0#8]).length) 32 rfl hkey (by decide) (by simp) (by simp; omega) (by omega) (fun h => g56a (by omega))) (by rintro _ _ ⟨A17, b17, c17, r17, m17, g17a, g17b, rfl, rfl⟩; rfl) ?_)
          rintro _ _ ⟨A17, b17, c17, r17, m17, g17a, g17b, rfl, rfl⟩
          refine At.eP 8 (some 75) (P_move rfl rfl) (by kernel_rfl) (by kernel_rfl) ?_
          refine At.eP 9 (some 84) (P_extract rfl rfl rfl) (by kernel_rfl) (by kernel_rfl) ?_
          refine At.eP 10 (some 85) (P_extract rfl rfl rfl) (by kernel_rfl) (by kernel_rfl) ?_
          refine At.eP 11 (some 17) (P_assign rfl rfl) (by kernel_rfl) (by kernel_rfl) ?_
          refine At.eP 12 (some 18) (P_assign rfl rfl) (by kernel_rfl) (by kernel_rfl) ?_
          refine At.eEnd (by kernel_rfl) ?_
          refine At.next ?_
          refine At.to [(1, _), (2, _), (3, _), (7, _), (8, _), (9, _), (10, _), (11, _), (12, _), (13, _), (14, _), (15, _), (16, _), (17, _), (18, _)] [(0, _), (3, _), (7, _), (9, _), (11, _), (13, _), (15, _), (17, _)] (AllL.cons_ (rfl) (AllL.cons_ (rfl) (AllL.cons_ (rfl) (AllL.cons_ (rfl) (AllL.cons_ (rfl) (AllL.cons_ (rfl) (AllL.cons_ (rfl) (AllL.cons_ (rfl) (AllL.cons_ (rfl) (AllL.cons_ (rfl) (AllL.cons_ (rfl) (AllL.cons_ (rfl) (AllL.cons_ (rfl) (AllL.cons_ (rfl) (AllL.cons_ (rfl) trivial))))))))))))))) (AllL.cons_ (rfl) (AllL.cons_ (rfl) (AllL.cons_ (rfl) (AllL.cons_ (rfl) (AllL.cons_ (rfl) (AllL.cons_ (rfl) (AllL.cons_ (rfl) (AllL.cons_ (rfl) trivial)))))))) ?_
          exact hKb _ _ ⟨_, _, _, _, _, rfl, rfl, g17a, g17b⟩
        ·
          refine At.anyS (S_buildSlice0 (some 78) 54 rfl Try.underlying22 sz5 (fun b54 => ?_))
          refine At.eStep [0, 4] (by kernel_rfl) (by simp) ?_
          refine ⟨?_, ?_⟩
          ·
            refine At.anyQ (some 76) (Q_loadA (k := 3) rfl rfl Try.underlying25 rfl sz25 (by first | omega | (simp <;> omega)) rfl) ?_
            refine At.eStep [4] (by kernel_rfl) (by simp) ?_
            refine At.anyS (S_appendM (some 80) 54 ((cx.take nc)) (f := u8V) (l := []) (L := (cx.take nc)) rfl Try.underlying22 Try.underlying22 (.inr ⟨_, rfl⟩) sz5 by5 ze5 rfl rfl (fun h => ⟨absurd h (by omega), rfl⟩) rfl rfl (Src.row (k := 0) (j := 0) rfl (fun h => cut_zero (hA (by omega))) (fun _ => ⟨rfl, rfl, rfl⟩) (by simp [pRow, List.map_take]) (by simp; omega)) (fun _ => rfl) (by omega) (by omega) rfl hc2 ?_)
            intro A54 b54 c54 g54a g54b
            refine At.eStep [6] (by kernel_rfl) (by simp) ?_
            refine At.anyS (S_appendM (some 82) 54 ((cx.take nc ++ [0#8])) (f := u8V) (l := (cx.take nc)) (L := [0#8]) rfl Try.underlying22 Try.underlying22 (.inr ⟨_, rfl⟩) sz5 by5 ze5 rfl rfl (fun h => ⟨g54a h, rfl⟩) rfl (by omega) (Src.row (k := 55) (j := 0) rfl (fun _ => rfl) (fun _ => ⟨rfl, rfl, rfl⟩) rfl rfl) (fun _ => rfl) (by omega) (by omega) rfl rfl ?_)
            intro A56 b56 c56 g56a g56b
            refine At.eStep [7] (by kernel_rfl) (by simp) ?_
            refine At.anyS (S_callV (some 83) [(54, _)] [17] (vs := [_, _, _, _]) rfl en25 rfl (VN (by simp) rfl View.all V0) (by simp) (r_Label (key := key) (lb := ([97#8] ++ l.take n1)) (cx := (cx.take nc ++ [0#8])) (nc := (cx.take nc ++ [0#8]).length) 32 rfl hkey (by decide) (by simp) (by simp; omega) (by omega) (fun h => g56a (by omega))) (by rintro _ _ ⟨A17, b17, c17, r17, m17, g17a, g17b, rfl, rfl⟩; rfl) ?_)
            rintro _ _ ⟨A17, b17, c17, r17, m17, g17a, g17b, rfl, rfl⟩
            refine At.eP 8 (some 75) (P_move rfl rfl) (by kernel_rfl) (by kernel_rfl) ?_
            refine At.eP 9 (some 84) (P_extract rfl rfl rfl) (by kernel_rfl) (by kernel_rfl) ?_
            refine At.eP 10 (some 85) (P_extract rfl rfl rfl) (by kernel_rfl) (by kernel_rfl) ?_
            refine At.eP 11 (some 17) (P_assign rfl rfl) (by kernel_rfl) (by kernel_rfl) ?_
            refine At.eP 12 (some 18) (P_assign rfl rfl) (by kernel_rfl) (by kernel_rfl) ?_
            refine At.eEnd (by kernel_rfl) ?_
            refine At.next ?_
            refine At.to [(1, _), (2, _), (3, _), (7, _), (8, _), (9, _), (10, _), (11, _), (12, _), (13, _), (14, _), (15, _), (16, _), (17, _), (18, _)] [(0, _), (3, _), (7, _), (9, _), (11, _), (13, _), (15, _), (17, _)] (AllL.cons_ (rfl) (AllL.cons_ (rfl) (AllL.cons_ (rfl) (AllL.cons_ (rfl) (AllL.cons_ (rfl) (AllL.cons_ (rfl) (AllL.cons_ (rfl) (AllL.cons_ (rfl) (AllL.cons_ (rfl) (AllL.cons_ (rfl) (AllL.cons_ (rfl) (AllL.cons_ (rfl) (AllL.cons_ (rfl) (AllL.cons_ (rfl) (AllL.cons_ (rfl) trivial))))))))))))))) (AllL.cons_ (rfl) (AllL.cons_ (rfl) (AllL.cons_ (rfl) (AllL.cons_ (rfl) (AllL.cons_ (rfl) (AllL.cons_ (rfl) (AllL.cons_ (rfl) (AllL.cons_ (rfl) trivial)))))))) ?_
            exact hKb _ _ ⟨_, _, _, _, _, rfl, rfl, g17a, g17b⟩
          ·
            refine At.anyS (S_appendM (some 80) 54 ((cx.take nc)) (f := u8V) (l := []) (L := (cx.take nc)) rfl Try.underlying22 Try.underlying22 (.inr ⟨_, rfl⟩) sz5 by5 ze5 rfl rfl (fun h => ⟨absurd h (by omega), rfl⟩) rfl rfl (Src.row (k := 0) (j := 0) rfl (fun h => cut_zero (hA (by omega))) (fun _ => ⟨rfl, rfl, rfl⟩) (by simp [pRow, List.map_take]) (by simp; omega)) (fun _ => rfl) (by omega) (by omega) rfl hc2 ?_)
            intro A54 b54 c54 g54a g54b
            refine At.eStep [0, 6] (by kernel_rfl) (by simp) ?_
            refine ⟨?_, ?_⟩
            ·
              refine At.anyQ (some 76) (Q_loadA (k := 3) rfl rfl Try.underlying25 rfl sz25 (by first | omega | (simp <;> omega)) rfl) ?_
              refine At.eStep [6] (by kernel_rfl) (by simp) ?_
              refine At.anyS (S_appendM (some 82) 54 ((cx.take nc ++ [0#8])) (f := u8V) (l := (cx.take nc)) (L := [0#8]) rfl Try.underlying22 Try.underlying22 (.inr ⟨_, rfl⟩) sz5 by5 ze5 rfl rfl (fun h => ⟨g54a h, rfl⟩) rfl (by omega) (Src.row (k := 55) (j := 0) rfl (fun _ => rfl) (fun _ => ⟨rfl, rfl, rfl⟩) rfl rfl) (fun _ => rfl) (by omega) (by omega) rfl rfl ?_)
              intro A56 b56 c56 g56a g56b
              refine At.eStep [7] (by kernel_rfl) (by simp) ?_
              refine At.anyS (S_callV (some 83) [(54, _)] [17] (vs := [_, _, _, _]) rfl en25 rfl (VN (by simp) rfl View.all V0) (by simp) (r_Label (key := key) (lb := ([97#8] ++ l.take n1)) (cx := (cx.take nc ++ [0#8])) (nc := (cx.take nc ++ [0#8]).length) 32 rfl hkey (by decide) (by simp) (by simp; omega) (by omega) (fun h => g56a (by omega))) (by rintro _ _ ⟨A17, b17, c17, r17, m17, g17a, g17b, rfl, rfl⟩; rfl) ?_)
              rintro _ _ ⟨A17, b17, c17, r17, m17, g17a, g17b, rfl, rfl⟩
              refine At.eP 8 (some 75) (P_move rfl rfl) (by kernel_rfl) (by kernel_rfl) ?_
              refine At.eP 9 (some 84) (P_extract rfl rfl rfl) (by kernel_rfl) (by kernel_rfl) ?_
              refine At.eP 10 (some 85) (P_extract rfl rfl rfl) (by kernel_rfl) (by kernel_rfl) ?_
              refine At.eP 11 (some 17) (P_assign rfl rfl) (by kernel_rfl) (by kernel_rfl) ?_
              refine At.eP 12 (some 18) (P_assign rfl rfl) (by kernel_rfl) (by kernel_rfl) ?_
              refine At.eEnd (by kernel_rfl) ?_
              refine At.next ?_
              refine At.to [(1, _), (2, _), (3, _), (7, _), (8, _), (9, _), (10, _), (11, _), (12, _), (13, _), (14, _), (15, _), (16, _), (17, _), (18, _)] [(0, _), (3, _), (7, _), (9, _), (11, _), (13, _), (15, _), (17, _)] (AllL.cons_ (rfl) (AllL.cons_ (rfl) (AllL.cons_ (rfl) (AllL.cons_ (rfl) (AllL.cons_ (rfl) (AllL.cons_ (rfl) (AllL.cons_ (rfl) (AllL.cons_ (rfl) (AllL.cons_ (rfl) (AllL.cons_ (rfl) (AllL.cons_ (rfl) (AllL.cons_ (rfl) (AllL.cons_ (rfl) (AllL.cons_ (rfl) (AllL.cons_ (rfl) trivial))))))))))))))) (AllL.cons_ (rfl) (AllL.cons_ (rfl) (AllL.cons_ (rfl) (AllL.cons_ (rfl) (AllL.cons_ (rfl) (AllL.cons_ (rfl) (AllL.cons_ (rfl) (AllL.cons_ (rfl) trivial)))))))) ?_
              exact hKb _ _ ⟨_, _, _, _, _, rfl, rfl, g17a, g17b⟩
            ·
              refine At.anyS (S_appendM (some 82) 54 ((cx.take nc ++ [0#8])) (f := u8V) (l := (cx.take nc)) (L := [0#8]) rfl Try.underlying22 Try.underlying22 (.inr ⟨_, rfl⟩) sz5 by5 ze5 rfl rfl (fun h => ⟨g54a h, rfl⟩) rfl (by omega) (Src.row (k := 55) (j := 0) rfl (fun _ => rfl) (fun _ => ⟨rfl, rfl, rfl⟩) rfl rfl) (fun _ => rfl) (by omega) (by omega) rfl rfl ?_)
              intro A56 b56 c56 g56a g56b
              refine At.eStep [0] (by kernel_rfl) (by simp) ?_
              refine At.anyQ (some 76) (Q_loadA (k := 3) rfl rfl Try.underlying25 rfl sz25 (by first | omega | (simp <;> omega)) rfl) ?_
              refine At.eStep [7] (by kernel_rfl) (by simp) ?_
              refine At.anyS (S_callV (some 83) [(54, _)] [17] (vs := [_, _, _, _]) rfl en25 rfl (VN (by simp) rfl View.all V0) (by simp) (r_Label (key := key) (lb := ([97#8] ++ l.take n1)) (cx := (cx.take nc ++ [0#8])) (nc := (cx.take nc ++ [0#8]).length) 32 rfl hkey (by decide) (by simp) (by simp; omega) (by omega) (fun h => g56a (by omega))) (by rintro _ _ ⟨A17, b17, c17, r17, m17, g17a, g17b, rfl, rfl⟩; rfl) ?_)
              rintro _ _ ⟨A17, b17, c17, r17, m17, g17a, g17b, rfl, rfl⟩
              refine At.eP 8 (some 75) (P_move rfl rfl) (by kernel_rfl) (by kernel_rfl) ?_
              refine At.eP 9 (some 84) (P_extract rfl rfl rfl) (by kernel_rfl) (by kernel_rfl) ?_
              refine At.eP 10 (some 85) (P_extract rfl rfl rfl) (by kernel_rfl) (by kernel_rfl) ?_
              refine At.eP 11 (some 17) (P_assign rfl rfl) (by kernel_rfl) (by kernel_rfl) ?_
              refine At.eP 12 (some 18) (P_assign rfl rfl) (by kernel_rfl) (by kernel_rfl) ?_
              refine At.eEnd (by kernel_rfl) ?_
              refine At.next ?_
              refine At.to [(1, _), (2, _), (3, _), (7, _), (8, _), (9, _), (10, _), (11, _), (12, _), (13, _), (14, _), (15, _), (16, _), (17, _), (18, _)] [(0, _), (3, _), (7, _), (9, _), (11, _), (13, _), (15, _), (17, _)] (AllL.cons_ (rfl) (AllL.cons_ (rfl) (AllL.cons_ (rfl) (AllL.cons_ (rfl) (AllL.cons_ (rfl) (AllL.cons_ (rfl) (AllL.cons_ (rfl) (AllL.cons_ (rfl) (AllL.cons_ (rfl) (AllL.cons_ (rfl) (AllL.cons_ (rfl) (AllL.cons_ (rfl) (AllL.cons_ (rfl) (AllL.cons_ (rfl) (AllL.cons_ (rfl) trivial))))))))))))))) (AllL.cons_ (rfl) (AllL.cons_ (rfl) (AllL.cons_ (rfl) (AllL.cons_ (rfl) (AllL.cons_ (rfl) (AllL.cons_ (rfl) (AllL.cons_ (rfl) (AllL.cons_ (rfl) trivial)))))))) ?_
              exact hKb _ _ ⟨_, _, _, _, _, rfl, rfl, g17a, g17b⟩
    · rintro fr H ⟨A17, b17, c17, r17, m17, rfl, rfl, g17a, g17b⟩
      refine At.next ?_
      refine At.seq ?_
      refine At.region ?_
      refine At.p (some 86) (P_indexAddr_arr1 (j := 3) rfl Try.underlying25 sz5 rfl rfl rfl (by decide)) ?_
      refine At.q (some 87) (Q_loadM (k := 3) (0#8) rfl rfl Try.underlying5 rfl rfl (by first | omega | (simp <;> omega))) ?_
      refine At.p (some 88) (P_xor_w UK.u8 (b := 8#8) rfl rfl rfl) ?_
      refine At.p (some 89) (P_indexAddr_arr1 (j := 3) rfl Try.underlying25 sz5 rfl rfl rfl (by decide)) ?_
      refine At.s (S_storeM none (f := u8V) (k := 3) rfl rfl rfl sz5 rfl rfl rfl (by first | omega | (simp <;> omega)) ?_)
      refine At.nil ?_
      refine At.next ?_
      refine At.seq ?_
      have hK2 : (key.set 3 (key.getD 3 0#8 ^^^ 8#8)).length = 32 := by simp [hkey]
      generalize (key.set 3 (key.getD 3 0#8 ^^^ 8#8)) = K2 at *
      refine At.region ?_
      refine At.q (some 91) (Q_loadA (k := 3) rfl rfl Try.underlying25 rfl sz25 (by first | omega | (simp <;> omega)) rfl) ?_
      refine At.p (some 92) (P_move rfl rfl) ?_
      refine At.p (some 93) (P_move rfl rfl) ?_
      refine At.s (S_callV (some 94) [(0, _)] [19] (vs := [_, _, _, _]) rfl en24 rfl (VN (by simp) rfl (View.sub (j := 0) (m := nc) rfl rfl) V0) (by simp) (c_Label (key := K2) (lb := ([97#8] ++ l.take n1)) (cx := (cx.take nc)) (nc := nc) 32 hc2 hK2 (by decide) (by simp) (by simp; omega) (by omega) (fun h => cut_zero (hA (by omega)))) (by rintro _ _ ⟨A19, b19, c19, r19, m19, g19a, g19b, rfl, rfl⟩; rfl) ?_)
      rintro _ _ ⟨A19, b19, c19, r19, m19, g19a, g19b, rfl, rfl⟩
      refine At.p (some 90) (P_move rfl rfl) ?_
      refine At.p (some 95) (P_extract rfl rfl rfl) ?_
      refine At.p (some 96) (P_extract rfl rfl rfl) ?_
      refine At.p (some 19) (P_assign rfl rfl) ?_
      refine At.p (some 20) (P_assign rfl rfl) ?_
      refine At.nil ?_
      refine At.next ?_
      refine At.seq ?_
      refine At.region ?_
      refine At.q (some 98) (Q_loadA (k := 3) rfl rfl Try.underlying25 rfl sz25 (by first | omega | (simp <;> omega)) rfl) ?_
      refine At.p (some 99) (P_move rfl rfl) ?_
      refine At.p (some 100) (P_move rfl rfl) ?_
      refine At.s (S_callV (some 101) [(0, _)] [21] (vs := [_, _, _, _]) rfl en25 rfl (VN (by simp) rfl (View.sub (j := 0) (m := nc) rfl rfl) V0) (by simp) (r_Label (key := K2) (lb := ([97#8] ++ l.take n1)) (cx := (cx.take nc)) (nc := nc) 32 hc2 hK2 (by decide) (by simp) (by simp; omega) (by omega) (fun h => cut_zero (hA (by omega)))) (by rintro _ _ ⟨A21, b21, c21, r21, m21, g21a, g21b, rfl, rfl⟩; rfl) ?_)
      rintro _ _ ⟨A21, b21, c21, r21, m21, g21a, g21b, rfl, rfl⟩
      refine At.p (some 97) (P_move rfl rfl) ?_
      refine At.p (some 102) (P_extract rfl rfl rfl) ?_
      refine At.p (some 103) (P_extract rfl rfl rfl) ?_
      refine At.p (some 21) (P_assign rfl rfl) ?_
      refine At.p (some 22) (P_assign rfl rfl) ?_
      refine At.nil ?_
      refine At.next ?_
      refine At.seq ?_
      refine At.region ?_
      refine At.s (S_callV (some 104) [] [] (vs := []) rfl en22 rfl V0 (by simp) (c_keys) (by rintro _ _ ⟨rfl, rfl⟩; rfl) ?_)
      rintro _ _ ⟨rfl, rfl⟩
      refine At.p (some 105) (P_move rfl rfl) ?_
      refine At.gy (t := 105) rfl rfl rfl rfl ?_
      refine At.p (some 106) (P_move rfl rfl) ?_
      refine At.gy (t := 105) rfl rfl rfl rfl ?_
      refine At.p (some 107) (P_cmp rfl rfl rfl rfl rfl rfl) ?_
      refine At.p (some 108) (P_pick_t rfl rfl rfl rfl) ?_
      refine At.p (some 109) (P_move rfl rfl) ?_
      refine At.gy (t := 109) rfl (by simp) rfl rfl ?_
      refine At.p (some 110) (P_move rfl rfl) ?_
      refine At.gy (t := 109) rfl (by simp) rfl rfl ?_
      refine At.p (some 111) (P_cmp rfl rfl rfl rfl rfl rfl) ?_
      refine At.p (some 112) (P_pick_t rfl rfl (by simp) rfl) ?_
      refine At.p (some 113) (P_move rfl rfl) ?_
      refine At.gy (t := 113) rfl (by simp) rfl rfl ?_
      refine At.p (some 114) (P_move rfl rfl) ?_
      refine At.gy (t := 113) rfl (by simp) rfl rfl ?_
      refine At.p (some 115) (P_cmp rfl rfl rfl rfl rfl rfl) ?_
      refine At.p (some 116) (P_pick_t rfl rfl (by simp) rfl) ?_
      refine At.p (some 117) (P_move rfl rfl) ?_
      refine At.gy (t := 117) rfl (by simp) rfl rfl ?_
      refine At.p (some 118) (P_move rfl rfl) ?_
      refine At.gy (t := 117) rfl (by simp) rfl rfl ?_
      refine At.p (some 119) (P_cmp rfl rfl rfl rfl rfl rfl) ?_
      refine At.p (some 120) (P_pick_t rfl rfl (by simp) rfl) ?_
      refine At.p (some 121) (P_move rfl rfl) ?_
      refine At.gy (t := 121) rfl (by simp) rfl rfl ?_
      refine At.p (some 122) (P_move rfl rfl) ?_
      refine At.gy (t := 121) rfl (by simp) rfl rfl ?_
      refine At.q (some 123) (Q_strN (l := (labS key ([97#8] ++ l.take n1) (cx.take nc) 32)) (n := 32) (k := 7) (j := 0) (labS_len _ _ _ _) rfl Try.underlying22 Try.underlying5 Try.underlying9 rfl (fun h => g7a h) (fun _ => ⟨rfl, rfl, rfl⟩) (by rw [List.drop_zero, List.map_append, List.take_append_of_le_length (by rw [List.length_map, labS_len]; exact Nat.le_refl _), List.take_of_length_le (by rw [List.length_map, labS_len]; exact Nat.le_refl _)])) ?_
      refine At.gy (t := 121) rfl (by simp) rfl rfl ?_
      refine At.p (some 124) (P_move rfl rfl) ?_
      refine At.gy (t := 121) rfl (by simp) rfl rfl ?_
      refine At.q (some 125) (Q_strN (l := (labS key ([97#8] ++ l.take n1 ++ [98#8]) (cx.take nc) 32)) (n := 32) (k := 9) (j := 0) (labS_len _ _ _ _) rfl Try.underlying22 Try.underlying5 Try.underlying9 rfl (fun h => g9a h) (fun _ => ⟨rfl, rfl, rfl⟩) (by rw [List.drop_zero, List.map_append, List.take_append_of_le_length (by rw [List.length_map, labS_len]; exact Nat.le_refl _), List.take_of_length_le (by rw [List.length_map, labS_len]; exact Nat.le_refl _)])) ?_
      refine At.gy (t := 121) rfl (by simp) rfl rfl ?_
      refine At.p (some 126) (P_eql_str rfl rfl rfl) ?_
      refine At.gy (t := 121) rfl (by simp) rfl rfl ?_
      refine At.p (some 127) (P_move rfl rfl) ?_
      refine At.gy (t := 121) rfl (by simp) rfl rfl ?_
      refine At.q (some 128) (Q_strN (l := (labS key ([97#8] ++ l.take n1) (cx.take nc) 32)) (n := 32) (k := 13) (j := 0) (labS_len _ _ _ _) rfl Try.underlying22 Try.underlying5 Try.underlying9 rfl (fun h => g13a h) (fun _ => ⟨rfl, rfl, rfl⟩) (by rw [List.drop_zero, List.map_append, List.take_append_of_le_length (by rw [List.length_map, labS_len]; exact Nat.le_refl _), List.take_of_length_le (by rw [List.length_map, labS_len]; exact Nat.le_refl _)])) ?_
      refine At.gy (t := 121) rfl (by simp) rfl rfl ?_
      refine At.p (some 129) (P_move rfl rfl) ?_
      refine At.gy (t := 121) rfl (by simp) rfl rfl ?_
      refine At.q (some 130) (Q_strN (l := (labS key ([97#8] ++ l.take n1 ++ [98#8]) (cx.take nc) 32)) (n := 32) (k := 15) (j := 0) (labS_len _ _ _ _) rfl Try.underlying22 Try.underlying5 Try.underlying9 rfl (fun h => g15a h) (fun _ => ⟨rfl, rfl, rfl⟩) (by rw [List.drop_zero, List.map_append, List.take_append_of_le_length (by rw [List.length_map, labS_len]; exact Nat.le_refl _), List.take_of_length_le (by rw [List.length_map, labS_len]; exact Nat.le_refl _)])) ?_
      refine At.gy (t := 121) rfl (by simp) rfl rfl ?_
      refine At.p (some 131) (P_eql_str rfl rfl rfl) ?_
      refine At.gy (t := 121) rfl (by simp) rfl rfl ?_
      refine At.p (some 132) (P_eql_bool rfl Try.underlying4 rfl rfl) ?_
      refine At.p (some 133) (P_pick_t rfl rfl (by simp) rfl) ?_
      refine At.p (some 134) (P_move rfl rfl) ?_
      refine At.gy (t := 134) rfl (by simp) rfl rfl ?_
      refine At.p (some 135) (P_move rfl rfl) ?_
      refine At.gy (t := 134) rfl (by simp) rfl rfl ?_
      refine At.q (some 136) (Q_strN (l := (labS key ([97#8] ++ l.take n1) (cx.take nc) 32)) (n := 32) (k := 7) (j := 0) (labS_len _ _ _ _) rfl Try.underlying22 Try.underlying5 Try.underlying9 rfl (fun h => g7a h) (fun _ => ⟨rfl, rfl, rfl⟩) (by rw [List.drop_zero, List.map_append, List.take_append_of_le_length (by rw [List.length_map, labS_len]; exact Nat.le_refl _), List.take_of_length_le (by rw [List.length_map, labS_len]; exact Nat.le_refl _)])) ?_
      refine At.gy (t := 134) rfl (by simp) rfl rfl ?_
      refine At.p (some 137) (P_move rfl rfl) ?_
      refine At.gy (t := 134) rfl (by simp) rfl rfl ?_
      refine At.q (some 138) (Q_strN (l := (labS key ([97#8] ++ l.take n1) (cx.take nc ++ [0#8]) 32)) (n := 32) (k := 11) (j := 0) (labS_len _ _ _ _) rfl Try.underlying22 Try.underlying5 Try.underlying9 rfl (fun h => g11a h) (fun _ => ⟨rfl, rfl, rfl⟩) (by rw [List.drop_zero, List.map_append, List.take_append_of_le_length (by rw [List.length_map, labS_len]; exact Nat.le_refl _), List.take_of_length_le (by rw [List.length_map, labS_len]; exact Nat.le_refl _)])) ?_
      refine At.gy (t := 134) rfl (by simp) rfl rfl ?_
      refine At.p (some 139) (P_eql_str rfl rfl rfl) ?_
      refine At.gy (t := 134) rfl (by simp) rfl rfl ?_
      refine At.p (some 140) (P_move rfl rfl) ?_
      refine At.gy (t := 134) rfl (by simp) rfl rfl ?_
      refine At.q (some 141) (Q_strN (l := (labS key ([97#8] ++ l.take n1) (cx.take nc) 32)) (n := 32) (k := 13) (j := 0) (labS_len _ _ _ _) rfl Try.underlying22 Try.underlying5 Try.underlying9 rfl (fun h => g13a h) (fun _ => ⟨rfl, rfl, rfl⟩) (by rw [List.drop_zero, List.map_append, List.take_append_of_le_length (by rw [List.length_map, labS_len]; exact Nat.le_refl _), List.take_of_length_le (by rw [List.length_map, labS_len]; exact Nat.le_refl _)])) ?_
      refine At.gy (t := 134) rfl (by simp) rfl rfl ?_
      refine At.p (some 142) (P_move rfl rfl) ?_
      refine At.gy (t := 134) rfl (by simp) rfl rfl ?_
      refine At.q (some 143) (Q_strN (l := (labS key ([97#8] ++ l.take n1) (cx.take nc ++ [0#8]) 32)) (n := 32) (k := 17) (j := 0) (labS_len _ _ _ _) rfl Try.underlying22 Try.underlying5 Try.underlying9 rfl (fun h => g17a h) (fun _ => ⟨rfl, rfl, rfl⟩) (by rw [List.drop_zero, List.map_append, List.take_append_of_le_length (by rw [List.length_map, labS_len]; exact Nat.le_refl _), List.take_of_length_le (by rw [List.length_map, labS_len]; exact Nat.le_refl _)])) ?_
      refine At.gy (t := 134) rfl (by simp) rfl rfl ?_
      refine At.p (some 144) (P_eql_str rfl rfl rfl) ?_
      refine At.gy (t := 134) rfl (by simp) rfl rfl ?_
      refine At.p (some 145) (P_eql_bool rfl Try.underlying4 rfl rfl) ?_
      refine At.p (some 146) (P_pick_t rfl rfl (by simp) rfl) ?_
      refine At.p (some 147) (P_move rfl rfl) ?_
      refine At.gy (t := 147) rfl (by simp) rfl rfl ?_
      refine At.p (some 148) (P_move rfl rfl) ?_
      refine At.gy (t := 147) rfl (by simp) rfl rfl ?_
      refine At.q (some 149) (Q_strN (l := (labS key ([97#8] ++ l.take n1) (cx.take nc) 32)) (n := 32) (k := 7) (j := 0) (labS_len _ _ _ _) rfl Try.underlying22 Try.underlying5 Try.underlying9 rfl (fun h => g7a h) (fun _ => ⟨rfl, rfl, rfl⟩) (by rw [List.drop_zero, List.map_append, List.take_append_of_le_length (by rw [List.length_map, labS_len]; exact Nat.le_refl _), List.take_of_length_le (by rw [List.length_map, labS_len]; exact Nat.le_refl _)])) ?_
      refine At.gy (t := 147) rfl (by simp) rfl rfl ?_
      refine At.p (some 150) (P_move rfl rfl) ?_
      refine At.gy (t := 147) rfl (by simp) rfl rfl ?_
      refine At.q (some 151) (Q_strN (l := (labS K2 ([97#8] ++ l.take n1) (cx.take nc) 32)) (n := 32) (k := 19) (j := 0) (labS_len _ _ _ _) rfl Try.underlying22 Try.underlying5 Try.underlying9 rfl (fun h => g19a h) (fun _ => ⟨rfl, rfl, rfl⟩) (by rw [List.drop_zero, List.map_append, List.take_append_of_le_length (by rw [List.length_map, labS_len]; exact Nat.le_refl _), List.take_of_length_le (by rw [List.length_map, labS_len]; exact Nat.le_refl _)])) ?_
      refine At.gy (t := 147) rfl (by simp) rfl rfl ?_
      refine At.p (some 152) (P_eql_str rfl rfl rfl) ?_
      refine At.gy (t := 147) rfl (by simp) rfl rfl ?_
      refine At.p (some 153) (P_move rfl rfl) ?_
      refine At.gy (t := 147) rfl (by simp) rfl rfl ?_
      refine At.q (some 154) (Q_strN (l := (labS key ([97#8] ++ l.take n1) (cx.take nc) 32)) (n := 32) (k := 13) (j := 0) (labS_len _ _ _ _) rfl Try.underlying22 Try.underlying5 Try.underlying9 rfl (fun h => g13a h) (fun _ => ⟨rfl, rfl, rfl⟩) (by rw [List.drop_zero, List.map_append, List.take_append_of_le_length (by rw [List.length_map, labS_len]; exact Nat.le_refl _), List.take_of_length_le (by rw [List.length_map, labS_len]; exact Nat.le_refl _)])) ?_
      refine At.gy (t := 147) rfl (by simp) rfl rfl ?_
      refine At.p (some 155) (P_move rfl rfl) ?_
      refine At.gy (t := 147) rfl (by simp) rfl rfl ?_
      refine At.q (some 156) (Q_strN (l := (labS K2 ([97#8] ++ l.take n1) (cx.take nc) 32)) (n := 32) (k := 21) (j := 0) (labS_len _ _ _ _) rfl Try.underlying22 Try.underlying5 Try.underlying9 rfl (fun h => g21a h) (fun _ => ⟨rfl, rfl, rfl⟩) (by rw [List.drop_zero, List.map_append, List.take_append_of_le_length (by rw [List.length_map, labS_len]; exact Nat.le_refl _), List.take_of_length_le (by rw [List.length_map, labS_len]; exact Nat.le_refl _)])) ?_
      refine At.gy (t := 147) rfl (by simp) rfl rfl ?_
      refine At.p (some 157) (P_eql_str rfl rfl rfl) ?_
      refine At.gy (t := 147) rfl (by simp) rfl rfl ?_
      refine At.p (some 158) (P_eql_bool rfl Try.underlying4 rfl rfl) ?_
      refine At.p (some 159) (P_pick_t rfl rfl (by simp) rfl) ?_
      refine At.p (some 6) (P_assign rfl rfl) ?_
      refine At.nil ?_
      refine At.next ?_
      refine At.ret ?_
      refine At.give (.inl rfl) [] (rows' := []) (vs := [_]) rfl ⟨rfl, trivial⟩ rfl (by simp) (by simp) ⟨congrArg Value.bool (by simp), rfl⟩
end Go.Proofs.Ytdkeadfhejkidaa
