import Derived.Test.YtihciioopdalnaaYS1
namespace Go.Proofs.Ytihciioopdalnaa
set_option maxRecDepth 20000
set_option linter.unusedVariables false
set_option linter.unusedSimpArgs false
open Go.SE Go.RowKit
attribute [local irreducible] sumS macS expS labS
theorem early0 : earlyS ([] : List (BitVec 8)) = [51#8, 173#8, 10#8, 28#8, 96#8, 126#8, 192#8, 59#8, 9#8, 230#8, 205#8, 152#8, 147#8, 104#8, 12#8, 226#8, 16#8, 173#8, 243#8, 0#8, 170#8, 31#8, 38#8, 96#8, 225#8, 178#8, 46#8, 16#8, 241#8, 112#8, 249#8, 42#8] := by kernel_rfl
def nms : List (List (BitVec 8)) := [[99#8, 32#8, 104#8, 115#8, 32#8, 116#8, 114#8, 97#8, 102#8, 102#8, 105#8, 99#8], [115#8, 32#8, 104#8, 115#8, 32#8, 116#8, 114#8, 97#8, 102#8, 102#8, 105#8, 99#8], [99#8, 32#8, 97#8, 112#8, 32#8, 116#8, 114#8, 97#8, 102#8, 102#8, 105#8, 99#8], [115#8, 32#8, 97#8, 112#8, 32#8, 116#8, 114#8, 97#8, 102#8, 102#8, 105#8, 99#8], [120#8]]
theorem nms_len {k : Nat} (h : k < 5) : 0 < (nms.getD k []).length ∧ (nms.getD k []).length ≤ 12 := by
  have : k = 0 ∨ k = 1 ∨ k = 2 ∨ k = 3 ∨ k = 4 := by omega
  rcases this with rfl | rfl | rfl | rfl | rfl <;> decide

set_option maxHeartbeats 2000000 in
theorem c_starts   :
    Con Try.prog 18 [] [] (fun v rs => v = .bool true ∧ rs = []) := by
  refine Con.enter Try.func18 Try.ntmps18 (Nat.le_of_ble_eq_true rfl) rfl fun w => ?_
  refine At.seq ?_
  refine At.region ?_
  refine At.p (some 0) (P_assign rfl rfl) ?_
  refine At.nil ?_
  refine At.next ?_
  refine At.seq ?_
  refine At.region ?_
  refine At.s (S_callV (some 2) [(98, _)] [] (vs := [_]) rfl en13 rfl (VE rfl rfl V0) (by simp) (c_Start (psk := ([] : List (BitVec 8))) (npsk := 0) (Apsk := none) (cpsk := 0) (bpsk := 0) (qpsk := 0) LN (fun h => absurd h (Nat.lt_irrefl 0)) OG) (by rintro _ _ ⟨rfl, rfl⟩; rfl) ?_)
  rintro _ _ ⟨rfl, rfl⟩
  have := earlyS_len ([] : List (BitVec 8))
  refine At.s (S_alloc (some 1) 1 (zs := [(List.replicate 32 0#8).map u8V, (List.replicate 32 0#8).map u8V, (List.replicate 32 0#8).map u8V].flatten) rfl ze25 rfl (fun b1 => ?_))
  refine At.s (S_storeA none (k := 1) (vs := [(earlyS ([] : List (BitVec 8))).map u8V, (List.replicate 32 0#8).map u8V, (List.replicate 32 0#8).map u8V].flatten) rfl rfl rfl (by rw [sz25]; exact congrArg some LN) rfl (one_flatc (one_map (fun _ => rfl)) (one_flatc (one_map (fun _ => rfl)) (one_flatc (one_map (fun _ => rfl)) one_flat0))) NG rfl LN ?_)
  refine At.nil ?_
  refine At.next ?_
  refine At.seq ?_
  refine At.region ?_
  refine At.p (some 3) (P_fieldAddr0 (off := 0) rfl Try.underlying25 rfl sz23 rfl rfl) ?_
  refine At.p (some 4) (P_indexAddr_arr1 (j := 0) rfl Try.underlying23 sz5 rfl rfl rfl (by decide)) ?_
  refine At.q (some 5) (Q_loadO (k := 1) (v := u8V ((earlyS ([] : List (BitVec 8))).getD 0 0#8)) rfl rfl Try.underlying5 rfl rfl (seg_getM (i := 0) (p := 0) rfl LN OG)) ?_
  refine At.p (some 6) (P_eql_w (n := 8) (b := 51#8) rfl rfl rfl) ?_
  refine At.p (some 7) (P_move rfl rfl) ?_
  refine At.gy (t := 7) rfl (by rw [early0]; rfl) rfl rfl ?_
  refine At.p (some 8) (P_fieldAddr0 (off := 0) rfl Try.underlying25 rfl sz23 rfl rfl) ?_
  refine At.gy (t := 7) rfl (by rw [early0]; rfl) rfl rfl ?_
  refine At.p (some 9) (P_indexAddr_arr1 (j := 1) rfl Try.underlying23 sz5 rfl rfl rfl (by decide)) ?_
  refine At.gy (t := 7) rfl (by rw [early0]; rfl) rfl rfl ?_
  refine At.q (some 10) (Q_loadO (k := 1) (v := u8V ((earlyS ([] : List (BitVec 8))).getD 1 0#8)) rfl rfl Try.underlying5 rfl rfl (seg_getM (i := 0) (p := 1) rfl LN OG)) ?_
  refine At.gy (t := 7) rfl (by rw [early0]; rfl) rfl rfl ?_
  refine At.p (some 11) (P_eql_w (n := 8) (b := 173#8) rfl rfl rfl) ?_
  refine At.p (some 12) (P_pick_t rfl rfl (by rw [early0]; rfl) rfl) ?_
  refine At.p (some 13) (P_move rfl rfl) ?_
  refine At.gy (t := 13) rfl (by rw [early0]; rfl) rfl rfl ?_
  refine At.p (some 14) (P_fieldAddr0 (off := 0) rfl Try.underlying25 rfl sz23 rfl rfl) ?_
  refine At.gy (t := 13) rfl (by rw [early0]; rfl) rfl rfl ?_
  refine At.p (some 15) (P_indexAddr_arr1 (j := 7) rfl Try.underlying23 sz5 rfl rfl rfl (by decide)) ?_
  refine At.gy (t := 13) rfl (by rw [early0]; rfl) rfl rfl ?_
  refine At.q (some 16) (Q_loadO (k := 1) (v := u8V ((earlyS ([] : List (BitVec 8))).getD 7 0#8)) rfl rfl Try.underlying5 rfl rfl (seg_getM (i := 0) (p := 7) rfl LN OG)) ?_
  refine At.gy (t := 13) rfl (by rw [early0]; rfl) rfl rfl ?_
  refine At.p (some 17) (P_eql_w (n := 8) (b := 59#8) rfl rfl rfl) ?_
  refine At.p (some 18) (P_pick_t rfl rfl (by rw [early0]; rfl) rfl) ?_
  refine At.p (some 19) (P_move rfl rfl) ?_
  refine At.gy (t := 19) rfl (by rw [early0]; rfl) rfl rfl ?_
  refine At.p (some 20) (P_fieldAddr0 (off := 32) rfl Try.underlying25 rfl sz23 rfl rfl) ?_
  refine At.gy (t := 19) rfl (by rw [early0]; rfl) rfl rfl ?_
  refine At.q (some 21) (Q_loadN (k := 1) (j := 32) (cs := (List.replicate 32 0#8).map u8V) rfl rfl Try.underlying23 rfl sz23 rfl rfl rfl (seg_at (i := 1) rfl LN LN) LN) ?_
  refine At.gy (t := 19) rfl (by rw [early0]; rfl) rfl rfl ?_
  refine At.p (some 22) (P_build_arr (cs := ((List.replicate 32 0#8).map u8V).toArray) (parts := _) (vs := []) rfl Try.underlying23 sz5 ze23 rfl rfl) ?_
  refine At.gy (t := 19) rfl (by rw [early0]; rfl) rfl rfl ?_
  refine At.p (some 23) (P_eql_arr (k := .u8) (xs := (List.replicate 32 0#8)) (ys := (List.replicate 32 0#8)) rfl Try.underlying23 Try.underlying5 sz5 Try.eqGuardType23 rfl rfl LN LN) ?_
  refine At.p (some 24) (P_pick_t rfl rfl (by rw [early0]; rfl) rfl) ?_
  refine At.p (some 0) (P_assign rfl rfl) ?_
  refine At.nil ?_
  refine At.next ?_
  refine At.ret ?_
  have hq0 : ((List.replicate 32 0#8) == (List.replicate 32 0#8)) = true := by first | (simp; done) | (simp; rw [Bool.eq_iff_iff]; simp)
  refine At.give (.inl rfl) [] (rows' := []) (vs := [_]) rfl ⟨rfl, trivial⟩ rfl (by simp) (by simp) ⟨(by first | (rw [hq0]; try rfl; done) | (rw [← hq0]; try rfl; done) | (simp only [hq0]; try rfl; done)), (by first | (rw [hq0]; try rfl; done) | (rw [← hq0]; try rfl; done) | (simp only [hq0]; try rfl; done))⟩

set_option maxHeartbeats 2000000 in
theorem l_Secrets {psk : List (BitVec 8)} {Apsk : Option Addr} {npsk cpsk bpsk qpsk : Nat} {sh : List (BitVec 8)} (hnpsk : psk.length = npsk) (hApsk : 0 < npsk → Apsk = some ⟨bpsk, qpsk, none⟩) (hcpsk : npsk ≤ cpsk) (hsh : sh.length = 32) :
    Con Try.prog 3 [.slice Apsk npsk cpsk, aggK sh] [pRow bpsk qpsk psk] (fun v rs => v = .bool true ∧ rs = []) := by
  refine Con.enter Try.func3 Try.ntmps3 (Nat.le_of_ble_eq_true rfl) rfl fun w => ?_
  refine At.seq ?_
  refine At.region ?_
  refine At.s (S_box (some 3) 3 (zs := (sh).map u8V) rfl rfl rfl (fun b3 => ?_))
  refine At.p (some 4) (P_assign rfl rfl) ?_
  refine At.nil ?_
  refine At.next ?_
  refine At.seq ?_
  refine At.region ?_
  refine At.p (some 10) (P_move rfl rfl) ?_
  refine At.p (some 11) (P_move rfl rfl) ?_
  refine At.p (some 12) (P_len_sl rfl rfl ⟨_, Try.underlying22⟩ rfl) ?_
  refine At.p (some 13) (P_min2 rfl rfl rfl rfl) ?_
  refine At.p (some 14) (P_slice_sl (l := 0) (h := (min npsk 60)) (m := cpsk) rfl Try.underlying22 sz5 rfl rfl ⟨_, _, rfl, by omega⟩ rfl DO DO DO) ?_
  refine At.p (some 0) (P_assign rfl rfl) ?_
  refine At.nil ?_
  refine At.next ?_
  refine At.seq ?_
  refine At.region ?_
  refine At.p (some 15) (P_move rfl rfl) ?_
  refine At.s (S_callV (some 16) [(0, _)] [] (vs := [_]) rfl en13 rfl (VN (by simp) rfl (View.sub (j := 0) (m := ((min npsk 60) - 0)) RO rfl) V0) (by simp) (c_Start (psk := (psk.take ((min npsk 60) - 0))) (npsk := ((min npsk 60) - 0)) (Apsk := (cut Apsk 0 cpsk 1)) (cpsk := (cpsk - 0)) (bpsk := bpsk) (qpsk := qpsk) LN (fun h => cut_zero (hApsk (by omega))) OG) (by rintro _ _ ⟨rfl, rfl⟩; rfl) ?_)
  rintro _ _ ⟨rfl, rfl⟩
  have := earlyS_len (psk.take ((min npsk 60) - 0))
  refine At.s (S_alloc (some 5) 5 (zs := [(List.replicate 32 0#8).map u8V, (List.replicate 32 0#8).map u8V, (List.replicate 32 0#8).map u8V].flatten) rfl ze25 rfl (fun b5 => ?_))
  refine At.s (S_storeA none (k := 5) (vs := [(earlyS (psk.take ((min npsk 60) - 0))).map u8V, (List.replicate 32 0#8).map u8V, (List.replicate 32 0#8).map u8V].flatten) rfl rfl rfl (by rw [sz25]; exact congrArg some LN) rfl (one_flatc (one_map (fun _ => rfl)) (one_flatc (one_map (fun _ => rfl)) (one_flatc (one_map (fun _ => rfl)) one_flat0))) NG rfl LN ?_)
  refine At.nil ?_
  refine At.next ?_
  refine At.seq ?_
  refine At.region ?_
  refine At.q (some 17) (Q_loadA (k := 5) rfl rfl Try.underlying25 rfl sz25 LN rfl) ?_
  refine At.q (some 18) (Q_loadA (k := 3) rfl rfl Try.underlying23 rfl sz23 LN rfl) ?_
  refine At.s (S_callV (some 19) [] [] (vs := [_, _]) rfl en14 rfl V0 (by simp) (c_Mix (ea := (earlyS (psk.take ((min npsk 60) - 0)))) (ha := (List.replicate 32 0#8)) (ma := (List.replicate 32 0#8)) (sh := sh) LN LN LN LN) (by rintro _ _ ⟨rfl, rfl⟩; rfl) ?_)
  rintro _ _ ⟨rfl, rfl⟩
  have := handS_len (earlyS (psk.take ((min npsk 60) - 0))) sh
  refine At.s (S_alloc (some 6) 6 (zs := [(List.replicate 32 0#8).map u8V, (List.replicate 32 0#8).map u8V, (List.replicate 32 0#8).map u8V].flatten) rfl ze25 rfl (fun b6 => ?_))
  refine At.s (S_storeA none (k := 6) (vs := [((earlyS (psk.take ((min npsk 60) - 0)))).map u8V, (handS (earlyS (psk.take ((min npsk 60) - 0))) sh).map u8V, ((List.replicate 32 0#8)).map u8V].flatten) rfl rfl rfl (by rw [sz25]; exact congrArg some LN) rfl (one_flatc (one_map (fun _ => rfl)) (one_flatc (one_map (fun _ => rfl)) (one_flatc (one_map (fun _ => rfl)) one_flat0))) NG rfl LN ?_)
  refine At.nil ?_
  refine At.next ?_
  refine At.seq ?_
  refine At.region ?_
  refine At.q (some 20) (Q_loadA (k := 6) rfl rfl Try.underlying25 rfl sz25 LN rfl) ?_
  refine At.s (S_callV (some 21) [] [] (vs := [_]) rfl en15 rfl V0 (by simp) (c_Fin (ea := (earlyS (psk.take ((min npsk 60) - 0)))) (ha := (handS (earlyS (psk.take ((min npsk 60) - 0))) sh)) (ma := (List.replicate 32 0#8)) LN LN LN) (by rintro _ _ ⟨rfl, rfl⟩; rfl) ?_)
  rintro _ _ ⟨rfl, rfl⟩
  have := masterS_len (handS (earlyS (psk.take ((min npsk 60) - 0))) sh)
  refine At.s (S_alloc (some 7) 7 (zs := [(List.replicate 32 0#8).map u8V, (List.replicate 32 0#8).map u8V, (List.replicate 32 0#8).map u8V].flatten) rfl ze25 rfl (fun b7 => ?_))
  refine At.s (S_storeA none (k := 7) (vs := [((earlyS (psk.take ((min npsk 60) - 0)))).map u8V, ((handS (earlyS (psk.take ((min npsk 60) - 0))) sh)).map u8V, (masterS (handS (earlyS (psk.take ((min npsk 60) - 0))) sh)).map u8V].flatten) rfl rfl rfl (by rw [sz25]; exact congrArg some LN) rfl (one_flatc (one_map (fun _ => rfl)) (one_flatc (one_map (fun _ => rfl)) (one_flatc (one_map (fun _ => rfl)) one_flat0))) NG rfl LN ?_)
  refine At.nil ?_
  refine At.next ?_
  refine At.seq ?_
  refine At.region ?_
  refine At.p (some 22) (P_move rfl rfl) ?_
  refine At.s (S_callV (some 23) [(0, _)] [] (vs := [_]) rfl en16 rfl (VN (by simp) rfl (View.sub (j := 0) (m := ((min npsk 60) - 0)) RO rfl) V0) (by simp) (r_Early (psk := (psk.take ((min npsk 60) - 0))) (npsk := ((min npsk 60) - 0)) (Apsk := (cut Apsk 0 cpsk 1)) (cpsk := (cpsk - 0)) (bpsk := bpsk) (qpsk := qpsk) LN (fun h => cut_zero (hApsk (by omega))) OG) (by rintro _ _ ⟨rfl, rfl⟩; rfl) ?_)
  rintro _ _ ⟨rfl, rfl⟩
  have := earlyS_len (psk.take ((min npsk 60) - 0))
  refine At.s (S_alloc (some 8) 8 (zs := (List.replicate 32 0#8).map u8V) rfl ze23 rfl (fun b8 => ?_))
  refine At.s (S_storeA none (k := 8) (vs := (earlyS (psk.take ((min npsk 60) - 0))).map u8V) rfl rfl rfl (by rw [sz23]; exact congrArg some LN) rfl (one_map (fun _ => rfl)) NG rfl LN ?_)
  refine At.nil ?_
  refine At.next ?_
  refine At.seq ?_
  refine At.region ?_
  refine At.q (some 24) (Q_loadA (k := 8) rfl rfl Try.underlying23 rfl sz23 LN rfl) ?_
  refine At.q (some 25) (Q_loadA (k := 3) rfl rfl Try.underlying23 rfl sz23 LN rfl) ?_
  refine At.s (S_callV (some 26) [] [] (vs := [_, _]) rfl en17 rfl V0 (by simp) (r_Hand (e := (earlyS (psk.take ((min npsk 60) - 0)))) (sh := sh) LN LN) (by rintro _ _ ⟨rfl, rfl⟩; rfl) ?_)
  rintro _ _ ⟨rfl, rfl⟩
  have := handS_len (earlyS (psk.take ((min npsk 60) - 0))) sh
  refine At.s (S_alloc (some 9) 9 (zs := (List.replicate 32 0#8).map u8V) rfl ze23 rfl (fun b9 => ?_))
  refine At.s (S_storeA none (k := 9) (vs := (handS (earlyS (psk.take ((min npsk 60) - 0))) sh).map u8V) rfl rfl rfl (by rw [sz23]; exact congrArg some LN) rfl (one_map (fun _ => rfl)) NG rfl LN ?_)
  refine At.nil ?_
  refine At.next ?_
  refine At.seq ?_
  refine At.draws 21 [] [.q false [0, 1, 2, 3, 4, 5, 6, 7, 8, 9, 10, 11, 12, 13, 14, 15, 16, 17, 18, 19, 20]] (by kernel_rfl) (by kernel_rfl) ?_
  refine At.wcV (some 27) [] (vs := []) rfl en18 rfl V0 (c_starts  ) ?_
  refine At.wp (some 28) (P_move rfl rfl) ?_
  refine At.wgyq (some 29) (t := 28) rfl (by simp) rfl rfl (Q_loadA (k := 5) rfl rfl Try.underlying25 rfl sz25 LN rfl) ?_
  refine At.wgyq (some 30) (t := 28) rfl (by simp) rfl rfl (Q_loadA (k := 8) rfl rfl Try.underlying23 rfl sz23 LN rfl) ?_
  refine At.wgy (some 31) (t := 28) rfl (by simp) rfl rfl (P_build_struct (cs := ([(earlyS (psk.take ((min npsk 60) - 0))).map u8V, (List.replicate 32 0#8).map u8V, (List.replicate 32 0#8).map u8V].flatten).toArray) (parts := _) (vs := [(0, _)]) rfl Try.underlying25 ze25 pl25 rfl (by show Instr.fill _ ([(List.replicate 32 0#8).map u8V, (List.replicate 32 0#8).map u8V, (List.replicate 32 0#8).map u8V].flatten).toArray _ = _; refine fill_seg (k := 0) (vs := (earlyS (psk.take ((min npsk 60) - 0))).map u8V) rfl rfl LN rfl LN LN ?_; exact fill_end (by simp))) ?_
  refine At.wgy (some 32) (t := 28) rfl (by simp) rfl rfl (P_eql_flat (g := 9) (ls := (List.replicate 32 (ROW.lit0 0 (.i .u8))) ++ ((List.replicate 32 (ROW.lit0 0 (.i .u8))) ++ ((List.replicate 32 (ROW.lit0 0 (.i .u8))) ++ []))) (xs := [(earlyS (psk.take ((min npsk 60) - 0))).map u8V, (List.replicate 32 0#8).map u8V, (List.replicate 32 0#8).map u8V].flatten) (ys := [(earlyS (psk.take ((min npsk 60) - 0))).map u8V, (List.replicate 32 0#8).map u8V, (List.replicate 32 0#8).map u8V].flatten) (b := decide ((earlyS (psk.take ((min npsk 60) - 0))) = (earlyS (psk.take ((min npsk 60) - 0))) ∧ (List.replicate 32 0#8) = (List.replicate 32 0#8) ∧ (List.replicate 32 0#8) = (List.replicate 32 0#8) ∧ True)) (dec_iff (eqs_map u8V_inj LN (eqs_map u8V_inj LN (eqs_map u8V_inj LN eqs_nil)))) rfl (by kernel_rfl) (by kernel_rfl) (by decide) (.inl ⟨_, Try.underlying25⟩) Try.eqGuardType25 rfl rfl (okfc (okf_w UK.u8 LN) (okfc (okf_w UK.u8 LN) (okfc (okf_w UK.u8 LN) okf0))) (okfc (okf_w UK.u8 LN) (okfc (okf_w UK.u8 LN) (okfc (okf_w UK.u8 LN) okf0)))) ?_
  refine At.wp (some 33) (P_pick_t rfl rfl (by simp) rfl) ?_
  refine At.wp (some 34) (P_move rfl rfl) ?_
  refine At.wgyq (some 35) (t := 34) rfl (by simp) rfl rfl (Q_loadA (k := 6) rfl rfl Try.underlying25 rfl sz25 LN rfl) ?_
  refine At.wgyq (some 36) (t := 34) rfl (by simp) rfl rfl (Q_loadA (k := 8) rfl rfl Try.underlying23 rfl sz23 LN rfl) ?_
  refine At.wgyq (some 37) (t := 34) rfl (by simp) rfl rfl (Q_loadA (k := 9) rfl rfl Try.underlying23 rfl sz23 LN rfl) ?_
  refine At.wgy (some 38) (t := 34) rfl (by simp) rfl rfl (P_build_struct (cs := ([(earlyS (psk.take ((min npsk 60) - 0))).map u8V, (handS (earlyS (psk.take ((min npsk 60) - 0))) sh).map u8V, (List.replicate 32 0#8).map u8V].flatten).toArray) (parts := _) (vs := [(0, _), (1, _)]) rfl Try.underlying25 ze25 pl25 rfl (by show Instr.fill _ ([(List.replicate 32 0#8).map u8V, (List.replicate 32 0#8).map u8V, (List.replicate 32 0#8).map u8V].flatten).toArray _ = _; refine fill_seg (k := 0) (vs := (earlyS (psk.take ((min npsk 60) - 0))).map u8V) rfl rfl LN rfl LN LN ?_; refine fill_seg (k := 1) (vs := (handS (earlyS (psk.take ((min npsk 60) - 0))) sh).map u8V) rfl rfl LN rfl LN LN ?_; exact fill_end (by simp))) ?_
  refine At.wgy (some 39) (t := 34) rfl (by simp) rfl rfl (P_eql_flat (g := 9) (ls := (List.replicate 32 (ROW.lit0 0 (.i .u8))) ++ ((List.replicate 32 (ROW.lit0 0 (.i .u8))) ++ ((List.replicate 32 (ROW.lit0 0 (.i .u8))) ++ []))) (xs := [((earlyS (psk.take ((min npsk 60) - 0)))).map u8V, (handS (earlyS (psk.take ((min npsk 60) - 0))) sh).map u8V, ((List.replicate 32 0#8)).map u8V].flatten) (ys := [(earlyS (psk.take ((min npsk 60) - 0))).map u8V, (handS (earlyS (psk.take ((min npsk 60) - 0))) sh).map u8V, (List.replicate 32 0#8).map u8V].flatten) (b := decide ((earlyS (psk.take ((min npsk 60) - 0))) = (earlyS (psk.take ((min npsk 60) - 0))) ∧ (handS (earlyS (psk.take ((min npsk 60) - 0))) sh) = (handS (earlyS (psk.take ((min npsk 60) - 0))) sh) ∧ (List.replicate 32 0#8) = (List.replicate 32 0#8) ∧ True)) (dec_iff (eqs_map u8V_inj LN (eqs_map u8V_inj LN (eqs_map u8V_inj LN eqs_nil)))) rfl (by kernel_rfl) (by kernel_rfl) (by decide) (.inl ⟨_, Try.underlying25⟩) Try.eqGuardType25 rfl rfl (okfc (okf_w UK.u8 LN) (okfc (okf_w UK.u8 LN) (okfc (okf_w UK.u8 LN) okf0))) (okfc (okf_w UK.u8 LN) (okfc (okf_w UK.u8 LN) (okfc (okf_w UK.u8 LN) okf0)))) ?_
  refine At.wp (some 40) (P_pick_t rfl rfl (by simp) rfl) ?_
  refine At.wp (some 41) (P_move rfl rfl) ?_
  refine At.wgyq (some 42) (t := 41) rfl (by simp) rfl rfl (Q_loadA (k := 7) rfl rfl Try.underlying25 rfl sz25 LN rfl) ?_
  refine At.wgyq (some 43) (t := 41) rfl (by simp) rfl rfl (Q_loadA (k := 8) rfl rfl Try.underlying23 rfl sz23 LN rfl) ?_
  refine At.wgyq (some 44) (t := 41) rfl (by simp) rfl rfl (Q_loadA (k := 9) rfl rfl Try.underlying23 rfl sz23 LN rfl) ?_
  refine At.wgyq (some 45) (t := 41) rfl (by simp) rfl rfl (Q_loadA (k := 9) rfl rfl Try.underlying23 rfl sz23 LN rfl) ?_
  refine At.wcVg (some 46) [] (tt := 41) rfl (by simp) rfl rfl (vs := [_]) rfl en19 rfl V0 (r_Mast (h := (handS (earlyS (psk.take ((min npsk 60) - 0))) sh)) LN) ?_
  have := masterS_len (handS (earlyS (psk.take ((min npsk 60) - 0))) sh)
  refine At.wgy (some 47) (t := 41) rfl (by simp) rfl rfl (P_build_struct (cs := ([(earlyS (psk.take ((min npsk 60) - 0))).map u8V, (handS (earlyS (psk.take ((min npsk 60) - 0))) sh).map u8V, (masterS (handS (earlyS (psk.take ((min npsk 60) - 0))) sh)).map u8V].flatten).toArray) (parts := _) (vs := [(0, _), (1, _), (2, _)]) rfl Try.underlying25 ze25 pl25 rfl (by show Instr.fill _ ([(List.replicate 32 0#8).map u8V, (List.replicate 32 0#8).map u8V, (List.replicate 32 0#8).map u8V].flatten).toArray _ = _; refine fill_seg (k := 0) (vs := (earlyS (psk.take ((min npsk 60) - 0))).map u8V) rfl rfl LN rfl LN LN ?_; refine fill_seg (k := 1) (vs := (handS (earlyS (psk.take ((min npsk 60) - 0))) sh).map u8V) rfl rfl LN rfl LN LN ?_; refine fill_seg (k := 2) (vs := (masterS (handS (earlyS (psk.take ((min npsk 60) - 0))) sh)).map u8V) rfl rfl LN rfl LN LN ?_; exact fill_end (by simp))) ?_
  refine At.wqn ?_
  refine At.wt rfl ?_
  refine At.gy (t := 41) rfl (by simp) rfl rfl ?_
  refine At.p (some 48) (P_eql_flat (g := 9) (ls := (List.replicate 32 (ROW.lit0 0 (.i .u8))) ++ ((List.replicate 32 (ROW.lit0 0 (.i .u8))) ++ ((List.replicate 32 (ROW.lit0 0 (.i .u8))) ++ []))) (xs := [((earlyS (psk.take ((min npsk 60) - 0)))).map u8V, ((handS (earlyS (psk.take ((min npsk 60) - 0))) sh)).map u8V, (masterS (handS (earlyS (psk.take ((min npsk 60) - 0))) sh)).map u8V].flatten) (ys := [(earlyS (psk.take ((min npsk 60) - 0))).map u8V, (handS (earlyS (psk.take ((min npsk 60) - 0))) sh).map u8V, (masterS (handS (earlyS (psk.take ((min npsk 60) - 0))) sh)).map u8V].flatten) (b := decide ((earlyS (psk.take ((min npsk 60) - 0))) = (earlyS (psk.take ((min npsk 60) - 0))) ∧ (handS (earlyS (psk.take ((min npsk 60) - 0))) sh) = (handS (earlyS (psk.take ((min npsk 60) - 0))) sh) ∧ (masterS (handS (earlyS (psk.take ((min npsk 60) - 0))) sh)) = (masterS (handS (earlyS (psk.take ((min npsk 60) - 0))) sh)) ∧ True)) (dec_iff (eqs_map u8V_inj LN (eqs_map u8V_inj LN (eqs_map u8V_inj LN eqs_nil)))) rfl (by kernel_rfl) (by kernel_rfl) (by decide) (.inl ⟨_, Try.underlying25⟩) Try.eqGuardType25 rfl rfl (okfc (okf_w UK.u8 LN) (okfc (okf_w UK.u8 LN) (okfc (okf_w UK.u8 LN) okf0))) (okfc (okf_w UK.u8 LN) (okfc (okf_w UK.u8 LN) (okfc (okf_w UK.u8 LN) okf0)))) ?_
  refine At.p (some 49) (P_pick_t rfl rfl (by simp) rfl) ?_
  refine At.p (some 4) (P_assign rfl rfl) ?_
  refine At.nil ?_
  refine At.next ?_
  refine At.ret ?_
  have hq0 : (decide ((earlyS (psk.take ((min npsk 60) - 0))) = (earlyS (psk.take ((min npsk 60) - 0))) ∧ (handS (earlyS (psk.take ((min npsk 60) - 0))) sh) = (handS (earlyS (psk.take ((min npsk 60) - 0))) sh) ∧ (masterS (handS (earlyS (psk.take ((min npsk 60) - 0))) sh)) = (masterS (handS (earlyS (psk.take ((min npsk 60) - 0))) sh)) ∧ True)) = true := by first | (simp; done) | (simp; rw [Bool.eq_iff_iff]; simp)
  refine At.give (.inl rfl) [] (rows' := []) (vs := [_]) rfl ⟨rfl, trivial⟩ rfl (by simp) (by simp) ⟨(by first | (rw [hq0]; try rfl; done) | (rw [← hq0]; try rfl; done) | (simp only [hq0]; try rfl; done)), (by first | (rw [hq0]; try rfl; done) | (rw [← hq0]; try rfl; done) | (simp only [hq0]; try rfl; done))⟩

set_option maxHeartbeats 2000000 in
theorem l_Tickets {psk : List (BitVec 8)} {Apsk : Option Addr} {npsk cpsk bpsk qpsk : Nat} {sum : List (BitVec 8)} {no : List (BitVec 8)} {Ano : Option Addr} {nno cno bno qno : Nat} (hnpsk : psk.length = npsk) (hApsk : 0 < npsk → Apsk = some ⟨bpsk, qpsk, none⟩) (hcpsk : npsk ≤ cpsk) (hsum : sum.length = 32) (hnno : no.length = nno) (hAno : 0 < nno → Ano = some ⟨bno, qno, none⟩) (hcno : nno ≤ cno) :
    Con Try.prog 4 [.slice Apsk npsk cpsk, aggK sum, .slice Ano nno cno] [pRow bpsk qpsk psk, pRow bno qno no] (fun v rs => v = .bool true ∧ rs = []) := by
  refine Con.enter Try.func4 Try.ntmps4 (Nat.le_of_ble_eq_true rfl) rfl fun w => ?_
  refine At.seq ?_
  refine At.region ?_
  refine At.s (S_box (some 4) 4 (zs := (sum).map u8V) rfl rfl rfl (fun b4 => ?_))
  refine At.p (some 6) (P_assign rfl rfl) ?_
  refine At.nil ?_
  refine At.next ?_
  refine At.seq ?_
  refine At.draws 11 [] [.q false [0, 1, 2, 3, 4, 5, 6, 7, 8, 9, 10]] (by kernel_rfl) (by kernel_rfl) ?_
  refine At.wp (some 8) (P_move rfl rfl) ?_
  refine At.wp (some 9) (P_move rfl rfl) ?_
  refine At.wp (some 10) (P_len_sl rfl rfl ⟨_, Try.underlying22⟩ rfl) ?_
  refine At.wp (some 11) (P_min2 rfl rfl rfl rfl) ?_
  refine At.wp (some 12) (P_slice_sl (l := 0) (h := (min npsk 60)) (m := cpsk) rfl Try.underlying22 sz5 rfl rfl ⟨_, _, rfl, by omega⟩ rfl DO DO DO) ?_
  refine At.wp (some 13) (P_move rfl rfl) ?_
  refine At.wp (some 14) (P_move rfl rfl) ?_
  refine At.wp (some 15) (P_len_sl rfl rfl ⟨_, Try.underlying22⟩ rfl) ?_
  refine At.wp (some 16) (P_min2 rfl rfl rfl rfl) ?_
  refine At.wp (some 17) (P_slice_sl (l := 0) (h := (min nno 270)) (m := cno) rfl Try.underlying22 sz5 rfl rfl ⟨_, _, rfl, by omega⟩ rfl DO DO DO) ?_
  refine At.wp (some 0) (P_assign rfl rfl) ?_
  refine At.wqn ?_
  refine At.wt rfl ?_
  refine At.p (some 2) (P_assign rfl rfl) ?_
  refine At.nil ?_
  refine At.next ?_
  refine At.seq ?_
  refine At.region ?_
  refine At.s (S_alloc (some 7) 7 (zs := (List.replicate 32 0#8).map u8V) rfl ze23 rfl (fun b7 => ?_))
  refine At.nil ?_
  refine At.next ?_
  refine At.seq ?_
  refine At.region ?_
  refine At.p (some 18) (P_slice_arr1 (l := 0) (h := 32) (m := 32) rfl Try.underlying23 sz5 rfl rfl rfl rfl DO DO DO DO) ?_
  refine At.p (some 19) (P_move rfl rfl) ?_
  refine At.s (S_copyM (some 20) 7 0 (j := 0) (m := ((min npsk 60) - 0)) (n := (min ((min npsk 60) - 0) 32)) (S := (List.replicate 32 0#8)) (L := ((psk.take ((min npsk 60) - 0)).take (min ((min npsk 60) - 0) 32))) (p := 0) rfl Try.underlying22 sz5 rfl (fun h => (fun _ => rfl) OG) rfl rfl (fun h => (fun h => cut_zero (hApsk (by omega))) OG) (fun _ => ⟨rfl, rfl, rfl⟩) (take_part (j := 0) (m := ((min npsk 60) - 0)) OG) OG LN (fun _ => rfl) OG ?_)
  have : (splice (List.replicate 32 0#8) 0 ((psk.take ((min npsk 60) - 0)).take (min ((min npsk 60) - 0) 32))).length = 32 := (splice_length _ _ _ LN).trans LN
  refine At.nil ?_
  refine At.next ?_
  refine At.seq ?_
  refine At.draws 18 [] [.q false [0, 1, 2, 3, 4, 5, 6, 7, 8, 9, 10, 11, 12, 13, 14, 15, 16, 17]] (by kernel_rfl) (by kernel_rfl) ?_
  refine At.wcV (some 21) [] (vs := []) rfl en18 rfl V0 (c_starts  ) ?_
  refine At.wp (some 22) (P_move rfl rfl) ?_
  refine At.wgy (some 23) (t := 22) rfl (by simp) rfl rfl (P_move rfl rfl) ?_
  refine At.wgyq (some 24) (t := 22) rfl (by simp) rfl rfl (Q_loadA (k := 4) rfl rfl Try.underlying23 rfl sz23 LN rfl) ?_
  refine At.wcVg (some 25) [(0, _)] (tt := 22) rfl (by simp) rfl rfl (vs := [_, _]) rfl en20 rfl (VN (by simp) rfl (View.sub (j := 0) (m := ((min npsk 60) - 0)) RO rfl) V0) (c_Bind (psk := (psk.take ((min npsk 60) - 0))) (npsk := ((min npsk 60) - 0)) (Apsk := (cut Apsk 0 cpsk 1)) (cpsk := (cpsk - 0)) (bpsk := bpsk) (qpsk := qpsk) (sum := sum) LN (fun h => cut_zero (hApsk (by omega))) LN OG) ?_
  have := bindS_len (psk.take ((min npsk 60) - 0)) sum
  refine At.wgy (some 26) (t := 22) rfl (by simp) rfl rfl (P_move rfl rfl) ?_
  refine At.wgyq (some 27) (t := 22) rfl (by simp) rfl rfl (Q_loadA (k := 4) rfl rfl Try.underlying23 rfl sz23 LN rfl) ?_
  refine At.wcVg (some 28) [(0, _)] (tt := 22) rfl (by simp) rfl rfl (vs := [_, _]) rfl en21 rfl (VN (by simp) rfl (View.sub (j := 0) (m := ((min npsk 60) - 0)) RO rfl) V0) (r_Bind (psk := (psk.take ((min npsk 60) - 0))) (npsk := ((min npsk 60) - 0)) (Apsk := (cut Apsk 0 cpsk 1)) (cpsk := (cpsk - 0)) (bpsk := bpsk) (qpsk := qpsk) (sum := sum) LN (fun h => cut_zero (hApsk (by omega))) LN OG) ?_
  have := bindS_len (psk.take ((min npsk 60) - 0)) sum
  refine At.wgy (some 29) (t := 22) rfl (by simp) rfl rfl (P_eql_arr (k := .u8) (xs := (bindS (psk.take ((min npsk 60) - 0)) sum)) (ys := (bindS (psk.take ((min npsk 60) - 0)) sum)) rfl Try.underlying23 Try.underlying5 sz5 Try.eqGuardType23 rfl rfl LN LN) ?_
  refine At.wp (some 30) (P_pick_t rfl rfl (by simp) rfl) ?_
  refine At.wp (some 31) (P_move rfl rfl) ?_
  refine At.wgyq (some 32) (t := 31) rfl (by simp) rfl rfl (Q_loadA (k := 7) rfl rfl Try.underlying23 rfl sz23 LN rfl) ?_
  refine At.wgyq (some 33) (t := 31) rfl (by simp) rfl rfl (Q_loadA (k := 4) rfl rfl Try.underlying23 rfl sz23 LN rfl) ?_
  refine At.wgy (some 34) (t := 31) rfl (by simp) rfl rfl (P_move rfl rfl) ?_
  refine At.wcVg (some 35) [(1, _)] (tt := 31) rfl (by simp) rfl rfl (vs := [_, _, _]) rfl en22 rfl (VN (by simp) rfl (View.sub (j := 0) (m := ((min nno 270) - 0)) RO rfl) V0) (c_Res (ms := (splice (List.replicate 32 0#8) 0 ((psk.take ((min npsk 60) - 0)).take (min ((min npsk 60) - 0) 32)))) (sum := sum) (no := (no.take ((min nno 270) - 0))) (nno := ((min nno 270) - 0)) (Ano := (cut Ano 0 cno 1)) (cno := (cno - 0)) (bno := bno) (qno := qno) LN LN LN (fun h => cut_zero (hAno (by omega))) OG) ?_
  have := resS_len (splice (List.replicate 32 0#8) 0 ((psk.take ((min npsk 60) - 0)).take (min ((min npsk 60) - 0) 32))) sum (no.take ((min nno 270) - 0))
  refine At.wgyq (some 36) (t := 31) rfl (by simp) rfl rfl (Q_loadA (k := 7) rfl rfl Try.underlying23 rfl sz23 LN rfl) ?_
  refine At.wgyq (some 37) (t := 31) rfl (by simp) rfl rfl (Q_loadA (k := 4) rfl rfl Try.underlying23 rfl sz23 LN rfl) ?_
  refine At.wgy (some 38) (t := 31) rfl (by simp) rfl rfl (P_move rfl rfl) ?_
  refine At.wqn ?_
  refine At.wt rfl ?_
  refine At.gy (t := 31) rfl (by simp) rfl rfl ?_
  refine At.s (S_callV (some 39) [(1, _)] [] (vs := [_, _, _]) rfl en23 rfl (VN (by simp) rfl (View.sub (j := 0) (m := ((min nno 270) - 0)) RO rfl) V0) (by simp) (r_Res (ms := (splice (List.replicate 32 0#8) 0 ((psk.take ((min npsk 60) - 0)).take (min ((min npsk 60) - 0) 32)))) (sum := sum) (no := (no.take ((min nno 270) - 0))) (nno := ((min nno 270) - 0)) (Ano := (cut Ano 0 cno 1)) (cno := (cno - 0)) (bno := bno) (qno := qno) LN LN LN (fun h => cut_zero (hAno (by omega))) OG) (by rintro _ _ ⟨rfl, rfl⟩; rfl) ?_)
  rintro _ _ ⟨rfl, rfl⟩
  have := resS_len (splice (List.replicate 32 0#8) 0 ((psk.take ((min npsk 60) - 0)).take (min ((min npsk 60) - 0) 32))) sum (no.take ((min nno 270) - 0))
  refine At.gy (t := 31) rfl (by simp) rfl rfl ?_
  refine At.p (some 40) (P_eql_arr (k := .u8) (xs := (resS (splice (List.replicate 32 0#8) 0 ((psk.take ((min npsk 60) - 0)).take (min ((min npsk 60) - 0) 32))) sum (no.take ((min nno 270) - 0)))) (ys := (resS (splice (List.replicate 32 0#8) 0 ((psk.take ((min npsk 60) - 0)).take (min ((min npsk 60) - 0) 32))) sum (no.take ((min nno 270) - 0)))) rfl Try.underlying23 Try.underlying5 sz5 Try.eqGuardType23 rfl rfl LN LN) ?_
  refine At.p (some 41) (P_pick_t rfl rfl (by simp) rfl) ?_
  refine At.p (some 6) (P_assign rfl rfl) ?_
  refine At.nil ?_
  refine At.next ?_
  refine At.ret ?_
  have hq0 : ((resS (splice (List.replicate 32 0#8) 0 ((psk.take ((min npsk 60) - 0)).take (min ((min npsk 60) - 0) 32))) sum (no.take ((min nno 270) - 0))) == (resS (splice (List.replicate 32 0#8) 0 ((psk.take ((min npsk 60) - 0)).take (min ((min npsk 60) - 0) 32))) sum (no.take ((min nno 270) - 0)))) = true := by first | (simp; done) | (simp; rw [Bool.eq_iff_iff]; simp)
  refine At.give (.inl rfl) [] (rows' := []) (vs := [_]) rfl ⟨rfl, trivial⟩ rfl (by simp) (by simp) ⟨(by first | (rw [hq0]; try rfl; done) | (rw [← hq0]; try rfl; done) | (simp only [hq0]; try rfl; done)), (by first | (rw [hq0]; try rfl; done) | (rw [← hq0]; try rfl; done) | (simp only [hq0]; try rfl; done))⟩

set_option maxHeartbeats 2000000 in
theorem l_Names {se : List (BitVec 8)} {sum : List (BitVec 8)} {z : Int} (hse : se.length = 32) (hsum : sum.length = 32) :
    Con Try.prog 8 [aggK se, aggK sum, iV z] [] (fun v rs => v = .bool true ∧ rs = []) := by
  refine Con.enter Try.func8 Try.ntmps8 (Nat.le_of_ble_eq_true rfl) rfl fun w => ?_
  refine At.seq ?_
  refine At.region ?_
  refine At.s (S_box (some 3) 3 (zs := (se).map u8V) rfl rfl rfl (fun b3 => ?_))
  refine At.s (S_box (some 4) 4 (zs := (sum).map u8V) rfl rfl rfl (fun b4 => ?_))
  refine At.p (some 6) (P_assign rfl rfl) ?_
  refine At.nil ?_
  refine At.next ?_
  refine At.seq ?_
  refine At.region ?_
  refine At.s (S_buildSliceV (some 10) 10 ((nms).map strV) rfl Try.underlying71 sz9 ze9 rfl rfl (by decide) (by decide) rfl ⟨rfl, rfl, rfl, rfl, rfl⟩ (fun b10 => ?_))
  refine At.p (some 7) (P_assign rfl rfl) ?_
  refine At.nil ?_
  refine At.next ?_
  refine At.seq ?_
  refine At.region ?_
  refine At.p (some 11) (P_move rfl rfl) ?_
  refine At.p (some 12) (P_move rfl rfl) ?_
  refine At.p (some 13) (P_conv_iw UK.u64 rfl Try.underlying3 Try.underlying49 rfl) ?_
  refine At.p (some 14) (P_rem_w UK.u64 (b := 5#64) rfl rfl rfl (by decide)) ?_
  obtain ⟨k15, hk15, hek15, hdk15⟩ := umod_c ((BitVec.ofInt 64 z)) 5#64 (by decide) (by decide)
  have hk15 : k15 < 5 := hk15
  refine At.p (some 15) (P_conv_WiE hek15 rfl Try.underlying49 Try.underlying3 rfl) ?_
  have hnl : nms.length = 5 := rfl
  refine At.p (some 16) (P_indexAddr_slz (b := b10) (j := k15) rfl Try.underlying71 sz9 rfl ((fun _ => rfl) OG) rfl RO OG) ?_
  refine At.q (some 17) (Q_loadM (k := 10) (f := strV) (l := nms) (([] : List (BitVec 8))) rfl rfl Try.underlying9 rfl rfl OG) ?_
  have hnm := nms_len hk15
  refine At.p (some 8) (P_assign rfl rfl) ?_
  refine At.nil ?_
  refine At.next ?_
  refine At.seq ?_
  refine At.region ?_
  refine At.q (some 18) (Q_loadA (k := 3) rfl rfl Try.underlying23 rfl sz23 LN rfl) ?_
  refine At.q (some 19) (Q_loadA (k := 4) rfl rfl Try.underlying23 rfl sz23 LN rfl) ?_
  refine At.s (S_callV (some 20) [] [] (vs := [_, _]) rfl en37 rfl V0 (by simp) (r_Sign (h := se) (sum := sum) LN LN) (by rintro _ _ ⟨rfl, rfl⟩; rfl) ?_)
  rintro _ _ ⟨rfl, rfl⟩
  have := signS_len se sum
  refine At.s (S_alloc (some 9) 9 (zs := (List.replicate 32 0#8).map u8V) rfl ze23 rfl (fun b9 => ?_))
  refine At.s (S_storeA none (k := 9) (vs := (signS se sum).map u8V) rfl rfl rfl (by rw [sz23]; exact congrArg some LN) rfl (one_map (fun _ => rfl)) NG rfl LN ?_)
  refine At.nil ?_
  refine At.next ?_
  refine At.seq ?_
  refine At.draws 28 [] [.q false [0, 1, 2, 3, 4, 5, 6, 7, 8, 9, 10, 11, 12, 13, 14, 15, 16, 17, 18, 19, 20, 21, 22, 23, 26, 27], .e false 24, .q false [25]] (by kernel_rfl) (by kernel_rfl) ?_
  refine At.wcV (some 21) [] (vs := []) rfl en18 rfl V0 (c_starts  ) ?_
  refine At.wp (some 22) (P_move rfl rfl) ?_
  refine At.wgyq (some 23) (t := 22) rfl (by simp) rfl rfl (Q_loadA (k := 3) rfl rfl Try.underlying23 rfl sz23 LN rfl) ?_
  refine At.wgy (some 24) (t := 22) rfl (by simp) rfl rfl (P_move rfl rfl) ?_
  refine At.wgyq (some 25) (t := 22) rfl (by simp) rfl rfl (Q_loadA (k := 4) rfl rfl Try.underlying23 rfl sz23 LN rfl) ?_
  refine At.wcVg (some 26) [] (tt := 22) rfl (by simp) rfl rfl (vs := [_, _, _]) rfl en38 rfl V0 (c_Traf (s := se) (nm := (nms.getD k15 [])) (sum := sum) LN LN LN1 LN1) ?_
  have := labS_len se (nms.getD k15 []) sum 32
  refine At.wgyq (some 27) (t := 22) rfl (by simp) rfl rfl (Q_loadA (k := 3) rfl rfl Try.underlying23 rfl sz23 LN rfl) ?_
  refine At.wgy (some 28) (t := 22) rfl (by simp) rfl rfl (P_move rfl rfl) ?_
  refine At.wgyq (some 29) (t := 22) rfl (by simp) rfl rfl (Q_loadA (k := 4) rfl rfl Try.underlying23 rfl sz23 LN rfl) ?_
  refine At.wcVg (some 30) [] (tt := 22) rfl (by simp) rfl rfl (vs := [_, _, _]) rfl en39 rfl V0 (r_Traf (s := se) (nm := (nms.getD k15 [])) (sum := sum) LN LN LN1 LN1) ?_
  have := labS_len se (nms.getD k15 []) sum 32
  refine At.wgy (some 31) (t := 22) rfl (by simp) rfl rfl (P_eql_arr (k := .u8) (xs := (labS se (nms.getD k15 []) sum 32)) (ys := (labS se (nms.getD k15 []) sum 32)) rfl Try.underlying23 Try.underlying5 sz5 Try.eqGuardType23 rfl rfl LN LN) ?_
  refine At.wp (some 32) (P_pick_t rfl rfl (by simp) rfl) ?_
  refine At.wp (some 33) (P_move rfl rfl) ?_
  refine At.wgyq (some 34) (t := 33) rfl (by simp) rfl rfl (Q_loadA (k := 3) rfl rfl Try.underlying23 rfl sz23 LN rfl) ?_
  refine At.wgyq (some 35) (t := 33) rfl (by simp) rfl rfl (Q_loadA (k := 4) rfl rfl Try.underlying23 rfl sz23 LN rfl) ?_
  refine At.wcVg (some 36) [] (tt := 33) rfl (by simp) rfl rfl (vs := [_, _]) rfl en40 rfl V0 (c_Ver (t := se) (sum := sum) LN LN) ?_
  have := verS_len se sum
  refine At.wgyq (some 37) (t := 33) rfl (by simp) rfl rfl (Q_loadA (k := 3) rfl rfl Try.underlying23 rfl sz23 LN rfl) ?_
  refine At.wgyq (some 38) (t := 33) rfl (by simp) rfl rfl (Q_loadA (k := 4) rfl rfl Try.underlying23 rfl sz23 LN rfl) ?_
  refine At.wcVg (some 39) [] (tt := 33) rfl (by simp) rfl rfl (vs := [_, _]) rfl en41 rfl V0 (r_Ver (t := se) (sum := sum) LN LN) ?_
  have := verS_len se sum
  refine At.wgy (some 40) (t := 33) rfl (by simp) rfl rfl (P_eql_arr (k := .u8) (xs := (verS se sum)) (ys := (verS se sum)) rfl Try.underlying23 Try.underlying5 sz5 Try.eqGuardType23 rfl rfl LN LN) ?_
  refine At.wp (some 41) (P_pick_t rfl rfl (by simp) rfl) ?_
  refine At.wp (some 42) (P_move rfl rfl) ?_
  refine At.wgyq (some 43) (t := 42) rfl (by simp) rfl rfl (Q_loadA (k := 3) rfl rfl Try.underlying23 rfl sz23 LN rfl) ?_
  refine At.wgyq (some 44) (t := 42) rfl (by simp) rfl rfl (Q_loadA (k := 4) rfl rfl Try.underlying23 rfl sz23 LN rfl) ?_
  refine At.wgy (some 47) (t := 42) rfl (by simp) rfl rfl (P_slice_arr1 (l := 0) (h := 32) (m := 32) rfl Try.underlying23 sz5 rfl rfl rfl rfl DO DO DO DO) ?_
  refine At.wgyq (some 48) (t := 42) rfl (by simp) rfl rfl (Q_strA (l := (signS se sum)) (n := 32) (k := 9) LN rfl Try.underlying22 Try.underlying5 Try.underlying9 rfl (fun _ => rfl) (fun _ => ⟨rfl, rfl, rfl⟩)) ?_
  refine At.wqn ?_
  refine At.wey (t := 42) rfl (by simp) rfl rfl ?_
  refine SStep.up (S_callV (some 45) [] [45] (vs := [_, _]) rfl en42 rfl V0 (by simp) (c_Sign (h := se) (sum := sum) LN LN) (by rintro _ _ ⟨b45, rfl, rfl⟩; rfl) ?_)
  rintro _ _ ⟨b45, rfl, rfl⟩
  have := signS_len se sum
  refine At.wgyq (some 46) (t := 42) rfl (by simp) rfl rfl (Q_strA (l := (signS se sum)) (n := 32) (k := 45) LN rfl Try.underlying22 Try.underlying5 Try.underlying9 rfl (fun _ => rfl) (fun _ => ⟨rfl, rfl, rfl⟩)) ?_
  refine At.wqn ?_
  refine At.wt rfl ?_
  refine At.gy (t := 42) rfl (by simp) rfl rfl ?_
  refine At.p (some 49) (P_eql_str (a := (signS se sum)) (b := (signS se sum)) rfl rfl rfl) ?_
  refine At.p (some 50) (P_pick_t rfl rfl (by simp) rfl) ?_
  refine At.p (some 6) (P_assign rfl rfl) ?_
  refine At.nil ?_
  refine At.next ?_
  refine At.ret ?_
  have hq0 : (decide ((signS se sum) = (signS se sum))) = true := by first | (simp; done) | (simp; rw [Bool.eq_iff_iff]; simp)
  refine At.give (.inl rfl) [] (rows' := []) (vs := [_]) rfl ⟨rfl, trivial⟩ rfl (by simp) (by simp) ⟨(by first | (rw [hq0]; try rfl; done) | (rw [← hq0]; try rfl; done) | (simp only [hq0]; try rfl; done)), (by first | (rw [hq0]; try rfl; done) | (rw [← hq0]; try rfl; done) | (simp only [hq0]; try rfl; done))⟩

end Go.Proofs.Ytihciioopdalnaa
