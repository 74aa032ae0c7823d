import Derived.Test.YtihciioopdalnaaXK1
import Derived.Test.YtihciioopdalnaaSE20
import Derived.Test.YtihciioopdalnaaSE25
import Derived.Test.YtihciioopdalnaaSE29
namespace Go.Proofs.Ytihciioopdalnaa
set_option maxRecDepth 20000
set_option linter.unusedVariables false
set_option linter.unusedSimpArgs false
open Go.SE Go.RowKit
attribute [local irreducible] sumS macS expS labS
def nmDer : List (BitVec 8) := [100#8, 101#8, 114#8, 105#8, 118#8, 101#8, 100#8]
def nmFin : List (BitVec 8) := [102#8, 105#8, 110#8, 105#8, 115#8, 104#8, 101#8, 100#8]
def nmBin : List (BitVec 8) := [114#8, 101#8, 115#8, 32#8, 98#8, 105#8, 110#8, 100#8, 101#8, 114#8]
def nmRsM : List (BitVec 8) := [114#8, 101#8, 115#8, 32#8, 109#8, 97#8, 115#8, 116#8, 101#8, 114#8]
def nmRes : List (BitVec 8) := [114#8, 101#8, 115#8, 117#8, 109#8, 112#8, 116#8, 105#8, 111#8, 110#8]
def nmX : List (BitVec 8) := [120#8]
def nmY : List (BitVec 8) := [121#8]
def sgnN : List (BitVec 8) := [84#8, 76#8, 83#8, 32#8, 49#8, 46#8, 51#8, 44#8, 32#8, 115#8, 101#8, 114#8, 118#8, 101#8, 114#8, 32#8, 67#8, 101#8, 114#8, 116#8, 105#8, 102#8, 105#8, 99#8, 97#8, 116#8, 101#8, 86#8, 101#8, 114#8, 105#8, 102#8, 121#8]
def z32 : List (BitVec 8) := List.replicate 32 0#8
def derS (s : List (BitVec 8)) : List (BitVec 8) := labS s nmDer (sumS []) 32
def pskS (psk : List (BitVec 8)) : List (BitVec 8) := if psk = [] then z32 else psk
def earlyS (psk : List (BitVec 8)) : List (BitVec 8) := macS z32 (pskS psk)
def handS (e shared : List (BitVec 8)) : List (BitVec 8) := macS (derS e) shared
def masterS (h : List (BitVec 8)) : List (BitVec 8) := macS (derS h) z32
def verS (t sum : List (BitVec 8)) : List (BitVec 8) := macS (labS t nmFin [] 32) sum
def bindS (psk sum : List (BitVec 8)) : List (BitVec 8) := verS (labS (earlyS psk) nmBin (sumS []) 32) sum
def resS (master sum nonce : List (BitVec 8)) : List (BitVec 8) := labS (labS master nmRsM sum 32) nmRes (nonce.take 255) 32
def signM (sum : List (BitVec 8)) : List (BitVec 8) := List.replicate 64 32#8 ++ sgnN ++ [0#8] ++ sum
def signS (host sum : List (BitVec 8)) : List (BitVec 8) := macS host (signM sum)
theorem z32_len : z32.length = 32 := rfl
theorem derS_len (s : List (BitVec 8)) : (derS s).length = 32 := labS_len _ _ _ _
theorem earlyS_len (s : List (BitVec 8)) : (earlyS s).length = 32 := macS_len _ _
theorem handS_len (s t : List (BitVec 8)) : (handS s t).length = 32 := macS_len _ _
theorem masterS_len (s : List (BitVec 8)) : (masterS s).length = 32 := macS_len _ _
theorem verS_len (s t : List (BitVec 8)) : (verS s t).length = 32 := macS_len _ _
theorem bindS_len (s t : List (BitVec 8)) : (bindS s t).length = 32 := macS_len _ _
theorem resS_len (s t u : List (BitVec 8)) : (resS s t u).length = 32 := labS_len _ _ _ _
theorem signS_len (s t : List (BitVec 8)) : (signS s t).length = 32 := macS_len _ _
theorem signM_len (s : List (BitVec 8)) : (signM s).length = 98 + s.length := by simp [signM, sgnN]; omega
theorem pskS_nil : pskS [] = z32 := rfl
theorem pskS_cons {l : List (BitVec 8)} (h : 0 < l.length) : pskS l = l := by rw [pskS, if_neg (by rintro rfl; simp at h)]
theorem pskS_len (l : List (BitVec 8)) : (pskS l).length ≤ max 32 l.length := by
  unfold pskS
  split
  · rw [z32_len]; omega
  · omega
theorem u8_inj {a b : List (BitVec 8)} (h : a.map u8V = b.map u8V) : a = b := by
  apply List.ext_getElem? ; intro i
  have := congrArg (fun l : List Value => l[i]?) h
  simp only [List.getElem?_map] at this
  cases ha : a[i]? with
  | none => cases hb : b[i]? <;> simp_all
  | some x =>
    cases hb : b[i]? with
    | none => simp_all
    | some y =>
      rw [ha, hb] at this
      simp only [Option.map_some, Option.some.injEq, Value.int.injEq, true_and] at this
      rw [BitVec.eq_of_toNat_eq (Int.ofNat_inj.1 this)]

set_option maxHeartbeats 2000000 in
theorem c_lab {key : List (BitVec 8)} {lb : List (BitVec 8)} {cx : List (BitVec 8)} {Acx : Option Addr} {ncx ccx bcx qcx : Nat} (hkey : key.length = 32) (hncx : cx.length = ncx) (hAcx : 0 < ncx → Acx = some ⟨bcx, qcx, none⟩) (hl1 : 0 < lb.length) (hl2 : lb.length ≤ 249) (hcx : ncx ≤ 255) :
    Con Try.prog 55 [aggK key, strV lb, .slice Acx ncx ccx] [pRow bcx qcx cx] (fun v rs => v = aggK (labS key lb cx 32) ∧ rs = []) := by
  refine Con.enter Try.func55 Try.ntmps55 (Nat.le_of_ble_eq_true rfl) rfl fun w => ?_
  refine At.seq ?_
  refine At.region ?_
  refine At.s (S_box (some 3) 3 (zs := (key).map u8V) rfl rfl rfl (fun b3 => ?_))
  refine At.s (S_alloc (some 6) 6 (zs := (List.replicate 32 0#8).map u8V) rfl ze23 rfl (fun b6 => ?_))
  refine At.nil ?_
  refine At.next ?_
  refine At.seq ?_
  refine At.region ?_
  refine At.q (some 10) (Q_loadA (k := 3) rfl rfl Try.underlying23 rfl sz23 LN rfl) ?_
  refine At.p (some 11) (P_move rfl rfl) ?_
  refine At.p (some 12) (P_move rfl rfl) ?_
  refine At.s (S_callV (some 13) [(0, _)] [13] (vs := [_, _, _, _]) rfl en78 rfl (VN (by simp) rfl View.all V0) (by simp) (c_Label (key := key) (lb := lb) (cx := cx) (nc := ncx) (A := Acx) (bq := bcx) (q := qcx) 32 LN LN OG LN1 LN1 OG hAcx) (by rintro _ _ ⟨A13, b13, c13, r13, m13, g13a, g13b, rfl, rfl⟩; rfl) ?_)
  rintro _ _ ⟨A13, b13, c13, r13, m13, g13a, g13b, rfl, rfl⟩
  refine At.forgetM 13 rfl ?_
  have hl13 : (labS key lb cx 32).length = 32 := labS_len _ _ _ _
  refine At.p (some 9) (P_move rfl rfl) ?_
  refine At.p (some 14) (P_extract rfl rfl rfl) ?_
  refine At.p (some 15) (P_extract rfl rfl rfl) ?_
  refine At.p (some 7) (P_assign rfl rfl) ?_
  refine At.p (some 8) (P_assign rfl rfl) ?_
  refine At.nil ?_
  refine At.next ?_
  refine At.seq ?_
  refine At.region ?_
  refine At.p (some 16) (P_slice_arr1 (l := 0) (h := 32) (m := 32) rfl Try.underlying23 sz5 rfl rfl rfl rfl DO DO DO DO) ?_
  refine At.p (some 17) (P_move rfl rfl) ?_
  refine At.s (S_copyM (some 18) 3 13 (j := 0) (m := 32) (n := 32) (S := key) (L := (labS key lb cx 32)) (p := 0) rfl Try.underlying22 sz5 rfl (fun h => (fun _ => rfl) OG) rfl rfl (fun h => g13a OG) (fun _ => ⟨rfl, rfl, rfl⟩) (take_full LN) OG LN (fun _ => rfl) OG ?_)
  rw [splice_all (α := BitVec 8) key (labS key lb cx 32) LN]
  refine At.nil ?_
  refine At.next ?_
  refine At.seq ?_
  refine At.region ?_
  refine At.q (some 19) (Q_loadA (k := 3) rfl rfl Try.underlying23 rfl sz23 LN rfl) ?_
  refine At.s (S_storeA none (k := 6) (vs := (labS key lb cx 32).map u8V) rfl rfl rfl (by rw [sz23]; exact congrArg some LN) rfl (one_map (fun _ => rfl)) NG rfl LN ?_)
  refine At.nil ?_
  refine At.next ?_
  refine At.ret ?_
  refine At.giveV (.inl rfl) [] (rows' := []) (ResV.cellA (k := 6) rfl rfl Try.underlying23 rfl sz23 LN rfl) rfl (by simp) (by simp) ?_
  exact ⟨rfl, rfl⟩

set_option maxHeartbeats 2000000 in
theorem r_lab {key : List (BitVec 8)} {lb : List (BitVec 8)} {cx : List (BitVec 8)} {Acx : Option Addr} {ncx ccx bcx qcx : Nat} (hkey : key.length = 32) (hncx : cx.length = ncx) (hAcx : 0 < ncx → Acx = some ⟨bcx, qcx, none⟩) (hl1 : 0 < lb.length) (hl2 : lb.length ≤ 249) (hcx : ncx ≤ 255) :
    Con Try.prog 57 [aggK key, strV lb, .slice Acx ncx ccx] [pRow bcx qcx cx] (fun v rs => v = aggK (labS key lb cx 32) ∧ rs = []) := by
  refine Con.enter Try.func57 Try.ntmps57 (Nat.le_of_ble_eq_true rfl) rfl fun w => ?_
  refine At.seq ?_
  refine At.region ?_
  refine At.s (S_box (some 3) 3 (zs := (key).map u8V) rfl rfl rfl (fun b3 => ?_))
  refine At.s (S_alloc (some 6) 6 (zs := (List.replicate 32 0#8).map u8V) rfl ze23 rfl (fun b6 => ?_))
  refine At.nil ?_
  refine At.next ?_
  refine At.seq ?_
  refine At.region ?_
  refine At.s (S_alloc (some 7) 7 (zs := (List.replicate 32 0#8).map u8V) rfl ze23 rfl (fun b7 => ?_))
  refine At.nil ?_
  refine At.next ?_
  refine At.seq ?_
  refine At.region ?_
  refine At.q (some 11) (Q_loadA (k := 3) rfl rfl Try.underlying23 rfl sz23 LN rfl) ?_
  refine At.p (some 12) (P_move rfl rfl) ?_
  refine At.p (some 13) (P_move rfl rfl) ?_
  refine At.s (S_callV (some 14) [(0, _)] [14] (vs := [_, _, _, _]) rfl en82 rfl (VN (by simp) rfl View.all V0) (by simp) (r_Label (key := key) (lb := lb) (cx := cx) (nc := ncx) (A := Acx) (bq := bcx) (q := qcx) 32 LN LN OG LN1 LN1 OG hAcx) (by rintro _ _ ⟨A14, b14, c14, r14, m14, g14a, g14b, rfl, rfl⟩; rfl) ?_)
  rintro _ _ ⟨A14, b14, c14, r14, m14, g14a, g14b, rfl, rfl⟩
  refine At.forgetM 14 rfl ?_
  have hl14 : (labS key lb cx 32).length = 32 := labS_len _ _ _ _
  refine At.p (some 10) (P_move rfl rfl) ?_
  refine At.p (some 15) (P_extract rfl rfl rfl) ?_
  refine At.p (some 16) (P_extract rfl rfl rfl) ?_
  refine At.p (some 8) (P_assign rfl rfl) ?_
  refine At.p (some 9) (P_assign rfl rfl) ?_
  refine At.nil ?_
  refine At.next ?_
  refine At.seq ?_
  refine At.region ?_
  refine At.p (some 17) (P_slice_arr1 (l := 0) (h := 32) (m := 32) rfl Try.underlying23 sz5 rfl rfl rfl rfl DO DO DO DO) ?_
  refine At.p (some 18) (P_move rfl rfl) ?_
  refine At.s (S_copyM (some 19) 7 14 (j := 0) (m := 32) (n := 32) (S := (List.replicate 32 0#8)) (L := (labS key lb cx 32)) (p := 0) rfl Try.underlying22 sz5 rfl (fun h => (fun _ => rfl) OG) rfl rfl (fun h => g14a OG) (fun _ => ⟨rfl, rfl, rfl⟩) (take_full LN) OG LN (fun _ => rfl) OG ?_)
  rw [splice_all (α := BitVec 8) (List.replicate 32 0#8) (labS key lb cx 32) LN]
  refine At.nil ?_
  refine At.next ?_
  refine At.seq ?_
  refine At.region ?_
  refine At.q (some 20) (Q_loadA (k := 7) rfl rfl Try.underlying23 rfl sz23 LN rfl) ?_
  refine At.s (S_storeA none (k := 6) (vs := (labS key lb cx 32).map u8V) rfl rfl rfl (by rw [sz23]; exact congrArg some LN) rfl (one_map (fun _ => rfl)) NG rfl LN ?_)
  refine At.nil ?_
  refine At.next ?_
  refine At.ret ?_
  refine At.giveV (.inl rfl) [] (rows' := []) (ResV.cellA (k := 6) rfl rfl Try.underlying23 rfl sz23 LN rfl) rfl (by simp) (by simp) ?_
  exact ⟨rfl, rfl⟩

set_option maxHeartbeats 2000000 in
theorem c_der {s : List (BitVec 8)} (hs : s.length = 32) :
    Con Try.prog 51 [aggK s] [] (fun v rs => ∃ (b' : Nat), v = .slice (some ⟨b', 0, none⟩) 32 32 ∧ rs = [⟨true, b', 0, 23, (derS s).map u8V, 0⟩]) := by
  refine Con.enter Try.func51 Try.ntmps51 (Nat.le_of_ble_eq_true rfl) rfl fun w => ?_
  refine At.seq ?_
  refine At.region ?_
  refine At.s (S_box (some 1) 1 (zs := (s).map u8V) rfl rfl rfl (fun b1 => ?_))
  refine At.p (some 2) (P_assign rfl rfl) ?_
  refine At.nil ?_
  refine At.next ?_
  refine At.seq ?_
  refine At.region ?_
  refine At.s (S_callV (some 5) [(98, _)] [] (vs := [_]) rfl en54 rfl (VE rfl rfl V0) (by simp) (c_SumN (l := ([] : List (BitVec 8))) (n := 0) (A := none) (bq := 0) (q := 0) LN (fun h => absurd h (Nat.lt_irrefl 0)) OG) (by rintro _ _ ⟨rfl, rfl⟩; rfl) ?_)
  rintro _ _ ⟨rfl, rfl⟩
  have := sumS_len ([] : List (BitVec 8))
  refine At.s (S_alloc (some 3) 3 (zs := (List.replicate 32 0#8).map u8V) rfl ze23 rfl (fun b3 => ?_))
  refine At.s (S_storeA none (k := 3) (vs := (sumS ([] : List (BitVec 8))).map u8V) rfl rfl rfl (by rw [sz23]; exact congrArg some LN) rfl (one_map (fun _ => rfl)) NG rfl LN ?_)
  refine At.nil ?_
  refine At.next ?_
  refine At.seq ?_
  refine At.draws 4 [] [.q false [0, 1, 2], .e false 3] (by kernel_rfl) (by kernel_rfl) ?_
  refine At.wq (some 6) (Q_loadA (k := 1) rfl rfl Try.underlying23 rfl sz23 LN rfl) ?_
  refine At.wp (some 7) (P_slice_arr1 (l := 0) (h := 32) (m := 32) rfl Try.underlying23 sz5 rfl rfl rfl rfl DO DO DO DO) ?_
  refine At.wcV (some 8) [(3, _)] (vs := [_, _, _]) rfl en55 rfl (VN (by simp) rfl View.all V0) (c_lab (key := s) (lb := nmDer) (cx := (sumS ([] : List (BitVec 8)))) (ncx := 32) (Acx := (some ⟨b3, 0, none⟩)) (ccx := 32) (bcx := b3) (qcx := 0) LN LN (fun _ => rfl) LN1 LN1 OG) ?_
  have := labS_len s nmDer (sumS ([] : List (BitVec 8))) 32
  refine At.wqn ?_
  refine At.we ?_
  refine S_alloc (some 4) 4 (zs := (List.replicate 32 0#8).map u8V) rfl ze23 rfl (fun b4 => ?_)
  refine At.wt rfl ?_
  refine At.s (S_storeA none (k := 4) (vs := (labS s nmDer (sumS ([] : List (BitVec 8))) 32).map u8V) rfl rfl rfl (by rw [sz23]; exact congrArg some LN) rfl (one_map (fun _ => rfl)) NG rfl LN ?_)
  refine At.nil ?_
  refine At.next ?_
  refine At.seq ?_
  refine At.region ?_
  refine At.p (some 9) (P_slice_arr1 (l := 0) (h := 32) (m := 32) rfl Try.underlying23 sz5 rfl rfl rfl rfl DO DO DO DO) ?_
  refine At.p (some 2) (P_assign rfl rfl) ?_
  refine At.nil ?_
  refine At.next ?_
  refine At.ret ?_
  refine At.give (.inl rfl) [4] (rows' := [_]) (vs := [_]) rfl ⟨rfl, trivial⟩ rfl (by simp) (by simp) ⟨b4, rfl, rfl⟩

set_option maxHeartbeats 2000000 in
theorem r_der {s : List (BitVec 8)} (hs : s.length = 32) :
    Con Try.prog 53 [aggK s] [] (fun v rs => v = aggK (derS s) ∧ rs = []) := by
  refine Con.enter Try.func53 Try.ntmps53 (Nat.le_of_ble_eq_true rfl) rfl fun w => ?_
  refine At.seq ?_
  refine At.region ?_
  refine At.s (S_box (some 1) 1 (zs := (s).map u8V) rfl rfl rfl (fun b1 => ?_))
  refine At.s (S_alloc (some 2) 2 (zs := (List.replicate 32 0#8).map u8V) rfl ze23 rfl (fun b2 => ?_))
  refine At.nil ?_
  refine At.next ?_
  refine At.seq ?_
  refine At.region ?_
  refine At.s (S_callV (some 4) [(98, _)] [] (vs := [_]) rfl en56 rfl (VE rfl rfl V0) (by simp) (r_SumN (l := ([] : List (BitVec 8))) (n := 0) (A := none) (bq := 0) (q := 0) LN (fun h => absurd h (Nat.lt_irrefl 0)) OG) (by rintro _ _ ⟨rfl, rfl⟩; rfl) ?_)
  rintro _ _ ⟨rfl, rfl⟩
  have := sumS_len ([] : List (BitVec 8))
  refine At.s (S_alloc (some 3) 3 (zs := (List.replicate 32 0#8).map u8V) rfl ze23 rfl (fun b3 => ?_))
  refine At.s (S_storeA none (k := 3) (vs := (sumS ([] : List (BitVec 8))).map u8V) rfl rfl rfl (by rw [sz23]; exact congrArg some LN) rfl (one_map (fun _ => rfl)) NG rfl LN ?_)
  refine At.nil ?_
  refine At.next ?_
  refine At.seq ?_
  have := labS_len s nmDer (sumS ([] : List (BitVec 8))) 32
  refine At.bBruteG [3, 5] (fun fr H => ∃ (b6 : Nat) (A8 : Option Addr) (b8 c8 : Nat), fr = frOf [(2, ptr b2 0)] ∧ H = hOf [(2, ⟨true, b2, 0, 23, (labS s nmDer (sumS ([] : List (BitVec 8))) 32).map u8V, 0⟩)] ∧ (0 < c8 → A8 = some ⟨b8, 0, none⟩) ∧ ((sumS ([] : List (BitVec 8))).length ≤ c8) ∧ True) (by kernel_rfl) ?_ ?_
  · intro Kb hKb G hGi hGo
    have hG2_0 (b6 : Nat) (A8 : Option Addr) (b8 c8 : Nat) (g8a : 0 < c8 → A8 = some ⟨b8, 0, none⟩) (g8b : (sumS ([] : List (BitVec 8))).length ≤ c8) : G 0 #[true, true, true, true, true, true] (frOf [(2, ptr b2 0)]) (hOf [(2, ⟨true, b2, 0, 23, (labS s nmDer (sumS ([] : List (BitVec 8))) 32).map u8V, 0⟩)]) := by
      refine hGo ?_
      refine At.bEnd (by kernel_rfl) ?_
      refine At.next ?_
      exact hKb _ _ ⟨b6, A8, b8, c8, rfl, rfl, g8a, g8b, trivial⟩
    have hG2_1 (b6 : Nat) (A8 : Option Addr) (b8 c8 : Nat) (g8a : 0 < c8 → A8 = some ⟨b8, 0, none⟩) (g8b : (sumS ([] : List (BitVec 8))).length ≤ c8) : G 1 #[true, true, true, true, true, false] (frOf [(2, ptr b2 0), (9, aggK (labS s nmDer (sumS ([] : List (BitVec 8))) 32))]) (hOf [(2, ⟨true, b2, 0, 23, (List.replicate 32 0#8).map u8V, 0⟩)]) := by
      refine hGo ?_
      refine At.bStep [5] (by kernel_rfl) (by simp) ?_
      refine At.bS true (by kernel_rfl) (S_storeA none (k := 2) (vs := (labS s nmDer (sumS ([] : List (BitVec 8))) 32).map u8V) rfl rfl rfl (by rw [sz23]; exact congrArg some LN) rfl (one_map (fun _ => rfl)) NG rfl LN ?_)
      refine At.to [(2, ptr b2 0)] [(2, ⟨true, b2, 0, 23, (labS s nmDer (sumS ([] : List (BitVec 8))) 32).map u8V, 0⟩)] (AllL.cons_ (rfl) trivial) (AllL.cons_ (rfl) trivial) ?_
      exact hGi (hG2_0 b6 A8 b8 c8 g8a g8b)
    have hG2_2 (b6 : Nat) : G 3 #[true, true, true, false, false, false] (frOf [(2, ptr b2 0), (5, aggK s), (6, .slice (some ⟨b6, 0, none⟩) 0 0), (7, .slice (some ⟨b3, 0, none⟩) 32 32)]) (hOf [(2, ⟨true, b2, 0, 23, (List.replicate 32 0#8).map u8V, 0⟩), (3, ⟨true, b3, 0, 23, (sumS ([] : List (BitVec 8))).map u8V, 0⟩), (6, ⟨true, b6, 0, 5, ([]).map u8V, 0⟩)]) := by
      refine hGo ?_
      refine At.bStep [3] (by kernel_rfl) (by simp) ?_
      refine At.bS true (by kernel_rfl) (S_appendM (some 8) 6 (sumS ([] : List (BitVec 8))) (f := u8V) (l := []) (L := (sumS ([] : List (BitVec 8)))) (m := 32) rfl Try.underlying22 Try.underlying22 (.inr ⟨_, rfl⟩) sz5 by5 ze5 rfl rfl (fun h => ⟨rfl, rfl⟩) LN OG (Src.all (k := 3) (l := (sumS ([] : List (BitVec 8)))) rfl (fun _ => rfl) (fun _ => ⟨rfl, rfl, rfl⟩) LN) (fun _ => rfl) OG OG rfl LN ?_)
      intro A8 b8 c8 g8a g8b
      refine At.bC  4 (some 9) [(6, _)] (vs := [_, _, _]) (by kernel_rfl) (by kernel_rfl) rfl en57 rfl (VN (by simp) rfl View.all V0) (r_lab (key := s) (lb := nmDer) (cx := (sumS ([] : List (BitVec 8)))) (ncx := ((sumS ([] : List (BitVec 8))).length)) (Acx := A8) (ccx := c8) (bcx := b8) (qcx := 0) LN LN (fun h => g8a (by omega)) LN1 LN1 OG) ?_
      refine At.to [(2, ptr b2 0), (9, aggK (labS s nmDer (sumS ([] : List (BitVec 8))) 32))] [(2, ⟨true, b2, 0, 23, (List.replicate 32 0#8).map u8V, 0⟩)] (AllL.cons_ (rfl) (AllL.cons_ (rfl) trivial)) (AllL.cons_ (rfl) trivial) ?_
      exact hGi (hG2_1 b6 A8 b8 c8 g8a g8b)
    have hG2_3  : G 4 #[true, false, true, false, false, false] (frOf [(2, ptr b2 0), (5, aggK s), (7, .slice (some ⟨b3, 0, none⟩) 32 32)]) (hOf [(2, ⟨true, b2, 0, 23, (List.replicate 32 0#8).map u8V, 0⟩), (3, ⟨true, b3, 0, 23, (sumS ([] : List (BitVec 8))).map u8V, 0⟩)]) := by
      refine hGo ?_
      refine At.bStep [1] (by kernel_rfl) (by simp) ?_
      refine At.bS false (by kernel_rfl) (S_buildSlice0 (some 6) 6 rfl Try.underlying22 sz5 (fun b6 => ?_))
      refine At.to [(2, ptr b2 0), (5, aggK s), (6, .slice (some ⟨b6, 0, none⟩) 0 0), (7, .slice (some ⟨b3, 0, none⟩) 32 32)] [(2, ⟨true, b2, 0, 23, (List.replicate 32 0#8).map u8V, 0⟩), (3, ⟨true, b3, 0, 23, (sumS ([] : List (BitVec 8))).map u8V, 0⟩), (6, ⟨true, b6, 0, 5, ([]).map u8V, 0⟩)] (AllL.cons_ (rfl) (AllL.cons_ (rfl) (AllL.cons_ (rfl) (AllL.cons_ (rfl) trivial)))) (AllL.cons_ (rfl) (AllL.cons_ (rfl) (AllL.cons_ (rfl) trivial))) ?_
      exact hGi (hG2_2 b6)
    have hG2_4 (b6 : Nat) : G 4 #[false, true, true, false, false, false] (frOf [(1, ptr b1 0), (2, ptr b2 0), (6, .slice (some ⟨b6, 0, none⟩) 0 0), (7, .slice (some ⟨b3, 0, none⟩) 32 32)]) (hOf [(1, ⟨true, b1, 0, 23, (s).map u8V, 0⟩), (2, ⟨true, b2, 0, 23, (List.replicate 32 0#8).map u8V, 0⟩), (3, ⟨true, b3, 0, 23, (sumS ([] : List (BitVec 8))).map u8V, 0⟩), (6, ⟨true, b6, 0, 5, ([]).map u8V, 0⟩)]) := by
      refine hGo ?_
      refine At.bStep [0, 3] (by kernel_rfl) (by simp) ?_
      refine ⟨?_, ?_⟩
      ·
        refine At.bSQ (some 5) (Q_loadA (k := 1) rfl rfl Try.underlying23 rfl sz23 LN rfl) ?_
        refine At.to [(2, ptr b2 0), (5, aggK s), (6, .slice (some ⟨b6, 0, none⟩) 0 0), (7, .slice (some ⟨b3, 0, none⟩) 32 32)] [(2, ⟨true, b2, 0, 23, (List.replicate 32 0#8).map u8V, 0⟩), (3, ⟨true, b3, 0, 23, (sumS ([] : List (BitVec 8))).map u8V, 0⟩), (6, ⟨true, b6, 0, 5, ([]).map u8V, 0⟩)] (AllL.cons_ (rfl) (AllL.cons_ (rfl) (AllL.cons_ (rfl) (AllL.cons_ (rfl) trivial)))) (AllL.cons_ (rfl) (AllL.cons_ (rfl) (AllL.cons_ (rfl) trivial))) ?_
        exact hGi (hG2_2 b6)
      ·
        refine At.bS true (by kernel_rfl) (S_appendM (some 8) 6 (sumS ([] : List (BitVec 8))) (f := u8V) (l := []) (L := (sumS ([] : List (BitVec 8)))) (m := 32) rfl Try.underlying22 Try.underlying22 (.inr ⟨_, rfl⟩) sz5 by5 ze5 rfl rfl (fun h => ⟨rfl, rfl⟩) LN OG (Src.all (k := 3) (l := (sumS ([] : List (BitVec 8)))) rfl (fun _ => rfl) (fun _ => ⟨rfl, rfl, rfl⟩) LN) (fun _ => rfl) OG OG rfl LN ?_)
        intro A8 b8 c8 g8a g8b
        refine At.bQ  0 (some 5) (Q_loadA (k := 1) rfl rfl Try.underlying23 rfl sz23 LN rfl) (by kernel_rfl) (by kernel_rfl) ?_
        refine At.bC  4 (some 9) [(6, _)] (vs := [_, _, _]) (by kernel_rfl) (by kernel_rfl) rfl en57 rfl (VN (by simp) rfl View.all V0) (r_lab (key := s) (lb := nmDer) (cx := (sumS ([] : List (BitVec 8)))) (ncx := ((sumS ([] : List (BitVec 8))).length)) (Acx := A8) (ccx := c8) (bcx := b8) (qcx := 0) LN LN (fun h => g8a (by omega)) LN1 LN1 OG) ?_
        refine At.to [(2, ptr b2 0), (9, aggK (labS s nmDer (sumS ([] : List (BitVec 8))) 32))] [(2, ⟨true, b2, 0, 23, (List.replicate 32 0#8).map u8V, 0⟩)] (AllL.cons_ (rfl) (AllL.cons_ (rfl) trivial)) (AllL.cons_ (rfl) trivial) ?_
        exact hGi (hG2_1 b6 A8 b8 c8 g8a g8b)
    have hG2_5  : G 5 #[false, false, true, false, false, false] (frOf [(1, ptr b1 0), (2, ptr b2 0), (7, .slice (some ⟨b3, 0, none⟩) 32 32)]) (hOf [(1, ⟨true, b1, 0, 23, (s).map u8V, 0⟩), (2, ⟨true, b2, 0, 23, (List.replicate 32 0#8).map u8V, 0⟩), (3, ⟨true, b3, 0, 23, (sumS ([] : List (BitVec 8))).map u8V, 0⟩)]) := by
      refine hGo ?_
      refine At.bStep [0, 1] (by kernel_rfl) (by simp) ?_
      refine ⟨?_, ?_⟩
      ·
        refine At.bSQ (some 5) (Q_loadA (k := 1) rfl rfl Try.underlying23 rfl sz23 LN rfl) ?_
        refine At.to [(2, ptr b2 0), (5, aggK s), (7, .slice (some ⟨b3, 0, none⟩) 32 32)] [(2, ⟨true, b2, 0, 23, (List.replicate 32 0#8).map u8V, 0⟩), (3, ⟨true, b3, 0, 23, (sumS ([] : List (BitVec 8))).map u8V, 0⟩)] (AllL.cons_ (rfl) (AllL.cons_ (rfl) (AllL.cons_ (rfl) trivial))) (AllL.cons_ (rfl) (AllL.cons_ (rfl) trivial)) ?_
        exact hGi (hG2_3 )
      ·
        refine At.bS false (by kernel_rfl) (S_buildSlice0 (some 6) 6 rfl Try.underlying22 sz5 (fun b6 => ?_))
        refine At.to [(1, ptr b1 0), (2, ptr b2 0), (6, .slice (some ⟨b6, 0, none⟩) 0 0), (7, .slice (some ⟨b3, 0, none⟩) 32 32)] [(1, ⟨true, b1, 0, 23, (s).map u8V, 0⟩), (2, ⟨true, b2, 0, 23, (List.replicate 32 0#8).map u8V, 0⟩), (3, ⟨true, b3, 0, 23, (sumS ([] : List (BitVec 8))).map u8V, 0⟩), (6, ⟨true, b6, 0, 5, ([]).map u8V, 0⟩)] (AllL.cons_ (rfl) (AllL.cons_ (rfl) (AllL.cons_ (rfl) (AllL.cons_ (rfl) trivial)))) (AllL.cons_ (rfl) (AllL.cons_ (rfl) (AllL.cons_ (rfl) (AllL.cons_ (rfl) trivial)))) ?_
        exact hGi (hG2_4 b6)
    refine hGo ?_
    refine At.bP  2 (some 7) (P_slice_arr1 (l := 0) (h := 32) (m := 32) rfl Try.underlying23 sz5 rfl rfl rfl rfl DO DO DO DO) (by kernel_rfl) (by kernel_rfl) ?_
    refine At.to [(1, ptr b1 0), (2, ptr b2 0), (7, .slice (some ⟨b3, 0, none⟩) 32 32)] [(1, ⟨true, b1, 0, 23, (s).map u8V, 0⟩), (2, ⟨true, b2, 0, 23, (List.replicate 32 0#8).map u8V, 0⟩), (3, ⟨true, b3, 0, 23, (sumS ([] : List (BitVec 8))).map u8V, 0⟩)] (AllL.cons_ (rfl) (AllL.cons_ (rfl) (AllL.cons_ (rfl) trivial))) (AllL.cons_ (rfl) (AllL.cons_ (rfl) (AllL.cons_ (rfl) trivial))) ?_
    exact hGi (hG2_5 )
  · rintro fr H ⟨b6, A8, b8, c8, rfl, rfl, g8a, g8b, -⟩
    refine At.next ?_
    refine At.ret ?_
    refine At.giveV (.inl rfl) [] (rows' := []) (ResV.cellA (k := 2) rfl rfl Try.underlying23 rfl sz23 LN rfl) rfl (by simp) (by simp) ?_
    exact ⟨rfl, rfl⟩

set_option maxHeartbeats 2000000 in
theorem c_Start {psk : List (BitVec 8)} {Apsk : Option Addr} {npsk cpsk bpsk qpsk : Nat} (hnpsk : psk.length = npsk) (hApsk : 0 < npsk → Apsk = some ⟨bpsk, qpsk, none⟩) (hl : npsk ≤ 800000) :
    Con Try.prog 13 [.slice Apsk npsk cpsk] [pRow bpsk qpsk psk] (fun v rs => v = .agg ([(earlyS psk).map u8V, (List.replicate 32 0#8).map u8V, (List.replicate 32 0#8).map u8V].flatten).toArray ∧ rs = []) := by
  refine Con.enter Try.func13 Try.ntmps13 (Nat.le_of_ble_eq_true rfl) rfl fun w => ?_
  refine At.seq ?_
  refine At.region ?_
  refine At.s (S_alloc (some 2) 2 (zs := [(List.replicate 32 0#8).map u8V, (List.replicate 32 0#8).map u8V, (List.replicate 32 0#8).map u8V].flatten) rfl ze25 rfl (fun b2 => ?_))
  refine At.nil ?_
  refine At.next ?_
  refine At.seq ?_
  refine At.region ?_
  refine At.s (S_makeN (some 4) 4 (n := 32) (cs := ((List.replicate 32 0#8)).map u8V) rfl Try.underlying22 sz5 by5 ze5 rfl rfl (by omega) (by omega) (by omega) (by omega) ((made_one (n := 32) (by omega)).trans (by rw [List.map_replicate]; rfl)) (fun b4 => ?_))
  refine At.p (some 3) (P_assign rfl rfl) ?_
  refine At.nil ?_
  refine At.next ?_
  refine At.seq ?_
  refine At.seq ?_
  refine At.region ?_
  refine At.p (some 5) (P_move rfl rfl) ?_
  refine At.p (some 6) (P_len_sl rfl rfl ⟨_, Try.underlying22⟩ rfl) ?_
  refine At.p (some 7) (P_cmp rfl rfl rfl rfl rfl rfl) ?_
  refine At.nil ?_
  refine At.next ?_
  refine At.cond rfl (fun h7 => ?_) (fun h7 => ?_)
  · -- cond 7 t
    have e7 : (npsk : Int) = 0 := eq_of_beq h7
    refine At.region ?_
    refine At.p (some 8) (P_move rfl rfl) ?_
    refine At.p (some 0) (P_assign rfl rfl) ?_
    refine At.nil ?_
    refine At.next ?_
    refine At.seq ?_
    refine At.region ?_
    refine At.p (some 9) (P_move rfl rfl) ?_
    refine At.p (some 10) (P_move rfl rfl) ?_
    refine At.s (S_callV (some 11) [(4, _), (4, _)] [] (vs := [_, _]) rfl en50 rfl (VN (by simp) rfl View.all (VN (by simp) rfl View.all V0)) (by simp) (c_ExtractN (key := (List.replicate 32 0#8)) (n := 32) (A := (some ⟨b4, 0, none⟩)) (bq := b4) (q := 0) (b := (List.replicate 32 0#8)) (nb := 32) (A2 := (some ⟨b4, 0, none⟩)) (br := b4) (r := 0) LN LN (fun _ => rfl) (fun _ => rfl) OG OG) (by rintro _ _ ⟨rfl, rfl⟩; rfl) ?_)
    rintro _ _ ⟨rfl, rfl⟩
    have := macS_len (List.replicate 32 0#8) (List.replicate 32 0#8)
    refine At.p (some 12) (P_build_struct (cs := ([(macS (List.replicate 32 0#8) (List.replicate 32 0#8)).map u8V, (List.replicate 32 0#8).map u8V, (List.replicate 32 0#8).map u8V].flatten).toArray) (parts := _) (vs := [(0, _)]) rfl Try.underlying25 ze25 pl25 rfl (by show Instr.fill _ ([(List.replicate 32 0#8).map u8V, (List.replicate 32 0#8).map u8V, (List.replicate 32 0#8).map u8V].flatten).toArray _ = _; refine fill_seg (k := 0) (vs := (macS (List.replicate 32 0#8) (List.replicate 32 0#8)).map u8V) rfl rfl LN rfl LN LN ?_; exact fill_end (by simp))) ?_
    refine At.s (S_storeA none (k := 2) (vs := [(macS (List.replicate 32 0#8) (List.replicate 32 0#8)).map u8V, (List.replicate 32 0#8).map u8V, (List.replicate 32 0#8).map u8V].flatten) rfl rfl rfl (by rw [sz25]; exact congrArg some LN) rfl (one_flatc (one_map (fun _ => rfl)) (one_flatc (one_map (fun _ => rfl)) (one_flatc (one_map (fun _ => rfl)) one_flat0))) NG rfl LN ?_)
    refine At.nil ?_
    refine At.next ?_
    refine At.ret ?_
    have hq0 : [(macS (List.replicate 32 0#8) (List.replicate 32 0#8)).map u8V, (List.replicate 32 0#8).map u8V, (List.replicate 32 0#8).map u8V].flatten = [(earlyS psk).map u8V, (List.replicate 32 0#8).map u8V, (List.replicate 32 0#8).map u8V].flatten := by rw [earlyS, show psk = [] from List.eq_nil_of_length_eq_zero (by omega)]; rfl
    refine At.giveV (.inl rfl) [] (rows' := []) (ResV.cellA (k := 2) rfl rfl Try.underlying25 rfl sz25 LN rfl) rfl (by simp) (by simp) ?_
    exact ⟨congrArg (fun z => Value.agg (List.toArray z)) hq0, rfl⟩
  · -- cond 7 f
    have e7 : (npsk : Int) ≠ 0 := beq_eq_false_iff_ne.1 h7
    refine At.skip ?_
    refine At.next ?_
    refine At.seq ?_
    refine At.region ?_
    refine At.p (some 9) (P_move rfl rfl) ?_
    refine At.p (some 10) (P_move rfl rfl) ?_
    refine At.s (S_callV (some 11) [(4, _), (0, _)] [] (vs := [_, _]) rfl en50 rfl (VN (by simp) rfl View.all (VN (by simp) rfl View.all V0)) (by simp) (c_ExtractN (key := (List.replicate 32 0#8)) (n := 32) (A := (some ⟨b4, 0, none⟩)) (bq := b4) (q := 0) (b := psk) (nb := npsk) (A2 := Apsk) (br := bpsk) (r := qpsk) LN LN (fun _ => rfl) hApsk OG OG) (by rintro _ _ ⟨rfl, rfl⟩; rfl) ?_)
    rintro _ _ ⟨rfl, rfl⟩
    have := macS_len (List.replicate 32 0#8) psk
    refine At.p (some 12) (P_build_struct (cs := ([(macS (List.replicate 32 0#8) psk).map u8V, (List.replicate 32 0#8).map u8V, (List.replicate 32 0#8).map u8V].flatten).toArray) (parts := _) (vs := [(0, _)]) rfl Try.underlying25 ze25 pl25 rfl (by show Instr.fill _ ([(List.replicate 32 0#8).map u8V, (List.replicate 32 0#8).map u8V, (List.replicate 32 0#8).map u8V].flatten).toArray _ = _; refine fill_seg (k := 0) (vs := (macS (List.replicate 32 0#8) psk).map u8V) rfl rfl LN rfl LN LN ?_; exact fill_end (by simp))) ?_
    refine At.s (S_storeA none (k := 2) (vs := [(macS (List.replicate 32 0#8) psk).map u8V, (List.replicate 32 0#8).map u8V, (List.replicate 32 0#8).map u8V].flatten) rfl rfl rfl (by rw [sz25]; exact congrArg some LN) rfl (one_flatc (one_map (fun _ => rfl)) (one_flatc (one_map (fun _ => rfl)) (one_flatc (one_map (fun _ => rfl)) one_flat0))) NG rfl LN ?_)
    refine At.nil ?_
    refine At.next ?_
    refine At.ret ?_
    have hq0 : [(macS (List.replicate 32 0#8) psk).map u8V, (List.replicate 32 0#8).map u8V, (List.replicate 32 0#8).map u8V].flatten = [(earlyS psk).map u8V, (List.replicate 32 0#8).map u8V, (List.replicate 32 0#8).map u8V].flatten := by rw [earlyS, pskS_cons (by omega)]; rfl
    refine At.giveV (.inl rfl) [] (rows' := []) (ResV.cellA (k := 2) rfl rfl Try.underlying25 rfl sz25 LN rfl) rfl (by simp) (by simp) ?_
    exact ⟨congrArg (fun z => Value.agg (List.toArray z)) hq0, rfl⟩

set_option maxHeartbeats 2000000 in
theorem c_Mix {ea : List (BitVec 8)} {ha : List (BitVec 8)} {ma : List (BitVec 8)} {sh : List (BitVec 8)} (hea : ea.length = 32) (hha : ha.length = 32) (hma : ma.length = 32) (hsh : sh.length = 32) :
    Con Try.prog 14 [.agg ([(ea).map u8V, (ha).map u8V, (ma).map u8V].flatten).toArray, aggK sh] [] (fun v rs => v = .agg ([(ea).map u8V, (handS ea sh).map u8V, (ma).map u8V].flatten).toArray ∧ rs = []) := by
  refine Con.enter Try.func14 Try.ntmps14 (Nat.le_of_ble_eq_true rfl) rfl fun w => ?_
  refine At.seq ?_
  refine At.region ?_
  refine At.s (S_box (some 2) 2 (zs := [(ea).map u8V, (ha).map u8V, (ma).map u8V].flatten) rfl rfl rfl (fun b2 => ?_))
  refine At.s (S_box (some 3) 3 (zs := (sh).map u8V) rfl rfl rfl (fun b3 => ?_))
  refine At.s (S_alloc (some 4) 4 (zs := [(List.replicate 32 0#8).map u8V, (List.replicate 32 0#8).map u8V, (List.replicate 32 0#8).map u8V].flatten) rfl ze25 rfl (fun b4 => ?_))
  refine At.nil ?_
  refine At.next ?_
  refine At.seq ?_
  refine At.draws 4 [] [.q false [0, 1, 3], .e false 2] (by kernel_rfl) (by kernel_rfl) ?_
  refine At.wp (some 5) (P_fieldAddr0 (off := 0) rfl Try.underlying25 rfl sz23 rfl rfl) ?_
  refine At.wq (some 6) (Q_loadN (k := 2) (j := 0) (cs := (ea).map u8V) rfl rfl Try.underlying23 rfl sz23 rfl rfl rfl (seg_at (i := 0) rfl LN LN) LN) ?_
  refine At.wp (some 8) (P_slice_arr1 (l := 0) (h := 32) (m := 32) rfl Try.underlying23 sz5 rfl rfl rfl rfl DO DO DO DO) ?_
  refine At.wqn ?_
  refine At.we ?_
  refine SStep.up (S_callV (some 7) [] [7] (vs := [_]) rfl en51 rfl V0 (by simp) (c_der (s := ea) LN) (by rintro _ _ ⟨b7, rfl, rfl⟩; rfl) ?_)
  rintro _ _ ⟨b7, rfl, rfl⟩
  have := derS_len ea
  refine At.wt rfl ?_
  refine At.s (S_callV (some 9) [(7, _), (3, _)] [] (vs := [_, _]) rfl en50 rfl (VN (by simp) rfl View.all (VN (by simp) rfl View.all V0)) (by simp) (c_ExtractN (key := (derS ea)) (n := 32) (A := (some ⟨b7, 0, none⟩)) (bq := b7) (q := 0) (b := sh) (nb := 32) (A2 := (some ⟨b3, 0, none⟩)) (br := b3) (r := 0) LN LN (fun _ => rfl) (fun _ => rfl) OG OG) (by rintro _ _ ⟨rfl, rfl⟩; rfl) ?_)
  rintro _ _ ⟨rfl, rfl⟩
  have := macS_len (derS ea) sh
  refine At.p (some 10) (P_fieldAddr0 (off := 32) rfl Try.underlying25 rfl sz23 rfl rfl) ?_
  refine At.s (S_storeN none (k := 2) (vs := (macS (derS ea) sh).map u8V) rfl rfl rfl (by rw [sz23]; exact congrArg some LN) rfl (one_map (fun _ => rfl)) NG rfl LN ?_)
  refine At.row 2 (⟨true, b2, 0, 25, [(ea).map u8V, (macS (derS ea) sh).map u8V, (ma).map u8V].flatten, 0⟩) rfl (seg_set (i := 1) rfl LN LN) ?_
  refine At.nil ?_
  refine At.next ?_
  refine At.seq ?_
  refine At.region ?_
  refine At.q (some 11) (Q_loadA (k := 2) rfl rfl Try.underlying25 rfl sz25 LN rfl) ?_
  refine At.s (S_storeA none (k := 4) (vs := [(ea).map u8V, (macS (derS ea) sh).map u8V, (ma).map u8V].flatten) rfl rfl rfl (by rw [sz25]; exact congrArg some LN) rfl (one_flatc (one_map (fun _ => rfl)) (one_flatc (one_map (fun _ => rfl)) (one_flatc (one_map (fun _ => rfl)) one_flat0))) NG rfl LN ?_)
  refine At.nil ?_
  refine At.next ?_
  refine At.ret ?_
  refine At.giveV (.inl rfl) [] (rows' := []) (ResV.cellA (k := 4) rfl rfl Try.underlying25 rfl sz25 LN rfl) rfl (by simp) (by simp) ?_
  exact ⟨rfl, rfl⟩

set_option maxHeartbeats 2000000 in
theorem c_Fin {ea : List (BitVec 8)} {ha : List (BitVec 8)} {ma : List (BitVec 8)} (hea : ea.length = 32) (hha : ha.length = 32) (hma : ma.length = 32) :
    Con Try.prog 15 [.agg ([(ea).map u8V, (ha).map u8V, (ma).map u8V].flatten).toArray] [] (fun v rs => v = .agg ([(ea).map u8V, (ha).map u8V, (masterS ha).map u8V].flatten).toArray ∧ rs = []) := by
  refine Con.enter Try.func15 Try.ntmps15 (Nat.le_of_ble_eq_true rfl) rfl fun w => ?_
  refine At.seq ?_
  refine At.region ?_
  refine At.s (S_box (some 1) 1 (zs := [(ea).map u8V, (ha).map u8V, (ma).map u8V].flatten) rfl rfl rfl (fun b1 => ?_))
  refine At.s (S_alloc (some 2) 2 (zs := [(List.replicate 32 0#8).map u8V, (List.replicate 32 0#8).map u8V, (List.replicate 32 0#8).map u8V].flatten) rfl ze25 rfl (fun b2 => ?_))
  refine At.nil ?_
  refine At.next ?_
  refine At.seq ?_
  have := derS_len ha
  have := macS_len (derS ha) (List.replicate 32 0#8)
  refine At.bBruteG [6] (fun fr H => ∃ (b5 : Nat) (b6 : Nat), fr = frOf [(1, ptr b1 0), (2, ptr b2 0)] ∧ H = hOf [(1, ⟨true, b1, 0, 25, [(ea).map u8V, (ha).map u8V, (macS (derS ha) (List.replicate 32 0#8)).map u8V].flatten, 0⟩), (2, ⟨true, b2, 0, 25, [(List.replicate 32 0#8).map u8V, (List.replicate 32 0#8).map u8V, (List.replicate 32 0#8).map u8V].flatten, 0⟩)] ∧ True) (by kernel_rfl) ?_ ?_
  · intro Kb hKb G hGi hGo
    have hG1_0 (b5 : Nat) (b6 : Nat) : G 0 #[true, true, true, true, true, true, true] (frOf [(1, ptr b1 0), (2, ptr b2 0)]) (hOf [(1, ⟨true, b1, 0, 25, [(ea).map u8V, (ha).map u8V, (macS (derS ha) (List.replicate 32 0#8)).map u8V].flatten, 0⟩), (2, ⟨true, b2, 0, 25, [(List.replicate 32 0#8).map u8V, (List.replicate 32 0#8).map u8V, (List.replicate 32 0#8).map u8V].flatten, 0⟩)]) := by
      refine hGo ?_
      refine At.bEnd (by kernel_rfl) ?_
      refine At.next ?_
      exact hKb _ _ ⟨b5, b6, rfl, rfl, trivial⟩
    have hG1_1 (b5 : Nat) (b6 : Nat) : G 1 #[true, true, true, true, true, true, false] (frOf [(1, ptr b1 0), (2, ptr b2 0), (7, aggK (macS (derS ha) (List.replicate 32 0#8))), (8, ptr b1 64)]) (hOf [(1, ⟨true, b1, 0, 25, [(ea).map u8V, (ha).map u8V, (ma).map u8V].flatten, 0⟩), (2, ⟨true, b2, 0, 25, [(List.replicate 32 0#8).map u8V, (List.replicate 32 0#8).map u8V, (List.replicate 32 0#8).map u8V].flatten, 0⟩)]) := by
      refine hGo ?_
      refine At.bStep [6] (by kernel_rfl) (by simp) ?_
      refine At.bS true (by kernel_rfl) (S_storeN none (k := 1) (vs := (macS (derS ha) (List.replicate 32 0#8)).map u8V) rfl rfl rfl (by rw [sz23]; exact congrArg some LN) rfl (one_map (fun _ => rfl)) NG rfl LN ?_)
      refine At.row 1 (⟨true, b1, 0, 25, [(ea).map u8V, (ha).map u8V, (macS (derS ha) (List.replicate 32 0#8)).map u8V].flatten, 0⟩) rfl (seg_set (i := 2) rfl LN LN) ?_
      refine At.to [(1, ptr b1 0), (2, ptr b2 0)] [(1, ⟨true, b1, 0, 25, [(ea).map u8V, (ha).map u8V, (macS (derS ha) (List.replicate 32 0#8)).map u8V].flatten, 0⟩), (2, ⟨true, b2, 0, 25, [(List.replicate 32 0#8).map u8V, (List.replicate 32 0#8).map u8V, (List.replicate 32 0#8).map u8V].flatten, 0⟩)] (AllL.cons_ (rfl) (AllL.cons_ (rfl) trivial)) (AllL.cons_ (rfl) (AllL.cons_ (rfl) trivial)) ?_
      exact hGi (hG1_0 b5 b6)
    have hG1_2 (b5 : Nat) : G 4 #[true, true, true, false, false, false, false] (frOf [(1, ptr b1 0), (2, ptr b2 0), (5, .slice (some ⟨b5, 0, none⟩) 32 32)]) (hOf [(1, ⟨true, b1, 0, 25, [(ea).map u8V, (ha).map u8V, (ma).map u8V].flatten, 0⟩), (2, ⟨true, b2, 0, 25, [(List.replicate 32 0#8).map u8V, (List.replicate 32 0#8).map u8V, (List.replicate 32 0#8).map u8V].flatten, 0⟩), (5, ⟨true, b5, 0, 23, (derS ha).map u8V, 0⟩)]) := by
      refine hGo ?_
      refine At.bStep [3] (by kernel_rfl) (by simp) ?_
      refine At.bS false (by kernel_rfl) (S_makeN (some 6) 6 (n := 32) (cs := ((List.replicate 32 0#8)).map u8V) rfl Try.underlying22 sz5 by5 ze5 rfl rfl (by omega) (by omega) (by omega) (by omega) ((made_one (n := 32) (by omega)).trans (by rw [List.map_replicate]; rfl)) (fun b6 => ?_))
      refine At.bC  4 (some 7) [(5, _), (6, _)] (vs := [_, _]) (by kernel_rfl) (by kernel_rfl) rfl en50 rfl (VN (by simp) rfl View.all (VN (by simp) rfl View.all V0)) (c_ExtractN (key := (derS ha)) (n := 32) (A := (some ⟨b5, 0, none⟩)) (bq := b5) (q := 0) (b := (List.replicate 32 0#8)) (nb := 32) (A2 := (some ⟨b6, 0, none⟩)) (br := b6) (r := 0) LN LN (fun _ => rfl) (fun _ => rfl) OG OG) ?_
      refine At.bP  5 (some 8) (P_fieldAddr0 (off := 64) rfl Try.underlying25 rfl sz23 rfl rfl) (by kernel_rfl) (by kernel_rfl) ?_
      refine At.to [(1, ptr b1 0), (2, ptr b2 0), (7, aggK (macS (derS ha) (List.replicate 32 0#8))), (8, ptr b1 64)] [(1, ⟨true, b1, 0, 25, [(ea).map u8V, (ha).map u8V, (ma).map u8V].flatten, 0⟩), (2, ⟨true, b2, 0, 25, [(List.replicate 32 0#8).map u8V, (List.replicate 32 0#8).map u8V, (List.replicate 32 0#8).map u8V].flatten, 0⟩)] (AllL.cons_ (rfl) (AllL.cons_ (rfl) (AllL.cons_ (rfl) (AllL.cons_ (rfl) trivial)))) (AllL.cons_ (rfl) (AllL.cons_ (rfl) trivial)) ?_
      exact hGi (hG1_1 b5 b6)
    have hG1_3 (b6 : Nat) : G 4 #[true, true, false, true, false, false, false] (frOf [(1, ptr b1 0), (2, ptr b2 0), (4, aggK ha), (6, .slice (some ⟨b6, 0, none⟩) 32 32)]) (hOf [(1, ⟨true, b1, 0, 25, [(ea).map u8V, (ha).map u8V, (ma).map u8V].flatten, 0⟩), (2, ⟨true, b2, 0, 25, [(List.replicate 32 0#8).map u8V, (List.replicate 32 0#8).map u8V, (List.replicate 32 0#8).map u8V].flatten, 0⟩), (6, ⟨true, b6, 0, 5, ((List.replicate 32 0#8)).map u8V, 0⟩)]) := by
      refine hGo ?_
      refine At.bStep [2] (by kernel_rfl) (by simp) ?_
      refine At.bS false (by kernel_rfl) (S_callV (some 5) [] [5] (vs := [_]) rfl en51 rfl V0 (by simp) (c_der (s := ha) LN) (by rintro _ _ ⟨b5, rfl, rfl⟩; rfl) ?_)
      rintro _ _ ⟨b5, rfl, rfl⟩
      refine At.bC  4 (some 7) [(5, _), (6, _)] (vs := [_, _]) (by kernel_rfl) (by kernel_rfl) rfl en50 rfl (VN (by simp) rfl View.all (VN (by simp) rfl View.all V0)) (c_ExtractN (key := (derS ha)) (n := 32) (A := (some ⟨b5, 0, none⟩)) (bq := b5) (q := 0) (b := (List.replicate 32 0#8)) (nb := 32) (A2 := (some ⟨b6, 0, none⟩)) (br := b6) (r := 0) LN LN (fun _ => rfl) (fun _ => rfl) OG OG) ?_
      refine At.bP  5 (some 8) (P_fieldAddr0 (off := 64) rfl Try.underlying25 rfl sz23 rfl rfl) (by kernel_rfl) (by kernel_rfl) ?_
      refine At.to [(1, ptr b1 0), (2, ptr b2 0), (7, aggK (macS (derS ha) (List.replicate 32 0#8))), (8, ptr b1 64)] [(1, ⟨true, b1, 0, 25, [(ea).map u8V, (ha).map u8V, (ma).map u8V].flatten, 0⟩), (2, ⟨true, b2, 0, 25, [(List.replicate 32 0#8).map u8V, (List.replicate 32 0#8).map u8V, (List.replicate 32 0#8).map u8V].flatten, 0⟩)] (AllL.cons_ (rfl) (AllL.cons_ (rfl) (AllL.cons_ (rfl) (AllL.cons_ (rfl) trivial)))) (AllL.cons_ (rfl) (AllL.cons_ (rfl) trivial)) ?_
      exact hGi (hG1_1 b5 b6)
    have hG1_4  : G 5 #[true, true, false, false, false, false, false] (frOf [(1, ptr b1 0), (2, ptr b2 0), (4, aggK ha)]) (hOf [(1, ⟨true, b1, 0, 25, [(ea).map u8V, (ha).map u8V, (ma).map u8V].flatten, 0⟩), (2, ⟨true, b2, 0, 25, [(List.replicate 32 0#8).map u8V, (List.replicate 32 0#8).map u8V, (List.replicate 32 0#8).map u8V].flatten, 0⟩)]) := by
      refine hGo ?_
      refine At.bStep [2, 3] (by kernel_rfl) (by simp) ?_
      refine ⟨?_, ?_⟩
      ·
        refine At.bS false (by kernel_rfl) (S_callV (some 5) [] [5] (vs := [_]) rfl en51 rfl V0 (by simp) (c_der (s := ha) LN) (by rintro _ _ ⟨b5, rfl, rfl⟩; rfl) ?_)
        rintro _ _ ⟨b5, rfl, rfl⟩
        refine At.to [(1, ptr b1 0), (2, ptr b2 0), (5, .slice (some ⟨b5, 0, none⟩) 32 32)] [(1, ⟨true, b1, 0, 25, [(ea).map u8V, (ha).map u8V, (ma).map u8V].flatten, 0⟩), (2, ⟨true, b2, 0, 25, [(List.replicate 32 0#8).map u8V, (List.replicate 32 0#8).map u8V, (List.replicate 32 0#8).map u8V].flatten, 0⟩), (5, ⟨true, b5, 0, 23, (derS ha).map u8V, 0⟩)] (AllL.cons_ (rfl) (AllL.cons_ (rfl) (AllL.cons_ (rfl) trivial))) (AllL.cons_ (rfl) (AllL.cons_ (rfl) (AllL.cons_ (rfl) trivial))) ?_
        exact hGi (hG1_2 b5)
      ·
        refine At.bS false (by kernel_rfl) (S_makeN (some 6) 6 (n := 32) (cs := ((List.replicate 32 0#8)).map u8V) rfl Try.underlying22 sz5 by5 ze5 rfl rfl (by omega) (by omega) (by omega) (by omega) ((made_one (n := 32) (by omega)).trans (by rw [List.map_replicate]; rfl)) (fun b6 => ?_))
        refine At.to [(1, ptr b1 0), (2, ptr b2 0), (4, aggK ha), (6, .slice (some ⟨b6, 0, none⟩) 32 32)] [(1, ⟨true, b1, 0, 25, [(ea).map u8V, (ha).map u8V, (ma).map u8V].flatten, 0⟩), (2, ⟨true, b2, 0, 25, [(List.replicate 32 0#8).map u8V, (List.replicate 32 0#8).map u8V, (List.replicate 32 0#8).map u8V].flatten, 0⟩), (6, ⟨true, b6, 0, 5, ((List.replicate 32 0#8)).map u8V, 0⟩)] (AllL.cons_ (rfl) (AllL.cons_ (rfl) (AllL.cons_ (rfl) (AllL.cons_ (rfl) trivial)))) (AllL.cons_ (rfl) (AllL.cons_ (rfl) (AllL.cons_ (rfl) trivial))) ?_
        exact hGi (hG1_3 b6)
    refine hGo ?_
    refine At.bP  0 (some 3) (P_fieldAddr0 (off := 32) rfl Try.underlying25 rfl sz23 rfl rfl) (by kernel_rfl) (by kernel_rfl) ?_
    refine At.bQ  1 (some 4) (Q_loadN (k := 1) (j := 32) (cs := (ha).map u8V) rfl rfl Try.underlying23 rfl sz23 rfl rfl rfl (seg_at (i := 1) rfl LN LN) LN) (by kernel_rfl) (by kernel_rfl) ?_
    refine At.to [(1, ptr b1 0), (2, ptr b2 0), (4, aggK ha)] [(1, ⟨true, b1, 0, 25, [(ea).map u8V, (ha).map u8V, (ma).map u8V].flatten, 0⟩), (2, ⟨true, b2, 0, 25, [(List.replicate 32 0#8).map u8V, (List.replicate 32 0#8).map u8V, (List.replicate 32 0#8).map u8V].flatten, 0⟩)] (AllL.cons_ (rfl) (AllL.cons_ (rfl) (AllL.cons_ (rfl) trivial))) (AllL.cons_ (rfl) (AllL.cons_ (rfl) trivial)) ?_
    exact hGi (hG1_4 )
  · rintro fr H ⟨b5, b6, rfl, rfl, -⟩
    refine At.next ?_
    refine At.seq ?_
    refine At.region ?_
    refine At.q (some 9) (Q_loadA (k := 1) rfl rfl Try.underlying25 rfl sz25 LN rfl) ?_
    refine At.s (S_storeA none (k := 2) (vs := [(ea).map u8V, (ha).map u8V, (macS (derS ha) (List.replicate 32 0#8)).map u8V].flatten) rfl rfl rfl (by rw [sz25]; exact congrArg some LN) rfl (one_flatc (one_map (fun _ => rfl)) (one_flatc (one_map (fun _ => rfl)) (one_flatc (one_map (fun _ => rfl)) one_flat0))) NG rfl LN ?_)
    refine At.nil ?_
    refine At.next ?_
    refine At.ret ?_
    refine At.giveV (.inl rfl) [] (rows' := []) (ResV.cellA (k := 2) rfl rfl Try.underlying25 rfl sz25 LN rfl) rfl (by simp) (by simp) ?_
    exact ⟨rfl, rfl⟩

set_option maxHeartbeats 2000000 in
theorem r_ext {s : List (BitVec 8)} {b : List (BitVec 8)} {Ab : Option Addr} {nb cb bb qb : Nat} (hs : s.length = 32) (hnb : b.length = nb) (hAb : 0 < nb → Ab = some ⟨bb, qb, none⟩) (hl : nb ≤ 800000) :
    Con Try.prog 52 [aggK s, .slice Ab nb cb] [pRow bb qb b] (fun v rs => v = aggK (macS s b) ∧ rs = []) := by
  refine Con.enter Try.func52 Try.ntmps52 (Nat.le_of_ble_eq_true rfl) rfl fun w => ?_
  refine At.seq ?_
  refine At.region ?_
  refine At.s (S_box (some 2) 2 (zs := (s).map u8V) rfl rfl rfl (fun b2 => ?_))
  refine At.s (S_alloc (some 4) 4 (zs := (List.replicate 32 0#8).map u8V) rfl ze23 rfl (fun b4 => ?_))
  refine At.nil ?_
  refine At.next ?_
  refine At.seq ?_
  refine At.region ?_
  refine At.s (S_buildSlice0 (some 5) 5 rfl Try.underlying22 sz5 (fun b5 => ?_))
  refine At.p (some 6) (P_slice_arr1 (l := 0) (h := 32) (m := 32) rfl Try.underlying23 sz5 rfl rfl rfl rfl DO DO DO DO) ?_
  refine At.s (S_appendM (some 7) 5 (s) (f := u8V) (l := []) (L := s) (m := 32) rfl Try.underlying22 Try.underlying22 (.inr ⟨_, rfl⟩) sz5 by5 ze5 rfl rfl (fun h => ⟨rfl, rfl⟩) LN OG (Src.all (k := 2) (l := s) rfl (fun _ => rfl) (fun _ => ⟨rfl, rfl, rfl⟩) LN) (fun _ => rfl) OG OG rfl LN ?_)
  intro A7 b7 c7 g7a g7b
  refine At.p (some 8) (P_move rfl rfl) ?_
  refine At.s (S_callV (some 9) [(5, _), (0, _)] [] (vs := [_, _]) rfl en60 rfl (VN (by simp) rfl View.all (VN (by simp) rfl View.all V0)) (by simp) (r_MacN (key := s) (n := s.length) (A := A7) (bq := b7) (q := 0) (b := b) (nb := nb) (A2 := Ab) (br := bb) (r := qb) LN LN (fun h => g7a (by omega)) hAb OG OG) (by rintro _ _ ⟨rfl, rfl⟩; rfl) ?_)
  rintro _ _ ⟨rfl, rfl⟩
  have := macS_len s b
  refine At.s (S_storeA none (k := 4) (vs := (macS s b).map u8V) rfl rfl rfl (by rw [sz23]; exact congrArg some LN) rfl (one_map (fun _ => rfl)) NG rfl LN ?_)
  refine At.nil ?_
  refine At.next ?_
  refine At.ret ?_
  refine At.giveV (.inl rfl) [] (rows' := []) (ResV.cellA (k := 4) rfl rfl Try.underlying23 rfl sz23 LN rfl) rfl (by simp) (by simp) ?_
  exact ⟨rfl, rfl⟩

set_option maxHeartbeats 2000000 in
theorem r_Early {psk : List (BitVec 8)} {Apsk : Option Addr} {npsk cpsk bpsk qpsk : Nat} (hnpsk : psk.length = npsk) (hApsk : 0 < npsk → Apsk = some ⟨bpsk, qpsk, none⟩) (hl : npsk ≤ 800000) :
    Con Try.prog 16 [.slice Apsk npsk cpsk] [pRow bpsk qpsk psk] (fun v rs => v = aggK (earlyS psk) ∧ rs = []) := by
  refine Con.enter Try.func16 Try.ntmps16 (Nat.le_of_ble_eq_true rfl) rfl fun w => ?_
  refine At.seq ?_
  refine At.region ?_
  refine At.s (S_alloc (some 2) 2 (zs := (List.replicate 32 0#8).map u8V) rfl ze23 rfl (fun b2 => ?_))
  refine At.nil ?_
  refine At.next ?_
  refine At.seq ?_
  refine At.seq ?_
  refine At.region ?_
  refine At.p (some 3) (P_move rfl rfl) ?_
  refine At.p (some 4) (P_len_sl rfl rfl ⟨_, Try.underlying22⟩ rfl) ?_
  refine At.p (some 5) (P_cmp rfl rfl rfl rfl rfl rfl) ?_
  refine At.nil ?_
  refine At.next ?_
  refine At.cond rfl (fun h5 => ?_) (fun h5 => ?_)
  · -- cond 5 t
    have e5 : (npsk : Int) = 0 := eq_of_beq h5
    refine At.region ?_
    refine At.s (S_makeN (some 6) 6 (n := 32) (cs := ((List.replicate 32 0#8)).map u8V) rfl Try.underlying22 sz5 by5 ze5 rfl rfl (by omega) (by omega) (by omega) (by omega) ((made_one (n := 32) (by omega)).trans (by rw [List.map_replicate]; rfl)) (fun b6 => ?_))
    refine At.p (some 0) (P_assign rfl rfl) ?_
    refine At.nil ?_
    refine At.next ?_
    refine At.seq ?_
    refine At.region ?_
    refine At.p (some 7) (P_build_arr (cs := ((List.replicate 32 0#8).map u8V).toArray) (parts := _) (vs := []) rfl Try.underlying23 sz5 ze23 rfl rfl) ?_
    refine At.p (some 8) (P_move rfl rfl) ?_
    refine At.s (S_callV (some 9) [(6, _)] [] (vs := [_, _]) rfl en52 rfl (VN (by simp) rfl View.all V0) (by simp) (r_ext (s := (List.replicate 32 0#8)) (b := (List.replicate 32 0#8)) (nb := 32) (Ab := (some ⟨b6, 0, none⟩)) (cb := 32) (bb := b6) (qb := 0) LN LN (fun _ => rfl) OG) (by rintro _ _ ⟨rfl, rfl⟩; rfl) ?_)
    rintro _ _ ⟨rfl, rfl⟩
    have := macS_len (List.replicate 32 0#8) (List.replicate 32 0#8)
    refine At.s (S_storeA none (k := 2) (vs := (macS (List.replicate 32 0#8) (List.replicate 32 0#8)).map u8V) rfl rfl rfl (by rw [sz23]; exact congrArg some LN) rfl (one_map (fun _ => rfl)) NG rfl LN ?_)
    refine At.nil ?_
    refine At.next ?_
    refine At.ret ?_
    have hq0 : (macS (List.replicate 32 0#8) (List.replicate 32 0#8)).map u8V = (earlyS psk).map u8V := by rw [earlyS, show psk = [] from List.eq_nil_of_length_eq_zero (by omega)]; rfl
    refine At.giveV (.inl rfl) [] (rows' := []) (ResV.cellA (k := 2) rfl rfl Try.underlying23 rfl sz23 LN rfl) rfl (by simp) (by simp) ?_
    exact ⟨congrArg (fun z => Value.agg (List.toArray z)) hq0, rfl⟩
  · -- cond 5 f
    have e5 : (npsk : Int) ≠ 0 := beq_eq_false_iff_ne.1 h5
    refine At.skip ?_
    refine At.next ?_
    refine At.seq ?_
    refine At.region ?_
    refine At.p (some 7) (P_build_arr (cs := ((List.replicate 32 0#8).map u8V).toArray) (parts := _) (vs := []) rfl Try.underlying23 sz5 ze23 rfl rfl) ?_
    refine At.p (some 8) (P_move rfl rfl) ?_
    refine At.s (S_callV (some 9) [(0, _)] [] (vs := [_, _]) rfl en52 rfl (VN (by simp) rfl View.all V0) (by simp) (r_ext (s := (List.replicate 32 0#8)) (b := psk) (nb := npsk) (Ab := Apsk) (cb := cpsk) (bb := bpsk) (qb := qpsk) LN LN hApsk OG) (by rintro _ _ ⟨rfl, rfl⟩; rfl) ?_)
    rintro _ _ ⟨rfl, rfl⟩
    have := macS_len (List.replicate 32 0#8) psk
    refine At.s (S_storeA none (k := 2) (vs := (macS (List.replicate 32 0#8) psk).map u8V) rfl rfl rfl (by rw [sz23]; exact congrArg some LN) rfl (one_map (fun _ => rfl)) NG rfl LN ?_)
    refine At.nil ?_
    refine At.next ?_
    refine At.ret ?_
    have hq0 : (macS (List.replicate 32 0#8) psk).map u8V = (earlyS psk).map u8V := by rw [earlyS, pskS_cons (by omega)]; rfl
    refine At.giveV (.inl rfl) [] (rows' := []) (ResV.cellA (k := 2) rfl rfl Try.underlying23 rfl sz23 LN rfl) rfl (by simp) (by simp) ?_
    exact ⟨congrArg (fun z => Value.agg (List.toArray z)) hq0, rfl⟩

set_option maxHeartbeats 2000000 in
theorem r_Hand {e : List (BitVec 8)} {sh : List (BitVec 8)} (he : e.length = 32) (hsh : sh.length = 32) :
    Con Try.prog 17 [aggK e, aggK sh] [] (fun v rs => v = aggK (handS e sh) ∧ rs = []) := by
  refine Con.enter Try.func17 Try.ntmps17 (Nat.le_of_ble_eq_true rfl) rfl fun w => ?_
  refine At.seq ?_
  refine At.region ?_
  refine At.s (S_box (some 2) 2 (zs := (e).map u8V) rfl rfl rfl (fun b2 => ?_))
  refine At.s (S_box (some 3) 3 (zs := (sh).map u8V) rfl rfl rfl (fun b3 => ?_))
  refine At.s (S_alloc (some 4) 4 (zs := (List.replicate 32 0#8).map u8V) rfl ze23 rfl (fun b4 => ?_))
  refine At.nil ?_
  refine At.next ?_
  refine At.seq ?_
  refine At.draws 4 [] [.q false [0, 1, 3], .e false 2] (by kernel_rfl) (by kernel_rfl) ?_
  refine At.wq (some 5) (Q_loadA (k := 2) rfl rfl Try.underlying23 rfl sz23 LN rfl) ?_
  refine At.wcV (some 6) [] (vs := [_]) rfl en53 rfl V0 (r_der (s := e) LN) ?_
  have := derS_len e
  refine At.wp (some 8) (P_slice_arr1 (l := 0) (h := 32) (m := 32) rfl Try.underlying23 sz5 rfl rfl rfl rfl DO DO DO DO) ?_
  refine At.wqn ?_
  refine At.we ?_
  refine S_buildSlice0 (some 7) 7 rfl Try.underlying22 sz5 (fun b7 => ?_)
  refine At.wt rfl ?_
  refine At.s (S_appendM (some 9) 7 (sh) (f := u8V) (l := []) (L := sh) (m := 32) rfl Try.underlying22 Try.underlying22 (.inr ⟨_, rfl⟩) sz5 by5 ze5 rfl rfl (fun h => ⟨rfl, rfl⟩) LN OG (Src.all (k := 3) (l := sh) rfl (fun _ => rfl) (fun _ => ⟨rfl, rfl, rfl⟩) LN) (fun _ => rfl) OG OG rfl LN ?_)
  intro A9 b9 c9 g9a g9b
  refine At.s (S_callV (some 10) [(7, _)] [] (vs := [_, _]) rfl en52 rfl (VN (by simp) rfl View.all V0) (by simp) (r_ext (s := (derS e)) (b := sh) (nb := sh.length) (Ab := A9) (cb := c9) (bb := b9) (qb := 0) LN LN (fun h => g9a (by omega)) OG) (by rintro _ _ ⟨rfl, rfl⟩; rfl) ?_)
  rintro _ _ ⟨rfl, rfl⟩
  have := macS_len (derS e) sh
  refine At.s (S_storeA none (k := 4) (vs := (macS (derS e) sh).map u8V) rfl rfl rfl (by rw [sz23]; exact congrArg some LN) rfl (one_map (fun _ => rfl)) NG rfl LN ?_)
  refine At.nil ?_
  refine At.next ?_
  refine At.ret ?_
  refine At.giveV (.inl rfl) [] (rows' := []) (ResV.cellA (k := 4) rfl rfl Try.underlying23 rfl sz23 LN rfl) rfl (by simp) (by simp) ?_
  exact ⟨rfl, rfl⟩

set_option maxHeartbeats 2000000 in
theorem r_Mast {h : List (BitVec 8)} (hh : h.length = 32) :
    Con Try.prog 19 [aggK h] [] (fun v rs => v = aggK (masterS h) ∧ rs = []) := by
  refine Con.enter Try.func19 Try.ntmps19 (Nat.le_of_ble_eq_true rfl) rfl fun w => ?_
  refine At.seq ?_
  refine At.region ?_
  refine At.s (S_box (some 1) 1 (zs := (h).map u8V) rfl rfl rfl (fun b1 => ?_))
  refine At.s (S_alloc (some 2) 2 (zs := (List.replicate 32 0#8).map u8V) rfl ze23 rfl (fun b2 => ?_))
  refine At.nil ?_
  refine At.next ?_
  refine At.seq ?_
  refine At.draws 3 [] [.q false [0, 1], .e false 2] (by kernel_rfl) (by kernel_rfl) ?_
  refine At.wq (some 3) (Q_loadA (k := 1) rfl rfl Try.underlying23 rfl sz23 LN rfl) ?_
  refine At.wcV (some 4) [] (vs := [_]) rfl en53 rfl V0 (r_der (s := h) LN) ?_
  have := derS_len h
  refine At.wqn ?_
  refine At.we ?_
  refine S_makeN (some 5) 5 (n := 32) (cs := ((List.replicate 32 0#8)).map u8V) rfl Try.underlying22 sz5 by5 ze5 rfl rfl (by omega) (by omega) (by omega) (by omega) ((made_one (n := 32) (by omega)).trans (by rw [List.map_replicate]; rfl)) (fun b5 => ?_)
  refine At.wt rfl ?_
  refine At.s (S_callV (some 6) [(5, _)] [] (vs := [_, _]) rfl en52 rfl (VN (by simp) rfl View.all V0) (by simp) (r_ext (s := (derS h)) (b := (List.replicate 32 0#8)) (nb := 32) (Ab := (some ⟨b5, 0, none⟩)) (cb := 32) (bb := b5) (qb := 0) LN LN (fun _ => rfl) OG) (by rintro _ _ ⟨rfl, rfl⟩; rfl) ?_)
  rintro _ _ ⟨rfl, rfl⟩
  have := macS_len (derS h) (List.replicate 32 0#8)
  refine At.s (S_storeA none (k := 2) (vs := (macS (derS h) (List.replicate 32 0#8)).map u8V) rfl rfl rfl (by rw [sz23]; exact congrArg some LN) rfl (one_map (fun _ => rfl)) NG rfl LN ?_)
  refine At.nil ?_
  refine At.next ?_
  refine At.ret ?_
  refine At.giveV (.inl rfl) [] (rows' := []) (ResV.cellA (k := 2) rfl rfl Try.underlying23 rfl sz23 LN rfl) rfl (by simp) (by simp) ?_
  exact ⟨rfl, rfl⟩

set_option maxHeartbeats 2000000 in
theorem c_Traf {s : List (BitVec 8)} {nm : List (BitVec 8)} {sum : List (BitVec 8)} (hs : s.length = 32) (hsum : sum.length = 32) (hl1 : 0 < nm.length) (hl2 : nm.length ≤ 249) :
    Con Try.prog 38 [aggK s, strV nm, aggK sum] [] (fun v rs => v = aggK (labS s nm sum 32) ∧ rs = []) := by
  refine Con.enter Try.func38 Try.ntmps38 (Nat.le_of_ble_eq_true rfl) rfl fun w => ?_
  refine At.seq ?_
  refine At.region ?_
  refine At.s (S_box (some 3) 3 (zs := (s).map u8V) rfl rfl rfl (fun b3 => ?_))
  refine At.s (S_box (some 5) 5 (zs := (sum).map u8V) rfl rfl rfl (fun b5 => ?_))
  refine At.s (S_alloc (some 6) 6 (zs := (List.replicate 32 0#8).map u8V) rfl ze23 rfl (fun b6 => ?_))
  refine At.nil ?_
  refine At.next ?_
  refine At.seq ?_
  refine At.draws 3 [] [.q false [0, 1, 2]] (by kernel_rfl) (by kernel_rfl) ?_
  refine At.wq (some 7) (Q_loadA (k := 3) rfl rfl Try.underlying23 rfl sz23 LN rfl) ?_
  refine At.wp (some 8) (P_move rfl rfl) ?_
  refine At.wp (some 9) (P_slice_arr1 (l := 0) (h := 32) (m := 32) rfl Try.underlying23 sz5 rfl rfl rfl rfl DO DO DO DO) ?_
  refine At.wqn ?_
  refine At.wt rfl ?_
  refine At.s (S_callV (some 10) [(5, _)] [] (vs := [_, _, _]) rfl en55 rfl (VN (by simp) rfl View.all V0) (by simp) (c_lab (key := s) (lb := nm) (cx := sum) (ncx := 32) (Acx := (some ⟨b5, 0, none⟩)) (ccx := 32) (bcx := b5) (qcx := 0) LN LN (fun _ => rfl) LN1 LN1 OG) (by rintro _ _ ⟨rfl, rfl⟩; rfl) ?_)
  rintro _ _ ⟨rfl, rfl⟩
  have := labS_len s nm sum 32
  refine At.s (S_storeA none (k := 6) (vs := (labS s nm sum 32).map u8V) rfl rfl rfl (by rw [sz23]; exact congrArg some LN) rfl (one_map (fun _ => rfl)) NG rfl LN ?_)
  refine At.nil ?_
  refine At.next ?_
  refine At.ret ?_
  refine At.giveV (.inl rfl) [] (rows' := []) (ResV.cellA (k := 6) rfl rfl Try.underlying23 rfl sz23 LN rfl) rfl (by simp) (by simp) ?_
  exact ⟨rfl, rfl⟩

set_option maxHeartbeats 2000000 in
theorem c_Ver {t : List (BitVec 8)} {sum : List (BitVec 8)} (ht : t.length = 32) (hsum : sum.length = 32) :
    Con Try.prog 40 [aggK t, aggK sum] [] (fun v rs => v = aggK (verS t sum) ∧ rs = []) := by
  refine Con.enter Try.func40 Try.ntmps40 (Nat.le_of_ble_eq_true rfl) rfl fun w => ?_
  refine At.seq ?_
  refine At.region ?_
  refine At.s (S_box (some 2) 2 (zs := (t).map u8V) rfl rfl rfl (fun b2 => ?_))
  refine At.s (S_box (some 3) 3 (zs := (sum).map u8V) rfl rfl rfl (fun b3 => ?_))
  refine At.s (S_alloc (some 4) 4 (zs := (List.replicate 32 0#8).map u8V) rfl ze23 rfl (fun b4 => ?_))
  refine At.nil ?_
  refine At.next ?_
  refine At.seq ?_
  refine At.region ?_
  refine At.q (some 6) (Q_loadA (k := 2) rfl rfl Try.underlying23 rfl sz23 LN rfl) ?_
  refine At.s (S_callV (some 7) [(98, _)] [] (vs := [_, _, _]) rfl en55 rfl (VE rfl rfl V0) (by simp) (c_lab (key := t) (lb := nmFin) (cx := ([] : List (BitVec 8))) (ncx := 0) (Acx := none) (ccx := 0) (bcx := 0) (qcx := 0) LN LN (fun h => absurd h (Nat.lt_irrefl 0)) LN1 LN1 OG) (by rintro _ _ ⟨rfl, rfl⟩; rfl) ?_)
  rintro _ _ ⟨rfl, rfl⟩
  have := labS_len t nmFin ([] : List (BitVec 8)) 32
  refine At.s (S_alloc (some 5) 5 (zs := (List.replicate 32 0#8).map u8V) rfl ze23 rfl (fun b5 => ?_))
  refine At.s (S_storeA none (k := 5) (vs := (labS t nmFin ([] : List (BitVec 8)) 32).map u8V) rfl rfl rfl (by rw [sz23]; exact congrArg some LN) rfl (one_map (fun _ => rfl)) NG rfl LN ?_)
  refine At.nil ?_
  refine At.next ?_
  refine At.seq ?_
  refine At.draws 2 [] [.q false [0, 1]] (by kernel_rfl) (by kernel_rfl) ?_
  refine At.wp (some 8) (P_slice_arr1 (l := 0) (h := 32) (m := 32) rfl Try.underlying23 sz5 rfl rfl rfl rfl DO DO DO DO) ?_
  refine At.wp (some 9) (P_slice_arr1 (l := 0) (h := 32) (m := 32) rfl Try.underlying23 sz5 rfl rfl rfl rfl DO DO DO DO) ?_
  refine At.wqn ?_
  refine At.wt rfl ?_
  refine At.s (S_callV (some 10) [(5, _), (3, _)] [] (vs := [_, _]) rfl en64 rfl (VN (by simp) rfl View.all (VN (by simp) rfl View.all V0)) (by simp) (c_MacN (key := (labS t nmFin ([] : List (BitVec 8)) 32)) (n := 32) (A := (some ⟨b5, 0, none⟩)) (bq := b5) (q := 0) (b := sum) (nb := 32) (A2 := (some ⟨b3, 0, none⟩)) (br := b3) (r := 0) LN LN (fun _ => rfl) (fun _ => rfl) OG OG) (by rintro _ _ ⟨rfl, rfl⟩; rfl) ?_)
  rintro _ _ ⟨rfl, rfl⟩
  have := macS_len (labS t nmFin ([] : List (BitVec 8)) 32) sum
  refine At.s (S_storeA none (k := 4) (vs := (macS (labS t nmFin ([] : List (BitVec 8)) 32) sum).map u8V) rfl rfl rfl (by rw [sz23]; exact congrArg some LN) rfl (one_map (fun _ => rfl)) NG rfl LN ?_)
  refine At.nil ?_
  refine At.next ?_
  refine At.ret ?_
  refine At.giveV (.inl rfl) [] (rows' := []) (ResV.cellA (k := 4) rfl rfl Try.underlying23 rfl sz23 LN rfl) rfl (by simp) (by simp) ?_
  exact ⟨rfl, rfl⟩

set_option maxHeartbeats 2000000 in
theorem c_Bind {psk : List (BitVec 8)} {Apsk : Option Addr} {npsk cpsk bpsk qpsk : Nat} {sum : List (BitVec 8)} (hnpsk : psk.length = npsk) (hApsk : 0 < npsk → Apsk = some ⟨bpsk, qpsk, none⟩) (hsum : sum.length = 32) (hl : npsk ≤ 800000) :
    Con Try.prog 20 [.slice Apsk npsk cpsk, aggK sum] [pRow bpsk qpsk psk] (fun v rs => v = aggK (bindS psk sum) ∧ rs = []) := by
  refine Con.enter Try.func20 Try.ntmps20 (Nat.le_of_ble_eq_true rfl) rfl fun w => ?_
  refine At.seq ?_
  refine At.region ?_
  refine At.s (S_box (some 3) 3 (zs := (sum).map u8V) rfl rfl rfl (fun b3 => ?_))
  refine At.s (S_alloc (some 4) 4 (zs := (List.replicate 32 0#8).map u8V) rfl ze23 rfl (fun b4 => ?_))
  refine At.nil ?_
  refine At.next ?_
  refine At.seq ?_
  refine At.region ?_
  refine At.s (S_callV (some 6) [(98, _)] [] (vs := [_]) rfl en54 rfl (VE rfl rfl V0) (by simp) (c_SumN (l := ([] : List (BitVec 8))) (n := 0) (A := none) (bq := 0) (q := 0) LN (fun h => absurd h (Nat.lt_irrefl 0)) OG) (by rintro _ _ ⟨rfl, rfl⟩; rfl) ?_)
  rintro _ _ ⟨rfl, rfl⟩
  have := sumS_len ([] : List (BitVec 8))
  refine At.s (S_alloc (some 5) 5 (zs := (List.replicate 32 0#8).map u8V) rfl ze23 rfl (fun b5 => ?_))
  refine At.s (S_storeA none (k := 5) (vs := (sumS ([] : List (BitVec 8))).map u8V) rfl rfl rfl (by rw [sz23]; exact congrArg some LN) rfl (one_map (fun _ => rfl)) NG rfl LN ?_)
  refine At.nil ?_
  refine At.next ?_
  refine At.seq ?_
  refine At.draws 6 [] [.q false [0, 1, 2, 3, 4, 5]] (by kernel_rfl) (by kernel_rfl) ?_
  refine At.wp (some 7) (P_move rfl rfl) ?_
  refine At.wcV (some 8) [(0, _)] (vs := [_]) rfl en13 rfl (VN (by simp) rfl View.all V0) (c_Start (psk := psk) (npsk := npsk) (Apsk := Apsk) (cpsk := cpsk) (bpsk := bpsk) (qpsk := qpsk) LN hApsk OG) ?_
  have := earlyS_len psk
  refine At.wp (some 9) (P_fieldA (off := 0) (n := 32) (xs := (earlyS psk).map u8V) rfl Try.underlying25 rfl rfl Try.underlying23 sz23 rfl (seg_at (i := 0) rfl LN LN) LN (by decide)) ?_
  refine At.wp (some 10) (P_slice_arr1 (l := 0) (h := 32) (m := 32) rfl Try.underlying23 sz5 rfl rfl rfl rfl DO DO DO DO) ?_
  refine At.wcV (some 11) [(5, _)] (vs := [_, _, _]) rfl en55 rfl (VN (by simp) rfl View.all V0) (c_lab (key := (earlyS psk)) (lb := nmBin) (cx := (sumS ([] : List (BitVec 8)))) (ncx := 32) (Acx := (some ⟨b5, 0, none⟩)) (ccx := 32) (bcx := b5) (qcx := 0) LN LN (fun _ => rfl) LN1 LN1 OG) ?_
  have := labS_len (earlyS psk) nmBin (sumS ([] : List (BitVec 8))) 32
  refine At.wq (some 12) (Q_loadA (k := 3) rfl rfl Try.underlying23 rfl sz23 LN rfl) ?_
  refine At.wqn ?_
  refine At.wt rfl ?_
  refine At.s (S_callV (some 13) [] [] (vs := [_, _]) rfl en40 rfl V0 (by simp) (c_Ver (t := (labS (earlyS psk) nmBin (sumS ([] : List (BitVec 8))) 32)) (sum := sum) LN LN) (by rintro _ _ ⟨rfl, rfl⟩; rfl) ?_)
  rintro _ _ ⟨rfl, rfl⟩
  have := verS_len (labS (earlyS psk) nmBin (sumS ([] : List (BitVec 8))) 32) sum
  refine At.s (S_storeA none (k := 4) (vs := (verS (labS (earlyS psk) nmBin (sumS ([] : List (BitVec 8))) 32) sum).map u8V) rfl rfl rfl (by rw [sz23]; exact congrArg some LN) rfl (one_map (fun _ => rfl)) NG rfl LN ?_)
  refine At.nil ?_
  refine At.next ?_
  refine At.ret ?_
  refine At.giveV (.inl rfl) [] (rows' := []) (ResV.cellA (k := 4) rfl rfl Try.underlying23 rfl sz23 LN rfl) rfl (by simp) (by simp) ?_
  exact ⟨rfl, rfl⟩

set_option maxHeartbeats 2000000 in
theorem c_Res {ms : List (BitVec 8)} {sum : List (BitVec 8)} {no : List (BitVec 8)} {Ano : Option Addr} {nno cno bno qno : Nat} (hms : ms.length = 32) (hsum : sum.length = 32) (hnno : no.length = nno) (hAno : 0 < nno → Ano = some ⟨bno, qno, none⟩) (hcno : nno ≤ cno) :
    Con Try.prog 22 [aggK ms, aggK sum, .slice Ano nno cno] [pRow bno qno no] (fun v rs => v = aggK (resS ms sum no) ∧ rs = []) := by
  refine Con.enter Try.func22 Try.ntmps22 (Nat.le_of_ble_eq_true rfl) rfl fun w => ?_
  refine At.seq ?_
  refine At.region ?_
  refine At.s (S_box (some 3) 3 (zs := (ms).map u8V) rfl rfl rfl (fun b3 => ?_))
  refine At.s (S_box (some 4) 4 (zs := (sum).map u8V) rfl rfl rfl (fun b4 => ?_))
  refine At.s (S_alloc (some 6) 6 (zs := (List.replicate 32 0#8).map u8V) rfl ze23 rfl (fun b6 => ?_))
  refine At.nil ?_
  refine At.next ?_
  refine At.seq ?_
  refine At.draws 8 [] [.q false [0, 1, 2, 3, 4, 5, 6, 7]] (by kernel_rfl) (by kernel_rfl) ?_
  refine At.wq (some 7) (Q_loadA (k := 3) rfl rfl Try.underlying23 rfl sz23 LN rfl) ?_
  refine At.wq (some 8) (Q_loadA (k := 4) rfl rfl Try.underlying23 rfl sz23 LN rfl) ?_
  refine At.wcV (some 9) [] (vs := [_, _, _]) rfl en38 rfl V0 (c_Traf (s := ms) (nm := nmRsM) (sum := sum) LN LN LN1 LN1) ?_
  have := labS_len ms nmRsM sum 32
  refine At.wp (some 10) (P_move rfl rfl) ?_
  refine At.wp (some 11) (P_move rfl rfl) ?_
  refine At.wp (some 12) (P_len_sl rfl rfl ⟨_, Try.underlying22⟩ rfl) ?_
  refine At.wp (some 13) (P_min2 rfl rfl rfl rfl) ?_
  refine At.wp (some 14) (P_slice_sl (l := 0) (h := (min nno 255)) (m := cno) rfl Try.underlying22 sz5 rfl rfl ⟨_, _, rfl, by omega⟩ rfl DO DO DO) ?_
  refine At.wqn ?_
  refine At.wt rfl ?_
  refine At.s (S_callV (some 15) [(0, _)] [] (vs := [_, _, _]) rfl en55 rfl (VN (by simp) rfl (View.sub (j := 0) (m := ((min nno 255) - 0)) RO rfl) V0) (by simp) (c_lab (key := (labS ms nmRsM sum 32)) (lb := nmRes) (cx := (no.take ((min nno 255) - 0))) (ncx := ((min nno 255) - 0)) (Acx := (cut Ano 0 cno 1)) (ccx := (cno - 0)) (bcx := bno) (qcx := qno) LN LN (fun h => cut_zero (hAno (by omega))) LN1 LN1 OG) (by rintro _ _ ⟨rfl, rfl⟩; rfl) ?_)
  rintro _ _ ⟨rfl, rfl⟩
  have := labS_len (labS ms nmRsM sum 32) nmRes (no.take ((min nno 255) - 0)) 32
  refine At.s (S_storeA none (k := 6) (vs := (labS (labS ms nmRsM sum 32) nmRes (no.take ((min nno 255) - 0)) 32).map u8V) rfl rfl rfl (by rw [sz23]; exact congrArg some LN) rfl (one_map (fun _ => rfl)) NG rfl LN ?_)
  refine At.nil ?_
  refine At.next ?_
  refine At.ret ?_
  have hq0 : (labS (labS ms nmRsM sum 32) nmRes (no.take ((min nno 255) - 0)) 32).map u8V = (resS ms sum no).map u8V := by rw [resS, show no.take 255 = no.take (min nno 255 - 0) from by rw [Nat.sub_zero, ← hnno, Nat.min_comm, ← List.take_eq_take_min]]
  refine At.giveV (.inl rfl) [] (rows' := []) (ResV.cellA (k := 6) rfl rfl Try.underlying23 rfl sz23 LN rfl) rfl (by simp) (by simp) ?_
  exact ⟨congrArg (fun z => Value.agg (List.toArray z)) hq0, rfl⟩

set_option maxHeartbeats 2000000 in
theorem r_Traf {s : List (BitVec 8)} {nm : List (BitVec 8)} {sum : List (BitVec 8)} (hs : s.length = 32) (hsum : sum.length = 32) (hl1 : 0 < nm.length) (hl2 : nm.length ≤ 249) :
    Con Try.prog 39 [aggK s, strV nm, aggK sum] [] (fun v rs => v = aggK (labS s nm sum 32) ∧ rs = []) := by
  refine Con.enter Try.func39 Try.ntmps39 (Nat.le_of_ble_eq_true rfl) rfl fun w => ?_
  refine At.seq ?_
  refine At.region ?_
  refine At.s (S_box (some 3) 3 (zs := (s).map u8V) rfl rfl rfl (fun b3 => ?_))
  refine At.s (S_box (some 5) 5 (zs := (sum).map u8V) rfl rfl rfl (fun b5 => ?_))
  refine At.s (S_alloc (some 6) 6 (zs := (List.replicate 32 0#8).map u8V) rfl ze23 rfl (fun b6 => ?_))
  refine At.nil ?_
  refine At.next ?_
  refine At.seq ?_
  have := labS_len s nm sum 32
  refine At.bBruteG [4, 6] (fun fr H => ∃ (b9 : Nat) (A11 : Option Addr) (b11 c11 : Nat), fr = frOf [(6, ptr b6 0)] ∧ H = hOf [(6, ⟨true, b6, 0, 23, (labS s nm sum 32).map u8V, 0⟩)] ∧ (0 < c11 → A11 = some ⟨b11, 0, none⟩) ∧ (sum.length ≤ c11) ∧ True) (by kernel_rfl) ?_ ?_
  · intro Kb hKb G hGi hGo
    have hG1_0 (b9 : Nat) (A11 : Option Addr) (b11 c11 : Nat) (g11a : 0 < c11 → A11 = some ⟨b11, 0, none⟩) (g11b : sum.length ≤ c11) : G 0 #[true, true, true, true, true, true, true] (frOf [(6, ptr b6 0)]) (hOf [(6, ⟨true, b6, 0, 23, (labS s nm sum 32).map u8V, 0⟩)]) := by
      refine hGo ?_
      refine At.bEnd (by kernel_rfl) ?_
      refine At.next ?_
      exact hKb _ _ ⟨b9, A11, b11, c11, rfl, rfl, g11a, g11b, trivial⟩
    have hG1_1 (b9 : Nat) (A11 : Option Addr) (b11 c11 : Nat) (g11a : 0 < c11 → A11 = some ⟨b11, 0, none⟩) (g11b : sum.length ≤ c11) : G 1 #[true, true, true, true, true, true, false] (frOf [(6, ptr b6 0), (12, aggK (labS s nm sum 32))]) (hOf [(6, ⟨true, b6, 0, 23, (List.replicate 32 0#8).map u8V, 0⟩)]) := by
      refine hGo ?_
      refine At.bStep [6] (by kernel_rfl) (by simp) ?_
      refine At.bS true (by kernel_rfl) (S_storeA none (k := 6) (vs := (labS s nm sum 32).map u8V) rfl rfl rfl (by rw [sz23]; exact congrArg some LN) rfl (one_map (fun _ => rfl)) NG rfl LN ?_)
      refine At.to [(6, ptr b6 0)] [(6, ⟨true, b6, 0, 23, (labS s nm sum 32).map u8V, 0⟩)] (AllL.cons_ (rfl) trivial) (AllL.cons_ (rfl) trivial) ?_
      exact hGi (hG1_0 b9 A11 b11 c11 g11a g11b)
    have hG1_2 (b9 : Nat) : G 3 #[true, true, true, true, false, false, false] (frOf [(6, ptr b6 0), (7, aggK s), (8, strV nm), (9, .slice (some ⟨b9, 0, none⟩) 0 0), (10, .slice (some ⟨b5, 0, none⟩) 32 32)]) (hOf [(5, ⟨true, b5, 0, 23, (sum).map u8V, 0⟩), (6, ⟨true, b6, 0, 23, (List.replicate 32 0#8).map u8V, 0⟩), (9, ⟨true, b9, 0, 5, ([]).map u8V, 0⟩)]) := by
      refine hGo ?_
      refine At.bStep [4] (by kernel_rfl) (by simp) ?_
      refine At.bS true (by kernel_rfl) (S_appendM (some 11) 9 (sum) (f := u8V) (l := []) (L := sum) (m := 32) rfl Try.underlying22 Try.underlying22 (.inr ⟨_, rfl⟩) sz5 by5 ze5 rfl rfl (fun h => ⟨rfl, rfl⟩) LN OG (Src.all (k := 5) (l := sum) rfl (fun _ => rfl) (fun _ => ⟨rfl, rfl, rfl⟩) LN) (fun _ => rfl) OG OG rfl LN ?_)
      intro A11 b11 c11 g11a g11b
      refine At.bC  5 (some 12) [(9, _)] (vs := [_, _, _]) (by kernel_rfl) (by kernel_rfl) rfl en57 rfl (VN (by simp) rfl View.all V0) (r_lab (key := s) (lb := nm) (cx := sum) (ncx := sum.length) (Acx := A11) (ccx := c11) (bcx := b11) (qcx := 0) LN LN (fun h => g11a (by omega)) LN1 LN1 OG) ?_
      refine At.to [(6, ptr b6 0), (12, aggK (labS s nm sum 32))] [(6, ⟨true, b6, 0, 23, (List.replicate 32 0#8).map u8V, 0⟩)] (AllL.cons_ (rfl) (AllL.cons_ (rfl) trivial)) (AllL.cons_ (rfl) trivial) ?_
      exact hGi (hG1_1 b9 A11 b11 c11 g11a g11b)
    have hG1_3  : G 4 #[true, true, false, true, false, false, false] (frOf [(6, ptr b6 0), (7, aggK s), (8, strV nm), (10, .slice (some ⟨b5, 0, none⟩) 32 32)]) (hOf [(5, ⟨true, b5, 0, 23, (sum).map u8V, 0⟩), (6, ⟨true, b6, 0, 23, (List.replicate 32 0#8).map u8V, 0⟩)]) := by
      refine hGo ?_
      refine At.bStep [2] (by kernel_rfl) (by simp) ?_
      refine At.bS false (by kernel_rfl) (S_buildSlice0 (some 9) 9 rfl Try.underlying22 sz5 (fun b9 => ?_))
      refine At.to [(6, ptr b6 0), (7, aggK s), (8, strV nm), (9, .slice (some ⟨b9, 0, none⟩) 0 0), (10, .slice (some ⟨b5, 0, none⟩) 32 32)] [(5, ⟨true, b5, 0, 23, (sum).map u8V, 0⟩), (6, ⟨true, b6, 0, 23, (List.replicate 32 0#8).map u8V, 0⟩), (9, ⟨true, b9, 0, 5, ([]).map u8V, 0⟩)] (AllL.cons_ (rfl) (AllL.cons_ (rfl) (AllL.cons_ (rfl) (AllL.cons_ (rfl) (AllL.cons_ (rfl) trivial))))) (AllL.cons_ (rfl) (AllL.cons_ (rfl) (AllL.cons_ (rfl) trivial))) ?_
      exact hGi (hG1_2 b9)
    have hG1_4 (b9 : Nat) : G 4 #[false, true, true, true, false, false, false] (frOf [(3, ptr b3 0), (6, ptr b6 0), (8, strV nm), (9, .slice (some ⟨b9, 0, none⟩) 0 0), (10, .slice (some ⟨b5, 0, none⟩) 32 32)]) (hOf [(3, ⟨true, b3, 0, 23, (s).map u8V, 0⟩), (5, ⟨true, b5, 0, 23, (sum).map u8V, 0⟩), (6, ⟨true, b6, 0, 23, (List.replicate 32 0#8).map u8V, 0⟩), (9, ⟨true, b9, 0, 5, ([]).map u8V, 0⟩)]) := by
      refine hGo ?_
      refine At.bStep [0, 4] (by kernel_rfl) (by simp) ?_
      refine ⟨?_, ?_⟩
      ·
        refine At.bSQ (some 7) (Q_loadA (k := 3) rfl rfl Try.underlying23 rfl sz23 LN rfl) ?_
        refine At.to [(6, ptr b6 0), (7, aggK s), (8, strV nm), (9, .slice (some ⟨b9, 0, none⟩) 0 0), (10, .slice (some ⟨b5, 0, none⟩) 32 32)] [(5, ⟨true, b5, 0, 23, (sum).map u8V, 0⟩), (6, ⟨true, b6, 0, 23, (List.replicate 32 0#8).map u8V, 0⟩), (9, ⟨true, b9, 0, 5, ([]).map u8V, 0⟩)] (AllL.cons_ (rfl) (AllL.cons_ (rfl) (AllL.cons_ (rfl) (AllL.cons_ (rfl) (AllL.cons_ (rfl) trivial))))) (AllL.cons_ (rfl) (AllL.cons_ (rfl) (AllL.cons_ (rfl) trivial))) ?_
        exact hGi (hG1_2 b9)
      ·
        refine At.bS true (by kernel_rfl) (S_appendM (some 11) 9 (sum) (f := u8V) (l := []) (L := sum) (m := 32) rfl Try.underlying22 Try.underlying22 (.inr ⟨_, rfl⟩) sz5 by5 ze5 rfl rfl (fun h => ⟨rfl, rfl⟩) LN OG (Src.all (k := 5) (l := sum) rfl (fun _ => rfl) (fun _ => ⟨rfl, rfl, rfl⟩) LN) (fun _ => rfl) OG OG rfl LN ?_)
        intro A11 b11 c11 g11a g11b
        refine At.bQ  0 (some 7) (Q_loadA (k := 3) rfl rfl Try.underlying23 rfl sz23 LN rfl) (by kernel_rfl) (by kernel_rfl) ?_
        refine At.bC  5 (some 12) [(9, _)] (vs := [_, _, _]) (by kernel_rfl) (by kernel_rfl) rfl en57 rfl (VN (by simp) rfl View.all V0) (r_lab (key := s) (lb := nm) (cx := sum) (ncx := sum.length) (Acx := A11) (ccx := c11) (bcx := b11) (qcx := 0) LN LN (fun h => g11a (by omega)) LN1 LN1 OG) ?_
        refine At.to [(6, ptr b6 0), (12, aggK (labS s nm sum 32))] [(6, ⟨true, b6, 0, 23, (List.replicate 32 0#8).map u8V, 0⟩)] (AllL.cons_ (rfl) (AllL.cons_ (rfl) trivial)) (AllL.cons_ (rfl) trivial) ?_
        exact hGi (hG1_1 b9 A11 b11 c11 g11a g11b)
    have hG1_5  : G 5 #[false, true, false, true, false, false, false] (frOf [(3, ptr b3 0), (6, ptr b6 0), (8, strV nm), (10, .slice (some ⟨b5, 0, none⟩) 32 32)]) (hOf [(3, ⟨true, b3, 0, 23, (s).map u8V, 0⟩), (5, ⟨true, b5, 0, 23, (sum).map u8V, 0⟩), (6, ⟨true, b6, 0, 23, (List.replicate 32 0#8).map u8V, 0⟩)]) := by
      refine hGo ?_
      refine At.bStep [0, 2] (by kernel_rfl) (by simp) ?_
      refine ⟨?_, ?_⟩
      ·
        refine At.bSQ (some 7) (Q_loadA (k := 3) rfl rfl Try.underlying23 rfl sz23 LN rfl) ?_
        refine At.to [(6, ptr b6 0), (7, aggK s), (8, strV nm), (10, .slice (some ⟨b5, 0, none⟩) 32 32)] [(5, ⟨true, b5, 0, 23, (sum).map u8V, 0⟩), (6, ⟨true, b6, 0, 23, (List.replicate 32 0#8).map u8V, 0⟩)] (AllL.cons_ (rfl) (AllL.cons_ (rfl) (AllL.cons_ (rfl) (AllL.cons_ (rfl) trivial)))) (AllL.cons_ (rfl) (AllL.cons_ (rfl) trivial)) ?_
        exact hGi (hG1_3 )
      ·
        refine At.bS false (by kernel_rfl) (S_buildSlice0 (some 9) 9 rfl Try.underlying22 sz5 (fun b9 => ?_))
        refine At.to [(3, ptr b3 0), (6, ptr b6 0), (8, strV nm), (9, .slice (some ⟨b9, 0, none⟩) 0 0), (10, .slice (some ⟨b5, 0, none⟩) 32 32)] [(3, ⟨true, b3, 0, 23, (s).map u8V, 0⟩), (5, ⟨true, b5, 0, 23, (sum).map u8V, 0⟩), (6, ⟨true, b6, 0, 23, (List.replicate 32 0#8).map u8V, 0⟩), (9, ⟨true, b9, 0, 5, ([]).map u8V, 0⟩)] (AllL.cons_ (rfl) (AllL.cons_ (rfl) (AllL.cons_ (rfl) (AllL.cons_ (rfl) (AllL.cons_ (rfl) trivial))))) (AllL.cons_ (rfl) (AllL.cons_ (rfl) (AllL.cons_ (rfl) (AllL.cons_ (rfl) trivial)))) ?_
        exact hGi (hG1_4 b9)
    refine hGo ?_
    refine At.bP  1 (some 8) (P_move rfl rfl) (by kernel_rfl) (by kernel_rfl) ?_
    refine At.bP  3 (some 10) (P_slice_arr1 (l := 0) (h := 32) (m := 32) rfl Try.underlying23 sz5 rfl rfl rfl rfl DO DO DO DO) (by kernel_rfl) (by kernel_rfl) ?_
    refine At.to [(3, ptr b3 0), (6, ptr b6 0), (8, strV nm), (10, .slice (some ⟨b5, 0, none⟩) 32 32)] [(3, ⟨true, b3, 0, 23, (s).map u8V, 0⟩), (5, ⟨true, b5, 0, 23, (sum).map u8V, 0⟩), (6, ⟨true, b6, 0, 23, (List.replicate 32 0#8).map u8V, 0⟩)] (AllL.cons_ (rfl) (AllL.cons_ (rfl) (AllL.cons_ (rfl) (AllL.cons_ (rfl) trivial)))) (AllL.cons_ (rfl) (AllL.cons_ (rfl) (AllL.cons_ (rfl) trivial))) ?_
    exact hGi (hG1_5 )
  · rintro fr H ⟨b9, A11, b11, c11, rfl, rfl, g11a, g11b, -⟩
    refine At.next ?_
    refine At.ret ?_
    refine At.giveV (.inl rfl) [] (rows' := []) (ResV.cellA (k := 6) rfl rfl Try.underlying23 rfl sz23 LN rfl) rfl (by simp) (by simp) ?_
    exact ⟨rfl, rfl⟩

set_option maxHeartbeats 2000000 in
theorem r_Ver {t : List (BitVec 8)} {sum : List (BitVec 8)} (ht : t.length = 32) (hsum : sum.length = 32) :
    Con Try.prog 41 [aggK t, aggK sum] [] (fun v rs => v = aggK (verS t sum) ∧ rs = []) := by
  refine Con.enter Try.func41 Try.ntmps41 (Nat.le_of_ble_eq_true rfl) rfl fun w => ?_
  refine At.seq ?_
  refine At.region ?_
  refine At.s (S_box (some 2) 2 (zs := (t).map u8V) rfl rfl rfl (fun b2 => ?_))
  refine At.s (S_box (some 3) 3 (zs := (sum).map u8V) rfl rfl rfl (fun b3 => ?_))
  refine At.s (S_alloc (some 4) 4 (zs := (List.replicate 32 0#8).map u8V) rfl ze23 rfl (fun b4 => ?_))
  refine At.nil ?_
  refine At.next ?_
  refine At.seq ?_
  refine At.region ?_
  refine At.q (some 6) (Q_loadA (k := 2) rfl rfl Try.underlying23 rfl sz23 LN rfl) ?_
  refine At.s (S_callV (some 7) [(98, _)] [] (vs := [_, _, _]) rfl en57 rfl (VE rfl rfl V0) (by simp) (r_lab (key := t) (lb := nmFin) (cx := ([] : List (BitVec 8))) (ncx := 0) (Acx := none) (ccx := 0) (bcx := 0) (qcx := 0) LN LN (fun h => absurd h (Nat.lt_irrefl 0)) LN1 LN1 OG) (by rintro _ _ ⟨rfl, rfl⟩; rfl) ?_)
  rintro _ _ ⟨rfl, rfl⟩
  have := labS_len t nmFin ([] : List (BitVec 8)) 32
  refine At.s (S_alloc (some 5) 5 (zs := (List.replicate 32 0#8).map u8V) rfl ze23 rfl (fun b5 => ?_))
  refine At.s (S_storeA none (k := 5) (vs := (labS t nmFin ([] : List (BitVec 8)) 32).map u8V) rfl rfl rfl (by rw [sz23]; exact congrArg some LN) rfl (one_map (fun _ => rfl)) NG rfl LN ?_)
  refine At.nil ?_
  refine At.next ?_
  refine At.seq ?_
  have := macS_len (labS t nmFin ([] : List (BitVec 8)) 32) sum
  refine At.bBruteG [2, 5, 7] (fun fr H => ∃ (b8 : Nat) (A10 : Option Addr) (b10 c10 : Nat) (b11 : Nat) (A13 : Option Addr) (b13 c13 : Nat), fr = frOf [(4, ptr b4 0)] ∧ H = hOf [(4, ⟨true, b4, 0, 23, (macS (labS t nmFin ([] : List (BitVec 8)) 32) sum).map u8V, 0⟩)] ∧ (0 < c10 → A10 = some ⟨b10, 0, none⟩) ∧ ((labS t nmFin ([] : List (BitVec 8)) 32).length ≤ c10) ∧ (0 < c13 → A13 = some ⟨b13, 0, none⟩) ∧ (sum.length ≤ c13) ∧ True) (by kernel_rfl) ?_ ?_
  · intro Kb hKb G hGi hGo
    have hG2_0 (b8 : Nat) (A10 : Option Addr) (b10 c10 : Nat) (b11 : Nat) (A13 : Option Addr) (b13 c13 : Nat) (g10a : 0 < c10 → A10 = some ⟨b10, 0, none⟩) (g10b : (labS t nmFin ([] : List (BitVec 8)) 32).length ≤ c10) (g13a : 0 < c13 → A13 = some ⟨b13, 0, none⟩) (g13b : sum.length ≤ c13) : G 0 #[true, true, true, true, true, true, true, true] (frOf [(4, ptr b4 0)]) (hOf [(4, ⟨true, b4, 0, 23, (macS (labS t nmFin ([] : List (BitVec 8)) 32) sum).map u8V, 0⟩)]) := by
      refine hGo ?_
      refine At.bEnd (by kernel_rfl) ?_
      refine At.next ?_
      exact hKb _ _ ⟨b8, A10, b10, c10, b11, A13, b13, c13, rfl, rfl, g10a, g10b, g13a, g13b, trivial⟩
    have hG2_1 (b8 : Nat) (A10 : Option Addr) (b10 c10 : Nat) (b11 : Nat) (A13 : Option Addr) (b13 c13 : Nat) (g10a : 0 < c10 → A10 = some ⟨b10, 0, none⟩) (g10b : (labS t nmFin ([] : List (BitVec 8)) 32).length ≤ c10) (g13a : 0 < c13 → A13 = some ⟨b13, 0, none⟩) (g13b : sum.length ≤ c13) : G 1 #[true, true, true, true, true, true, true, false] (frOf [(4, ptr b4 0), (14, aggK (macS (labS t nmFin ([] : List (BitVec 8)) 32) sum))]) (hOf [(4, ⟨true, b4, 0, 23, (List.replicate 32 0#8).map u8V, 0⟩)]) := by
      refine hGo ?_
      refine At.bStep [7] (by kernel_rfl) (by simp) ?_
      refine At.bS true (by kernel_rfl) (S_storeA none (k := 4) (vs := (macS (labS t nmFin ([] : List (BitVec 8)) 32) sum).map u8V) rfl rfl rfl (by rw [sz23]; exact congrArg some LN) rfl (one_map (fun _ => rfl)) NG rfl LN ?_)
      refine At.to [(4, ptr b4 0)] [(4, ⟨true, b4, 0, 23, (macS (labS t nmFin ([] : List (BitVec 8)) 32) sum).map u8V, 0⟩)] (AllL.cons_ (rfl) trivial) (AllL.cons_ (rfl) trivial) ?_
      exact hGi (hG2_0 b8 A10 b10 c10 b11 A13 b13 c13 g10a g10b g13a g13b)
    have hG2_2 (b8 : Nat) (A10 : Option Addr) (b10 c10 : Nat) (b11 : Nat) (g10a : 0 < c10 → A10 = some ⟨b10, 0, none⟩) (g10b : (labS t nmFin ([] : List (BitVec 8)) 32).length ≤ c10) : G 3 #[true, true, true, true, true, false, false, false] (frOf [(4, ptr b4 0), (10, .slice A10 ((labS t nmFin ([] : List (BitVec 8)) 32).length) c10), (11, .slice (some ⟨b11, 0, none⟩) 0 0), (12, .slice (some ⟨b3, 0, none⟩) 32 32)]) (hOf [(3, ⟨true, b3, 0, 23, (sum).map u8V, 0⟩), (4, ⟨true, b4, 0, 23, (List.replicate 32 0#8).map u8V, 0⟩), (8, ⟨true, b10, 0, 5, (labS t nmFin ([] : List (BitVec 8)) 32).map u8V, c10 - (labS t nmFin ([] : List (BitVec 8)) 32).length⟩), (11, ⟨true, b11, 0, 5, ([]).map u8V, 0⟩)]) := by
      refine hGo ?_
      refine At.bStep [5] (by kernel_rfl) (by simp) ?_
      refine At.bS true (by kernel_rfl) (S_appendM (some 13) 11 (sum) (f := u8V) (l := []) (L := sum) (m := 32) rfl Try.underlying22 Try.underlying22 (.inr ⟨_, rfl⟩) sz5 by5 ze5 rfl rfl (fun h => ⟨rfl, rfl⟩) LN OG (Src.all (k := 3) (l := sum) rfl (fun _ => rfl) (fun _ => ⟨rfl, rfl, rfl⟩) LN) (fun _ => rfl) OG OG rfl LN ?_)
      intro A13 b13 c13 g13a g13b
      refine At.bC  6 (some 14) [(8, _), (11, _)] (vs := [_, _]) (by kernel_rfl) (by kernel_rfl) rfl en60 rfl (VN (by simp) rfl View.all (VN (by simp) rfl View.all V0)) (r_MacN (key := (labS t nmFin ([] : List (BitVec 8)) 32)) (n := ((labS t nmFin ([] : List (BitVec 8)) 32).length)) (A := A10) (bq := b10) (q := 0) (b := sum) (nb := sum.length) (A2 := A13) (br := b13) (r := 0) LN LN (fun h => g10a (by omega)) (fun h => g13a (by omega)) OG OG) ?_
      refine At.to [(4, ptr b4 0), (14, aggK (macS (labS t nmFin ([] : List (BitVec 8)) 32) sum))] [(4, ⟨true, b4, 0, 23, (List.replicate 32 0#8).map u8V, 0⟩)] (AllL.cons_ (rfl) (AllL.cons_ (rfl) trivial)) (AllL.cons_ (rfl) trivial) ?_
      exact hGi (hG2_1 b8 A10 b10 c10 b11 A13 b13 c13 g10a g10b g13a g13b)
    have hG2_3 (b8 : Nat) (A10 : Option Addr) (b10 c10 : Nat) (g10a : 0 < c10 → A10 = some ⟨b10, 0, none⟩) (g10b : (labS t nmFin ([] : List (BitVec 8)) 32).length ≤ c10) : G 4 #[true, true, true, false, true, false, false, false] (frOf [(4, ptr b4 0), (10, .slice A10 ((labS t nmFin ([] : List (BitVec 8)) 32).length) c10), (12, .slice (some ⟨b3, 0, none⟩) 32 32)]) (hOf [(3, ⟨true, b3, 0, 23, (sum).map u8V, 0⟩), (4, ⟨true, b4, 0, 23, (List.replicate 32 0#8).map u8V, 0⟩), (8, ⟨true, b10, 0, 5, (labS t nmFin ([] : List (BitVec 8)) 32).map u8V, c10 - (labS t nmFin ([] : List (BitVec 8)) 32).length⟩)]) := by
      refine hGo ?_
      refine At.bStep [3] (by kernel_rfl) (by simp) ?_
      refine At.bS false (by kernel_rfl) (S_buildSlice0 (some 11) 11 rfl Try.underlying22 sz5 (fun b11 => ?_))
      refine At.to [(4, ptr b4 0), (10, .slice A10 ((labS t nmFin ([] : List (BitVec 8)) 32).length) c10), (11, .slice (some ⟨b11, 0, none⟩) 0 0), (12, .slice (some ⟨b3, 0, none⟩) 32 32)] [(3, ⟨true, b3, 0, 23, (sum).map u8V, 0⟩), (4, ⟨true, b4, 0, 23, (List.replicate 32 0#8).map u8V, 0⟩), (8, ⟨true, b10, 0, 5, (labS t nmFin ([] : List (BitVec 8)) 32).map u8V, c10 - (labS t nmFin ([] : List (BitVec 8)) 32).length⟩), (11, ⟨true, b11, 0, 5, ([]).map u8V, 0⟩)] (AllL.cons_ (rfl) (AllL.cons_ (rfl) (AllL.cons_ (rfl) (AllL.cons_ (rfl) trivial)))) (AllL.cons_ (rfl) (AllL.cons_ (rfl) (AllL.cons_ (rfl) (AllL.cons_ (rfl) trivial)))) ?_
      exact hGi (hG2_2 b8 A10 b10 c10 b11 g10a g10b)
    have hG2_4 (b8 : Nat) (b11 : Nat) : G 4 #[true, true, false, true, true, false, false, false] (frOf [(4, ptr b4 0), (8, .slice (some ⟨b8, 0, none⟩) 0 0), (9, .slice (some ⟨b5, 0, none⟩) 32 32), (11, .slice (some ⟨b11, 0, none⟩) 0 0), (12, .slice (some ⟨b3, 0, none⟩) 32 32)]) (hOf [(3, ⟨true, b3, 0, 23, (sum).map u8V, 0⟩), (4, ⟨true, b4, 0, 23, (List.replicate 32 0#8).map u8V, 0⟩), (5, ⟨true, b5, 0, 23, (labS t nmFin ([] : List (BitVec 8)) 32).map u8V, 0⟩), (8, ⟨true, b8, 0, 5, ([]).map u8V, 0⟩), (11, ⟨true, b11, 0, 5, ([]).map u8V, 0⟩)]) := by
      refine hGo ?_
      refine At.bStep [2] (by kernel_rfl) (by simp) ?_
      refine At.bS true (by kernel_rfl) (S_appendM (some 10) 8 (labS t nmFin ([] : List (BitVec 8)) 32) (f := u8V) (l := []) (L := (labS t nmFin ([] : List (BitVec 8)) 32)) (m := 32) rfl Try.underlying22 Try.underlying22 (.inr ⟨_, rfl⟩) sz5 by5 ze5 rfl rfl (fun h => ⟨rfl, rfl⟩) LN OG (Src.all (k := 5) (l := (labS t nmFin ([] : List (BitVec 8)) 32)) rfl (fun _ => rfl) (fun _ => ⟨rfl, rfl, rfl⟩) LN) (fun _ => rfl) OG OG rfl LN ?_)
      intro A10 b10 c10 g10a g10b
      refine At.to [(4, ptr b4 0), (10, .slice A10 ((labS t nmFin ([] : List (BitVec 8)) 32).length) c10), (11, .slice (some ⟨b11, 0, none⟩) 0 0), (12, .slice (some ⟨b3, 0, none⟩) 32 32)] [(3, ⟨true, b3, 0, 23, (sum).map u8V, 0⟩), (4, ⟨true, b4, 0, 23, (List.replicate 32 0#8).map u8V, 0⟩), (8, ⟨true, b10, 0, 5, (labS t nmFin ([] : List (BitVec 8)) 32).map u8V, c10 - (labS t nmFin ([] : List (BitVec 8)) 32).length⟩), (11, ⟨true, b11, 0, 5, ([]).map u8V, 0⟩)] (AllL.cons_ (rfl) (AllL.cons_ (rfl) (AllL.cons_ (rfl) (AllL.cons_ (rfl) trivial)))) (AllL.cons_ (rfl) (AllL.cons_ (rfl) (AllL.cons_ (rfl) (AllL.cons_ (rfl) trivial)))) ?_
      exact hGi (hG2_2 b8 A10 b10 c10 b11 g10a g10b)
    have hG2_5 (b8 : Nat) : G 5 #[true, true, false, false, true, false, false, false] (frOf [(4, ptr b4 0), (8, .slice (some ⟨b8, 0, none⟩) 0 0), (9, .slice (some ⟨b5, 0, none⟩) 32 32), (12, .slice (some ⟨b3, 0, none⟩) 32 32)]) (hOf [(3, ⟨true, b3, 0, 23, (sum).map u8V, 0⟩), (4, ⟨true, b4, 0, 23, (List.replicate 32 0#8).map u8V, 0⟩), (5, ⟨true, b5, 0, 23, (labS t nmFin ([] : List (BitVec 8)) 32).map u8V, 0⟩), (8, ⟨true, b8, 0, 5, ([]).map u8V, 0⟩)]) := by
      refine hGo ?_
      refine At.bStep [2, 3] (by kernel_rfl) (by simp) ?_
      refine ⟨?_, ?_⟩
      ·
        refine At.bS true (by kernel_rfl) (S_appendM (some 10) 8 (labS t nmFin ([] : List (BitVec 8)) 32) (f := u8V) (l := []) (L := (labS t nmFin ([] : List (BitVec 8)) 32)) (m := 32) rfl Try.underlying22 Try.underlying22 (.inr ⟨_, rfl⟩) sz5 by5 ze5 rfl rfl (fun h => ⟨rfl, rfl⟩) LN OG (Src.all (k := 5) (l := (labS t nmFin ([] : List (BitVec 8)) 32)) rfl (fun _ => rfl) (fun _ => ⟨rfl, rfl, rfl⟩) LN) (fun _ => rfl) OG OG rfl LN ?_)
        intro A10 b10 c10 g10a g10b
        refine At.to [(4, ptr b4 0), (10, .slice A10 ((labS t nmFin ([] : List (BitVec 8)) 32).length) c10), (12, .slice (some ⟨b3, 0, none⟩) 32 32)] [(3, ⟨true, b3, 0, 23, (sum).map u8V, 0⟩), (4, ⟨true, b4, 0, 23, (List.replicate 32 0#8).map u8V, 0⟩), (8, ⟨true, b10, 0, 5, (labS t nmFin ([] : List (BitVec 8)) 32).map u8V, c10 - (labS t nmFin ([] : List (BitVec 8)) 32).length⟩)] (AllL.cons_ (rfl) (AllL.cons_ (rfl) (AllL.cons_ (rfl) trivial))) (AllL.cons_ (rfl) (AllL.cons_ (rfl) (AllL.cons_ (rfl) trivial))) ?_
        exact hGi (hG2_3 b8 A10 b10 c10 g10a g10b)
      ·
        refine At.bS false (by kernel_rfl) (S_buildSlice0 (some 11) 11 rfl Try.underlying22 sz5 (fun b11 => ?_))
        refine At.to [(4, ptr b4 0), (8, .slice (some ⟨b8, 0, none⟩) 0 0), (9, .slice (some ⟨b5, 0, none⟩) 32 32), (11, .slice (some ⟨b11, 0, none⟩) 0 0), (12, .slice (some ⟨b3, 0, none⟩) 32 32)] [(3, ⟨true, b3, 0, 23, (sum).map u8V, 0⟩), (4, ⟨true, b4, 0, 23, (List.replicate 32 0#8).map u8V, 0⟩), (5, ⟨true, b5, 0, 23, (labS t nmFin ([] : List (BitVec 8)) 32).map u8V, 0⟩), (8, ⟨true, b8, 0, 5, ([]).map u8V, 0⟩), (11, ⟨true, b11, 0, 5, ([]).map u8V, 0⟩)] (AllL.cons_ (rfl) (AllL.cons_ (rfl) (AllL.cons_ (rfl) (AllL.cons_ (rfl) (AllL.cons_ (rfl) trivial))))) (AllL.cons_ (rfl) (AllL.cons_ (rfl) (AllL.cons_ (rfl) (AllL.cons_ (rfl) (AllL.cons_ (rfl) trivial))))) ?_
        exact hGi (hG2_4 b8 b11)
    have hG2_6 (b11 : Nat) : G 5 #[false, true, false, true, true, false, false, false] (frOf [(4, ptr b4 0), (9, .slice (some ⟨b5, 0, none⟩) 32 32), (11, .slice (some ⟨b11, 0, none⟩) 0 0), (12, .slice (some ⟨b3, 0, none⟩) 32 32)]) (hOf [(3, ⟨true, b3, 0, 23, (sum).map u8V, 0⟩), (4, ⟨true, b4, 0, 23, (List.replicate 32 0#8).map u8V, 0⟩), (5, ⟨true, b5, 0, 23, (labS t nmFin ([] : List (BitVec 8)) 32).map u8V, 0⟩), (11, ⟨true, b11, 0, 5, ([]).map u8V, 0⟩)]) := by
      refine hGo ?_
      refine At.bStep [0] (by kernel_rfl) (by simp) ?_
      refine At.bS false (by kernel_rfl) (S_buildSlice0 (some 8) 8 rfl Try.underlying22 sz5 (fun b8 => ?_))
      refine At.to [(4, ptr b4 0), (8, .slice (some ⟨b8, 0, none⟩) 0 0), (9, .slice (some ⟨b5, 0, none⟩) 32 32), (11, .slice (some ⟨b11, 0, none⟩) 0 0), (12, .slice (some ⟨b3, 0, none⟩) 32 32)] [(3, ⟨true, b3, 0, 23, (sum).map u8V, 0⟩), (4, ⟨true, b4, 0, 23, (List.replicate 32 0#8).map u8V, 0⟩), (5, ⟨true, b5, 0, 23, (labS t nmFin ([] : List (BitVec 8)) 32).map u8V, 0⟩), (8, ⟨true, b8, 0, 5, ([]).map u8V, 0⟩), (11, ⟨true, b11, 0, 5, ([]).map u8V, 0⟩)] (AllL.cons_ (rfl) (AllL.cons_ (rfl) (AllL.cons_ (rfl) (AllL.cons_ (rfl) (AllL.cons_ (rfl) trivial))))) (AllL.cons_ (rfl) (AllL.cons_ (rfl) (AllL.cons_ (rfl) (AllL.cons_ (rfl) (AllL.cons_ (rfl) trivial))))) ?_
      exact hGi (hG2_4 b8 b11)
    have hG2_7  : G 6 #[false, true, false, false, true, false, false, false] (frOf [(4, ptr b4 0), (9, .slice (some ⟨b5, 0, none⟩) 32 32), (12, .slice (some ⟨b3, 0, none⟩) 32 32)]) (hOf [(3, ⟨true, b3, 0, 23, (sum).map u8V, 0⟩), (4, ⟨true, b4, 0, 23, (List.replicate 32 0#8).map u8V, 0⟩), (5, ⟨true, b5, 0, 23, (labS t nmFin ([] : List (BitVec 8)) 32).map u8V, 0⟩)]) := by
      refine hGo ?_
      refine At.bStep [0, 3] (by kernel_rfl) (by simp) ?_
      refine ⟨?_, ?_⟩
      ·
        refine At.bS false (by kernel_rfl) (S_buildSlice0 (some 8) 8 rfl Try.underlying22 sz5 (fun b8 => ?_))
        refine At.to [(4, ptr b4 0), (8, .slice (some ⟨b8, 0, none⟩) 0 0), (9, .slice (some ⟨b5, 0, none⟩) 32 32), (12, .slice (some ⟨b3, 0, none⟩) 32 32)] [(3, ⟨true, b3, 0, 23, (sum).map u8V, 0⟩), (4, ⟨true, b4, 0, 23, (List.replicate 32 0#8).map u8V, 0⟩), (5, ⟨true, b5, 0, 23, (labS t nmFin ([] : List (BitVec 8)) 32).map u8V, 0⟩), (8, ⟨true, b8, 0, 5, ([]).map u8V, 0⟩)] (AllL.cons_ (rfl) (AllL.cons_ (rfl) (AllL.cons_ (rfl) (AllL.cons_ (rfl) trivial)))) (AllL.cons_ (rfl) (AllL.cons_ (rfl) (AllL.cons_ (rfl) (AllL.cons_ (rfl) trivial)))) ?_
        exact hGi (hG2_5 b8)
      ·
        refine At.bS false (by kernel_rfl) (S_buildSlice0 (some 11) 11 rfl Try.underlying22 sz5 (fun b11 => ?_))
        refine At.to [(4, ptr b4 0), (9, .slice (some ⟨b5, 0, none⟩) 32 32), (11, .slice (some ⟨b11, 0, none⟩) 0 0), (12, .slice (some ⟨b3, 0, none⟩) 32 32)] [(3, ⟨true, b3, 0, 23, (sum).map u8V, 0⟩), (4, ⟨true, b4, 0, 23, (List.replicate 32 0#8).map u8V, 0⟩), (5, ⟨true, b5, 0, 23, (labS t nmFin ([] : List (BitVec 8)) 32).map u8V, 0⟩), (11, ⟨true, b11, 0, 5, ([]).map u8V, 0⟩)] (AllL.cons_ (rfl) (AllL.cons_ (rfl) (AllL.cons_ (rfl) (AllL.cons_ (rfl) trivial)))) (AllL.cons_ (rfl) (AllL.cons_ (rfl) (AllL.cons_ (rfl) (AllL.cons_ (rfl) trivial)))) ?_
        exact hGi (hG2_6 b11)
    refine hGo ?_
    refine At.bP  1 (some 9) (P_slice_arr1 (l := 0) (h := 32) (m := 32) rfl Try.underlying23 sz5 rfl rfl rfl rfl DO DO DO DO) (by kernel_rfl) (by kernel_rfl) ?_
    refine At.bP  4 (some 12) (P_slice_arr1 (l := 0) (h := 32) (m := 32) rfl Try.underlying23 sz5 rfl rfl rfl rfl DO DO DO DO) (by kernel_rfl) (by kernel_rfl) ?_
    refine At.to [(4, ptr b4 0), (9, .slice (some ⟨b5, 0, none⟩) 32 32), (12, .slice (some ⟨b3, 0, none⟩) 32 32)] [(3, ⟨true, b3, 0, 23, (sum).map u8V, 0⟩), (4, ⟨true, b4, 0, 23, (List.replicate 32 0#8).map u8V, 0⟩), (5, ⟨true, b5, 0, 23, (labS t nmFin ([] : List (BitVec 8)) 32).map u8V, 0⟩)] (AllL.cons_ (rfl) (AllL.cons_ (rfl) (AllL.cons_ (rfl) trivial))) (AllL.cons_ (rfl) (AllL.cons_ (rfl) (AllL.cons_ (rfl) trivial))) ?_
    exact hGi (hG2_7 )
  · rintro fr H ⟨b8, A10, b10, c10, b11, A13, b13, c13, rfl, rfl, g10a, g10b, g13a, g13b, -⟩
    refine At.next ?_
    refine At.ret ?_
    refine At.giveV (.inl rfl) [] (rows' := []) (ResV.cellA (k := 4) rfl rfl Try.underlying23 rfl sz23 LN rfl) rfl (by simp) (by simp) ?_
    exact ⟨rfl, rfl⟩

set_option maxHeartbeats 2000000 in
theorem r_Bind {psk : List (BitVec 8)} {Apsk : Option Addr} {npsk cpsk bpsk qpsk : Nat} {sum : List (BitVec 8)} (hnpsk : psk.length = npsk) (hApsk : 0 < npsk → Apsk = some ⟨bpsk, qpsk, none⟩) (hsum : sum.length = 32) (hl : npsk ≤ 800000) :
    Con Try.prog 21 [.slice Apsk npsk cpsk, aggK sum] [pRow bpsk qpsk psk] (fun v rs => v = aggK (bindS psk sum) ∧ rs = []) := by
  refine Con.enter Try.func21 Try.ntmps21 (Nat.le_of_ble_eq_true rfl) rfl fun w => ?_
  refine At.seq ?_
  refine At.region ?_
  refine At.s (S_box (some 3) 3 (zs := (sum).map u8V) rfl rfl rfl (fun b3 => ?_))
  refine At.s (S_alloc (some 4) 4 (zs := (List.replicate 32 0#8).map u8V) rfl ze23 rfl (fun b4 => ?_))
  refine At.nil ?_
  refine At.next ?_
  refine At.seq ?_
  refine At.region ?_
  refine At.s (S_callV (some 6) [(98, _)] [] (vs := [_]) rfl en56 rfl (VE rfl rfl V0) (by simp) (r_SumN (l := ([] : List (BitVec 8))) (n := 0) (A := none) (bq := 0) (q := 0) LN (fun h => absurd h (Nat.lt_irrefl 0)) OG) (by rintro _ _ ⟨rfl, rfl⟩; rfl) ?_)
  rintro _ _ ⟨rfl, rfl⟩
  have := sumS_len ([] : List (BitVec 8))
  refine At.s (S_alloc (some 5) 5 (zs := (List.replicate 32 0#8).map u8V) rfl ze23 rfl (fun b5 => ?_))
  refine At.s (S_storeA none (k := 5) (vs := (sumS ([] : List (BitVec 8))).map u8V) rfl rfl rfl (by rw [sz23]; exact congrArg some LN) rfl (one_map (fun _ => rfl)) NG rfl LN ?_)
  refine At.nil ?_
  refine At.next ?_
  refine At.seq ?_
  have := earlyS_len psk
  have := labS_len (earlyS psk) nmBin (sumS ([] : List (BitVec 8))) 32
  have := verS_len (labS (earlyS psk) nmBin (sumS ([] : List (BitVec 8))) 32) sum
  refine At.bBruteG [4, 8] (fun fr H => ∃ (b9 : Nat) (A11 : Option Addr) (b11 c11 : Nat), fr = frOf [(4, ptr b4 0)] ∧ H = hOf [(4, ⟨true, b4, 0, 23, (verS (labS (earlyS psk) nmBin (sumS ([] : List (BitVec 8))) 32) sum).map u8V, 0⟩)] ∧ (0 < c11 → A11 = some ⟨b11, 0, none⟩) ∧ ((sumS ([] : List (BitVec 8))).length ≤ c11) ∧ True) (by kernel_rfl) ?_ ?_
  · intro Kb hKb G hGi hGo
    have hG2_0 (b9 : Nat) (A11 : Option Addr) (b11 c11 : Nat) (g11a : 0 < c11 → A11 = some ⟨b11, 0, none⟩) (g11b : (sumS ([] : List (BitVec 8))).length ≤ c11) : G 0 #[true, true, true, true, true, true, true, true, true] (frOf [(4, ptr b4 0)]) (hOf [(4, ⟨true, b4, 0, 23, (verS (labS (earlyS psk) nmBin (sumS ([] : List (BitVec 8))) 32) sum).map u8V, 0⟩)]) := by
      refine hGo ?_
      refine At.bEnd (by kernel_rfl) ?_
      refine At.next ?_
      exact hKb _ _ ⟨b9, A11, b11, c11, rfl, rfl, g11a, g11b, trivial⟩
    have hG2_1 (b9 : Nat) (A11 : Option Addr) (b11 c11 : Nat) (g11a : 0 < c11 → A11 = some ⟨b11, 0, none⟩) (g11b : (sumS ([] : List (BitVec 8))).length ≤ c11) : G 1 #[true, true, true, true, true, true, true, true, false] (frOf [(4, ptr b4 0), (14, aggK (verS (labS (earlyS psk) nmBin (sumS ([] : List (BitVec 8))) 32) sum))]) (hOf [(4, ⟨true, b4, 0, 23, (List.replicate 32 0#8).map u8V, 0⟩)]) := by
      refine hGo ?_
      refine At.bStep [8] (by kernel_rfl) (by simp) ?_
      refine At.bS true (by kernel_rfl) (S_storeA none (k := 4) (vs := (verS (labS (earlyS psk) nmBin (sumS ([] : List (BitVec 8))) 32) sum).map u8V) rfl rfl rfl (by rw [sz23]; exact congrArg some LN) rfl (one_map (fun _ => rfl)) NG rfl LN ?_)
      refine At.to [(4, ptr b4 0)] [(4, ⟨true, b4, 0, 23, (verS (labS (earlyS psk) nmBin (sumS ([] : List (BitVec 8))) 32) sum).map u8V, 0⟩)] (AllL.cons_ (rfl) trivial) (AllL.cons_ (rfl) trivial) ?_
      exact hGi (hG2_0 b9 A11 b11 c11 g11a g11b)
    have hG2_2 (b9 : Nat) : G 4 #[true, true, true, true, false, false, true, false, false] (frOf [(4, ptr b4 0), (8, aggK (earlyS psk)), (9, .slice (some ⟨b9, 0, none⟩) 0 0), (10, .slice (some ⟨b5, 0, none⟩) 32 32), (13, aggK sum)]) (hOf [(4, ⟨true, b4, 0, 23, (List.replicate 32 0#8).map u8V, 0⟩), (5, ⟨true, b5, 0, 23, (sumS ([] : List (BitVec 8))).map u8V, 0⟩), (9, ⟨true, b9, 0, 5, ([]).map u8V, 0⟩)]) := by
      refine hGo ?_
      refine At.bStep [4] (by kernel_rfl) (by simp) ?_
      refine At.bS true (by kernel_rfl) (S_appendM (some 11) 9 (sumS ([] : List (BitVec 8))) (f := u8V) (l := []) (L := (sumS ([] : List (BitVec 8)))) (m := 32) rfl Try.underlying22 Try.underlying22 (.inr ⟨_, rfl⟩) sz5 by5 ze5 rfl rfl (fun h => ⟨rfl, rfl⟩) LN OG (Src.all (k := 5) (l := (sumS ([] : List (BitVec 8)))) rfl (fun _ => rfl) (fun _ => ⟨rfl, rfl, rfl⟩) LN) (fun _ => rfl) OG OG rfl LN ?_)
      intro A11 b11 c11 g11a g11b
      refine At.bC  5 (some 12) [(9, _)] (vs := [_, _, _]) (by kernel_rfl) (by kernel_rfl) rfl en57 rfl (VN (by simp) rfl View.all V0) (r_lab (key := (earlyS psk)) (lb := nmBin) (cx := (sumS ([] : List (BitVec 8)))) (ncx := ((sumS ([] : List (BitVec 8))).length)) (Acx := A11) (ccx := c11) (bcx := b11) (qcx := 0) LN LN (fun h => g11a (by omega)) LN1 LN1 OG) ?_
      refine At.bC  7 (some 14) [] (vs := [_, _]) (by kernel_rfl) (by kernel_rfl) rfl en41 rfl V0 (r_Ver (t := (labS (earlyS psk) nmBin (sumS ([] : List (BitVec 8))) 32)) (sum := sum) LN LN) ?_
      refine At.to [(4, ptr b4 0), (14, aggK (verS (labS (earlyS psk) nmBin (sumS ([] : List (BitVec 8))) 32) sum))] [(4, ⟨true, b4, 0, 23, (List.replicate 32 0#8).map u8V, 0⟩)] (AllL.cons_ (rfl) (AllL.cons_ (rfl) trivial)) (AllL.cons_ (rfl) trivial) ?_
      exact hGi (hG2_1 b9 A11 b11 c11 g11a g11b)
    have hG2_3 (b9 : Nat) : G 5 #[true, true, true, true, false, false, false, false, false] (frOf [(3, ptr b3 0), (4, ptr b4 0), (8, aggK (earlyS psk)), (9, .slice (some ⟨b9, 0, none⟩) 0 0), (10, .slice (some ⟨b5, 0, none⟩) 32 32)]) (hOf [(3, ⟨true, b3, 0, 23, (sum).map u8V, 0⟩), (4, ⟨true, b4, 0, 23, (List.replicate 32 0#8).map u8V, 0⟩), (5, ⟨true, b5, 0, 23, (sumS ([] : List (BitVec 8))).map u8V, 0⟩), (9, ⟨true, b9, 0, 5, ([]).map u8V, 0⟩)]) := by
      refine hGo ?_
      refine At.bStep [4, 6] (by kernel_rfl) (by simp) ?_
      refine ⟨?_, ?_⟩
      ·
        refine At.bS true (by kernel_rfl) (S_appendM (some 11) 9 (sumS ([] : List (BitVec 8))) (f := u8V) (l := []) (L := (sumS ([] : List (BitVec 8)))) (m := 32) rfl Try.underlying22 Try.underlying22 (.inr ⟨_, rfl⟩) sz5 by5 ze5 rfl rfl (fun h => ⟨rfl, rfl⟩) LN OG (Src.all (k := 5) (l := (sumS ([] : List (BitVec 8)))) rfl (fun _ => rfl) (fun _ => ⟨rfl, rfl, rfl⟩) LN) (fun _ => rfl) OG OG rfl LN ?_)
        intro A11 b11 c11 g11a g11b
        refine At.bC  5 (some 12) [(9, _)] (vs := [_, _, _]) (by kernel_rfl) (by kernel_rfl) rfl en57 rfl (VN (by simp) rfl View.all V0) (r_lab (key := (earlyS psk)) (lb := nmBin) (cx := (sumS ([] : List (BitVec 8)))) (ncx := ((sumS ([] : List (BitVec 8))).length)) (Acx := A11) (ccx := c11) (bcx := b11) (qcx := 0) LN LN (fun h => g11a (by omega)) LN1 LN1 OG) ?_
        refine At.bQ  6 (some 13) (Q_loadA (k := 3) rfl rfl Try.underlying23 rfl sz23 LN rfl) (by kernel_rfl) (by kernel_rfl) ?_
        refine At.bC  7 (some 14) [] (vs := [_, _]) (by kernel_rfl) (by kernel_rfl) rfl en41 rfl V0 (r_Ver (t := (labS (earlyS psk) nmBin (sumS ([] : List (BitVec 8))) 32)) (sum := sum) LN LN) ?_
        refine At.to [(4, ptr b4 0), (14, aggK (verS (labS (earlyS psk) nmBin (sumS ([] : List (BitVec 8))) 32) sum))] [(4, ⟨true, b4, 0, 23, (List.replicate 32 0#8).map u8V, 0⟩)] (AllL.cons_ (rfl) (AllL.cons_ (rfl) trivial)) (AllL.cons_ (rfl) trivial) ?_
        exact hGi (hG2_1 b9 A11 b11 c11 g11a g11b)
      ·
        refine At.bSQ (some 13) (Q_loadA (k := 3) rfl rfl Try.underlying23 rfl sz23 LN rfl) ?_
        refine At.to [(4, ptr b4 0), (8, aggK (earlyS psk)), (9, .slice (some ⟨b9, 0, none⟩) 0 0), (10, .slice (some ⟨b5, 0, none⟩) 32 32), (13, aggK sum)] [(4, ⟨true, b4, 0, 23, (List.replicate 32 0#8).map u8V, 0⟩), (5, ⟨true, b5, 0, 23, (sumS ([] : List (BitVec 8))).map u8V, 0⟩), (9, ⟨true, b9, 0, 5, ([]).map u8V, 0⟩)] (AllL.cons_ (rfl) (AllL.cons_ (rfl) (AllL.cons_ (rfl) (AllL.cons_ (rfl) (AllL.cons_ (rfl) trivial))))) (AllL.cons_ (rfl) (AllL.cons_ (rfl) (AllL.cons_ (rfl) trivial))) ?_
        exact hGi (hG2_2 b9)
    have hG2_4  : G 5 #[true, true, false, true, false, false, true, false, false] (frOf [(4, ptr b4 0), (8, aggK (earlyS psk)), (10, .slice (some ⟨b5, 0, none⟩) 32 32), (13, aggK sum)]) (hOf [(4, ⟨true, b4, 0, 23, (List.replicate 32 0#8).map u8V, 0⟩), (5, ⟨true, b5, 0, 23, (sumS ([] : List (BitVec 8))).map u8V, 0⟩)]) := by
      refine hGo ?_
      refine At.bStep [2] (by kernel_rfl) (by simp) ?_
      refine At.bS false (by kernel_rfl) (S_buildSlice0 (some 9) 9 rfl Try.underlying22 sz5 (fun b9 => ?_))
      refine At.to [(4, ptr b4 0), (8, aggK (earlyS psk)), (9, .slice (some ⟨b9, 0, none⟩) 0 0), (10, .slice (some ⟨b5, 0, none⟩) 32 32), (13, aggK sum)] [(4, ⟨true, b4, 0, 23, (List.replicate 32 0#8).map u8V, 0⟩), (5, ⟨true, b5, 0, 23, (sumS ([] : List (BitVec 8))).map u8V, 0⟩), (9, ⟨true, b9, 0, 5, ([]).map u8V, 0⟩)] (AllL.cons_ (rfl) (AllL.cons_ (rfl) (AllL.cons_ (rfl) (AllL.cons_ (rfl) (AllL.cons_ (rfl) trivial))))) (AllL.cons_ (rfl) (AllL.cons_ (rfl) (AllL.cons_ (rfl) trivial))) ?_
      exact hGi (hG2_2 b9)
    have hG2_5  : G 6 #[true, true, false, true, false, false, false, false, false] (frOf [(3, ptr b3 0), (4, ptr b4 0), (8, aggK (earlyS psk)), (10, .slice (some ⟨b5, 0, none⟩) 32 32)]) (hOf [(3, ⟨true, b3, 0, 23, (sum).map u8V, 0⟩), (4, ⟨true, b4, 0, 23, (List.replicate 32 0#8).map u8V, 0⟩), (5, ⟨true, b5, 0, 23, (sumS ([] : List (BitVec 8))).map u8V, 0⟩)]) := by
      refine hGo ?_
      refine At.bStep [2, 6] (by kernel_rfl) (by simp) ?_
      refine ⟨?_, ?_⟩
      ·
        refine At.bS false (by kernel_rfl) (S_buildSlice0 (some 9) 9 rfl Try.underlying22 sz5 (fun b9 => ?_))
        refine At.to [(3, ptr b3 0), (4, ptr b4 0), (8, aggK (earlyS psk)), (9, .slice (some ⟨b9, 0, none⟩) 0 0), (10, .slice (some ⟨b5, 0, none⟩) 32 32)] [(3, ⟨true, b3, 0, 23, (sum).map u8V, 0⟩), (4, ⟨true, b4, 0, 23, (List.replicate 32 0#8).map u8V, 0⟩), (5, ⟨true, b5, 0, 23, (sumS ([] : List (BitVec 8))).map u8V, 0⟩), (9, ⟨true, b9, 0, 5, ([]).map u8V, 0⟩)] (AllL.cons_ (rfl) (AllL.cons_ (rfl) (AllL.cons_ (rfl) (AllL.cons_ (rfl) (AllL.cons_ (rfl) trivial))))) (AllL.cons_ (rfl) (AllL.cons_ (rfl) (AllL.cons_ (rfl) (AllL.cons_ (rfl) trivial)))) ?_
        exact hGi (hG2_3 b9)
      ·
        refine At.bSQ (some 13) (Q_loadA (k := 3) rfl rfl Try.underlying23 rfl sz23 LN rfl) ?_
        refine At.to [(4, ptr b4 0), (8, aggK (earlyS psk)), (10, .slice (some ⟨b5, 0, none⟩) 32 32), (13, aggK sum)] [(4, ⟨true, b4, 0, 23, (List.replicate 32 0#8).map u8V, 0⟩), (5, ⟨true, b5, 0, 23, (sumS ([] : List (BitVec 8))).map u8V, 0⟩)] (AllL.cons_ (rfl) (AllL.cons_ (rfl) (AllL.cons_ (rfl) (AllL.cons_ (rfl) trivial)))) (AllL.cons_ (rfl) (AllL.cons_ (rfl) trivial)) ?_
        exact hGi (hG2_4 )
    refine hGo ?_
    refine At.bP  0 (some 7) (P_move rfl rfl) (by kernel_rfl) (by kernel_rfl) ?_
    refine At.bC  1 (some 8) [(0, _)] (vs := [_]) (by kernel_rfl) (by kernel_rfl) rfl en16 rfl (VN (by simp) rfl View.all V0) (r_Early (psk := psk) (npsk := npsk) (Apsk := Apsk) (cpsk := cpsk) (bpsk := bpsk) (qpsk := qpsk) LN hApsk OG) ?_
    refine At.bP  3 (some 10) (P_slice_arr1 (l := 0) (h := 32) (m := 32) rfl Try.underlying23 sz5 rfl rfl rfl rfl DO DO DO DO) (by kernel_rfl) (by kernel_rfl) ?_
    refine At.to [(3, ptr b3 0), (4, ptr b4 0), (8, aggK (earlyS psk)), (10, .slice (some ⟨b5, 0, none⟩) 32 32)] [(3, ⟨true, b3, 0, 23, (sum).map u8V, 0⟩), (4, ⟨true, b4, 0, 23, (List.replicate 32 0#8).map u8V, 0⟩), (5, ⟨true, b5, 0, 23, (sumS ([] : List (BitVec 8))).map u8V, 0⟩)] (AllL.cons_ (rfl) (AllL.cons_ (rfl) (AllL.cons_ (rfl) (AllL.cons_ (rfl) trivial)))) (AllL.cons_ (rfl) (AllL.cons_ (rfl) (AllL.cons_ (rfl) trivial))) ?_
    exact hGi (hG2_5 )
  · rintro fr H ⟨b9, A11, b11, c11, rfl, rfl, g11a, g11b, -⟩
    refine At.next ?_
    refine At.ret ?_
    refine At.giveV (.inl rfl) [] (rows' := []) (ResV.cellA (k := 4) rfl rfl Try.underlying23 rfl sz23 LN rfl) rfl (by simp) (by simp) ?_
    exact ⟨rfl, rfl⟩

set_option maxHeartbeats 2000000 in
theorem r_Res {ms : List (BitVec 8)} {sum : List (BitVec 8)} {no : List (BitVec 8)} {Ano : Option Addr} {nno cno bno qno : Nat} (hms : ms.length = 32) (hsum : sum.length = 32) (hnno : no.length = nno) (hAno : 0 < nno → Ano = some ⟨bno, qno, none⟩) (hcno : nno ≤ cno) :
    Con Try.prog 23 [aggK ms, aggK sum, .slice Ano nno cno] [pRow bno qno no] (fun v rs => v = aggK (resS ms sum no) ∧ rs = []) := by
  refine Con.enter Try.func23 Try.ntmps23 (Nat.le_of_ble_eq_true rfl) rfl fun w => ?_
  refine At.seq ?_
  refine At.region ?_
  refine At.s (S_box (some 3) 3 (zs := (ms).map u8V) rfl rfl rfl (fun b3 => ?_))
  refine At.s (S_box (some 4) 4 (zs := (sum).map u8V) rfl rfl rfl (fun b4 => ?_))
  refine At.s (S_alloc (some 6) 6 (zs := (List.replicate 32 0#8).map u8V) rfl ze23 rfl (fun b6 => ?_))
  refine At.nil ?_
  refine At.next ?_
  refine At.seq ?_
  refine At.draws 8 [] [.q false [0, 1, 2, 3, 4, 5, 6, 7]] (by kernel_rfl) (by kernel_rfl) ?_
  refine At.wq (some 7) (Q_loadA (k := 3) rfl rfl Try.underlying23 rfl sz23 LN rfl) ?_
  refine At.wq (some 8) (Q_loadA (k := 4) rfl rfl Try.underlying23 rfl sz23 LN rfl) ?_
  refine At.wcV (some 9) [] (vs := [_, _, _]) rfl en39 rfl V0 (r_Traf (s := ms) (nm := nmRsM) (sum := sum) LN LN LN1 LN1) ?_
  have := labS_len ms nmRsM sum 32
  refine At.wp (some 10) (P_move rfl rfl) ?_
  refine At.wp (some 11) (P_move rfl rfl) ?_
  refine At.wp (some 12) (P_len_sl rfl rfl ⟨_, Try.underlying22⟩ rfl) ?_
  refine At.wp (some 13) (P_min2 rfl rfl rfl rfl) ?_
  refine At.wp (some 14) (P_slice_sl (l := 0) (h := (min nno 255)) (m := cno) rfl Try.underlying22 sz5 rfl rfl ⟨_, _, rfl, by omega⟩ rfl DO DO DO) ?_
  refine At.wqn ?_
  refine At.wt rfl ?_
  refine At.s (S_callV (some 15) [(0, _)] [] (vs := [_, _, _]) rfl en57 rfl (VN (by simp) rfl (View.sub (j := 0) (m := ((min nno 255) - 0)) RO rfl) V0) (by simp) (r_lab (key := (labS ms nmRsM sum 32)) (lb := nmRes) (cx := (no.take ((min nno 255) - 0))) (ncx := ((min nno 255) - 0)) (Acx := (cut Ano 0 cno 1)) (ccx := (cno - 0)) (bcx := bno) (qcx := qno) LN LN (fun h => cut_zero (hAno (by omega))) LN1 LN1 OG) (by rintro _ _ ⟨rfl, rfl⟩; rfl) ?_)
  rintro _ _ ⟨rfl, rfl⟩
  have := labS_len (labS ms nmRsM sum 32) nmRes (no.take ((min nno 255) - 0)) 32
  refine At.s (S_storeA none (k := 6) (vs := (labS (labS ms nmRsM sum 32) nmRes (no.take ((min nno 255) - 0)) 32).map u8V) rfl rfl rfl (by rw [sz23]; exact congrArg some LN) rfl (one_map (fun _ => rfl)) NG rfl LN ?_)
  refine At.nil ?_
  refine At.next ?_
  refine At.ret ?_
  have hq0 : (labS (labS ms nmRsM sum 32) nmRes (no.take ((min nno 255) - 0)) 32).map u8V = (resS ms sum no).map u8V := by rw [resS, show no.take 255 = no.take (min nno 255 - 0) from by rw [Nat.sub_zero, ← hnno, Nat.min_comm, ← List.take_eq_take_min]]
  refine At.giveV (.inl rfl) [] (rows' := []) (ResV.cellA (k := 6) rfl rfl Try.underlying23 rfl sz23 LN rfl) rfl (by simp) (by simp) ?_
  exact ⟨congrArg (fun z => Value.agg (List.toArray z)) hq0, rfl⟩

set_option maxHeartbeats 2000000 in
theorem c_bMul {a : BitVec 64} {b : BitVec 64}  :
    Con Try.prog 85 [u64V a, u64V b] [] (fun v rs => v = .tuple #[u64V (mulH a b), u64V (a * b)] ∧ rs = []) := by
  refine Con.enter Try.func85 Try.ntmps85 (Nat.le_of_ble_eq_true rfl) rfl fun w => ?_
  refine At.seq ?_
  refine At.region ?_
  refine At.p (some 4) (P_assign rfl rfl) ?_
  refine At.p (some 5) (P_assign rfl rfl) ?_
  refine At.nil ?_
  refine At.next ?_
  refine At.seq ?_
  refine At.cond rfl (fun h => absurd (h.symm.trans rfl) (by decide)) (fun _ => ?_)
  refine At.skip ?_
  refine At.next ?_
  refine At.seq ?_
  refine At.region ?_
  refine At.p (some 23) (P_move rfl rfl) ?_
  refine At.p (some 24) (P_move rfl rfl) ?_
  refine At.s (S_callV (some 25) [] [] (vs := [_, _]) rfl en108 rfl V0 (by simp) (c_mul a b) (by rintro _ _ ⟨rfl, rfl⟩; rfl) ?_)
  rintro _ _ ⟨rfl, rfl⟩
  refine At.p (some 22) (P_move rfl rfl) ?_
  refine At.p (some 26) (P_extract rfl rfl rfl) ?_
  refine At.p (some 27) (P_extract rfl rfl rfl) ?_
  refine At.p (some 8) (P_assign rfl rfl) ?_
  refine At.p (some 9) (P_assign rfl rfl) ?_
  refine At.nil ?_
  refine At.next ?_
  refine At.seq ?_
  refine At.region ?_
  refine At.p (some 28) (P_move rfl rfl) ?_
  refine At.p (some 29) (P_move rfl rfl) ?_
  refine At.p (some 4) (P_assign rfl rfl) ?_
  refine At.p (some 5) (P_assign rfl rfl) ?_
  refine At.nil ?_
  refine At.next ?_
  refine At.ret ?_
  refine At.give (.inl rfl) [] (rows' := []) (vs := [_, _]) rfl ⟨rfl, rfl, trivial⟩ rfl (by simp) (by simp) ⟨rfl, rfl⟩

set_option maxHeartbeats 2000000 in
theorem c_sHP   :
    Con Try.prog 109 [strV (List.replicate 128 32#8), strV [32#8]] [] (fun v rs => v = .bool true ∧ rs = []) := by
  refine Con.enter Try.func109 Try.ntmps109 (Nat.le_of_ble_eq_true rfl) rfl fun w => ?_
  refine At.seq ?_
  refine At.region ?_
  refine At.p (some 4) (P_assign rfl rfl) ?_
  refine At.nil ?_
  refine At.next ?_
  refine At.seq ?_
  refine At.region ?_
  refine At.p (some 5) (P_move rfl rfl) ?_
  refine At.p (some 6) (P_len_strV rfl rfl Try.underlying9 rfl) ?_
  refine At.p (some 7) (P_move rfl rfl) ?_
  refine At.p (some 8) (P_len_strV rfl rfl Try.underlying9 rfl) ?_
  refine At.p (some 9) (P_cmp rfl rfl rfl rfl rfl rfl) ?_
  refine At.p (some 10) (P_move rfl rfl) ?_
  refine At.gy (t := 10) rfl (by decide) rfl rfl ?_
  refine At.p (some 11) (P_move rfl rfl) ?_
  refine At.gy (t := 10) rfl (by decide) rfl rfl ?_
  refine At.p (some 12) (P_move rfl rfl) ?_
  refine At.gy (t := 10) rfl (by decide) rfl rfl ?_
  refine At.p (some 13) (P_len_strV rfl rfl Try.underlying9 rfl) ?_
  refine At.gy (t := 10) rfl (by decide) rfl rfl ?_
  refine At.p (some 14) (P_slice_strV (a := (List.replicate 128 32#8)) (h := [32#8].length) rfl Try.underlying9 rfl ⟨_, _, rfl, by omega⟩ LN) ?_
  refine At.gy (t := 10) rfl (by decide) rfl rfl ?_
  refine At.p (some 15) (P_move rfl rfl) ?_
  refine At.gy (t := 10) rfl (by decide) rfl rfl ?_
  refine At.p (some 16) (P_eql_str (a := ((List.replicate 128 32#8).take ([32#8].length))) (b := [32#8]) rfl rfl rfl) ?_
  refine At.p (some 17) (P_pick_t rfl rfl (by decide) rfl) ?_
  refine At.p (some 4) (P_assign rfl rfl) ?_
  refine At.nil ?_
  refine At.next ?_
  refine At.ret ?_
  have hq0 : (decide (((List.replicate 128 32#8).take ([32#8].length)) = [32#8])) = true := by decide
  refine At.give (.inl rfl) [] (rows' := []) (vs := [_]) rfl ⟨rfl, trivial⟩ rfl (by simp) (by simp) ⟨(by first | (rw [hq0]; try rfl; done) | (rw [← hq0]; try rfl; done) | (simp only [hq0]; try rfl; done)), (by first | (rw [hq0]; try rfl; done) | (rw [← hq0]; try rfl; done) | (simp only [hq0]; try rfl; done))⟩

set_option maxHeartbeats 2000000 in
theorem c_HP   :
    Con Try.prog 86 [strV (List.replicate 128 32#8), strV [32#8]] [] (fun v rs => v = .bool true ∧ rs = []) := by
  refine Con.enter Try.func86 Try.ntmps86 (Nat.le_of_ble_eq_true rfl) rfl fun w => ?_
  refine At.seq ?_
  refine At.region ?_
  refine At.p (some 4) (P_assign rfl rfl) ?_
  refine At.nil ?_
  refine At.next ?_
  refine At.seq ?_
  refine At.region ?_
  refine At.p (some 5) (P_move rfl rfl) ?_
  refine At.p (some 6) (P_move rfl rfl) ?_
  refine At.s (S_callV (some 7) [] [] (vs := [_, _]) rfl en109 rfl V0 (by simp) (c_sHP  ) (by rintro _ _ ⟨rfl, rfl⟩; rfl) ?_)
  rintro _ _ ⟨rfl, rfl⟩
  refine At.p (some 4) (P_assign rfl rfl) ?_
  refine At.nil ?_
  refine At.next ?_
  refine At.ret ?_
  refine At.give (.inl rfl) [] (rows' := []) (vs := [_]) rfl ⟨rfl, trivial⟩ rfl (by simp) (by simp) ⟨rfl, rfl⟩

set_option maxHeartbeats 2000000 in
theorem c_rep   :
    Con Try.prog 65 [strV [32#8], iV 64] [] (fun v rs => v = strV (List.replicate 64 32#8) ∧ rs = []) := by
  refine Con.enter Try.func65 Try.ntmps65 (Nat.le_of_ble_eq_true rfl) rfl fun w => ?_
  refine At.seq ?_
  refine At.region ?_
  refine At.p (some 4) (P_assign rfl rfl) ?_
  refine At.nil ?_
  refine At.next ?_
  refine At.seq ?_
  refine At.seq ?_
  refine At.region ?_
  refine At.p (some 11) (P_move rfl rfl) ?_
  refine At.nil ?_
  refine At.next ?_
  refine At.block ?_
  refine At.seq ?_
  refine At.region ?_
  refine At.p (some 13) (P_cmp rfl rfl rfl rfl rfl rfl) ?_
  refine At.p (some 12) (P_assign rfl rfl) ?_
  refine At.nil ?_
  refine At.next ?_
  refine At.cond rfl (fun h12 => by simp at h12) (fun h12 => ?_)
  have e12 : 64 ≠ 0 := beq_eq_false_iff_ne.1 h12
  refine At.seq ?_
  refine At.region ?_
  refine At.p (some 15) (P_cmp rfl rfl rfl rfl rfl rfl) ?_
  refine At.p (some 14) (P_assign rfl rfl) ?_
  refine At.nil ?_
  refine At.next ?_
  refine At.cond rfl (fun h14 => by simp at h14) (fun h14 => ?_)
  have e14 : 64 ≠ 1 := beq_eq_false_iff_ne.1 h14
  refine At.skip ?_
  refine At.inb_n ?_
  refine At.next ?_
  refine At.seq ?_
  refine At.seq ?_
  refine At.region ?_
  refine At.p (some 17) (P_move rfl rfl) ?_
  refine At.p (some 18) (P_cmp rfl rfl rfl rfl rfl rfl) ?_
  refine At.nil ?_
  refine At.next ?_
  refine At.cond rfl (fun h18 => by simp at h18) (fun h18 => ?_)
  have e18 : ¬ 64 < 0 := of_decide_eq_false h18
  refine At.skip ?_
  refine At.next ?_
  refine At.seq ?_
  refine At.region ?_
  refine At.p (some 21) (P_move rfl rfl) ?_
  refine At.p (some 22) (P_len_strV rfl rfl Try.underlying9 rfl) ?_
  refine At.p (some 23) (P_conv_iw UK.u64 rfl Try.underlying3 Try.underlying99 rfl) ?_
  refine At.p (some 24) (P_move rfl rfl) ?_
  refine At.p (some 25) (P_conv_iw UK.u64 rfl Try.underlying3 Try.underlying99 rfl) ?_
  refine At.s (S_callV (some 26) [] [] (vs := [_, _]) rfl en85 rfl V0 (by simp) (c_bMul (a := (BitVec.ofInt 64 ([32#8].length : Int))) (b := (BitVec.ofInt 64 64)) ) (by rintro _ _ ⟨rfl, rfl⟩; rfl) ?_)
  rintro _ _ ⟨rfl, rfl⟩
  refine At.p (some 20) (P_move rfl rfl) ?_
  refine At.p (some 27) (P_extract rfl rfl rfl) ?_
  refine At.p (some 28) (P_extract rfl rfl rfl) ?_
  refine At.p (some 5) (P_assign rfl rfl) ?_
  refine At.p (some 6) (P_assign rfl rfl) ?_
  refine At.nil ?_
  refine At.next ?_
  refine At.seq ?_
  refine At.seq ?_
  refine At.region ?_
  refine At.p (some 29) (P_move rfl rfl) ?_
  refine At.p (some 30) (P_gtr_w (n := 64) (b := 0#64) rfl rfl rfl) ?_
  refine At.p (some 31) (P_move rfl rfl) ?_
  refine At.gy (t := 31) rfl (by decide) rfl rfl ?_
  refine At.p (some 32) (P_move rfl rfl) ?_
  refine At.gy (t := 31) rfl (by decide) rfl rfl ?_
  refine At.p (some 33) (P_gtr_w (n := 64) (b := 9223372036854775807#64) rfl rfl rfl) ?_
  refine At.p (some 34) (P_pick_f rfl rfl (by decide) rfl) ?_
  refine At.nil ?_
  refine At.next ?_
  refine At.cond rfl (fun h34 => absurd h34 (by decide)) (fun h34 => ?_)
  have e34 : ¬ (9223372036854775807#64).toNat < ((BitVec.ofInt 64 ([32#8].length : Int)) * (BitVec.ofInt 64 64)).toNat := of_decide_eq_false h34
  refine At.skip ?_
  refine At.next ?_
  refine At.seq ?_
  refine At.region ?_
  refine At.p (some 36) (P_move rfl rfl) ?_
  refine At.p (some 37) (P_conv_WiE (z := 64) (by decide) rfl Try.underlying99 Try.underlying3 rfl) ?_
  refine At.p (some 7) (P_assign rfl rfl) ?_
  refine At.nil ?_
  refine At.next ?_
  refine At.seq ?_
  refine At.seq ?_
  refine At.region ?_
  refine At.p (some 38) (P_move rfl rfl) ?_
  refine At.p (some 39) (P_len_strV rfl rfl Try.underlying9 rfl) ?_
  refine At.p (some 40) (P_cmp rfl rfl rfl rfl rfl rfl) ?_
  refine At.nil ?_
  refine At.next ?_
  refine At.cond rfl (fun h40 => by simp at h40) (fun h40 => ?_)
  have e40 : ([32#8].length : Int) ≠ 0 := beq_eq_false_iff_ne.1 h40
  refine At.skip ?_
  refine At.next ?_
  refine At.seq ?_
  refine At.seq ?_
  refine At.region ?_
  refine At.p (some 41) (P_move rfl rfl) ?_
  refine At.p (some 42) (P_index_str (l := [32#8]) (j := 0) rfl Try.underlying9 rfl rfl rfl LN) ?_
  refine At.nil ?_
  refine At.next ?_
  refine At.block ?_
  refine At.seq ?_
  refine At.seq ?_
  refine At.region ?_
  refine At.p (some 44) (P_eql_w (n := 8) (b := 32#8) rfl rfl rfl) ?_
  refine At.p (some 43) (P_assign rfl rfl) ?_
  refine At.nil ?_
  refine At.next ?_
  refine At.cond rfl (fun h43 => ?_) (fun h43 => by exfalso; have e9 : ([32#8].getD 0 0#8) ≠ (32#8) := beq_eq_false_iff_ne.1 h43; first | omega | (simp at e9; done) | (simp at e9; omega))
  have e43 : ([32#8].getD 0 0#8) = (32#8) := eq_of_beq h43
  refine At.skip ?_
  refine At.next ?_
  refine At.cond rfl (fun h43 => ?_) (fun h43 => by exfalso; have e9 : ([32#8].getD 0 0#8) ≠ (32#8) := beq_eq_false_iff_ne.1 h43; first | omega | (simp at e9; done) | (simp at e9; omega))
  have e43 : ([32#8].getD 0 0#8) = (32#8) := eq_of_beq h43
  refine At.block ?_
  refine At.seq ?_
  refine At.region ?_
  refine At.p (some 50) (P_move rfl rfl) ?_
  refine At.p (some 51) (P_cmp rfl rfl rfl rfl rfl rfl) ?_
  refine At.p (some 52) (P_move rfl rfl) ?_
  refine At.gy (t := 52) rfl (by decide) rfl rfl ?_
  refine At.p (some 53) (P_move rfl rfl) ?_
  refine At.gy (t := 52) rfl (by decide) rfl rfl ?_
  refine At.s (S_callV (some 54) [] [] (vs := [_, _]) rfl en86 rfl V0 (by simp) (c_HP  ) (by rintro _ _ ⟨rfl, rfl⟩; rfl) ?_)
  rintro _ _ ⟨rfl, rfl⟩
  refine At.p (some 55) (P_pick_t rfl rfl (by decide) rfl) ?_
  refine At.p (some 49) (P_assign rfl rfl) ?_
  refine At.nil ?_
  refine At.next ?_
  refine At.cond rfl (fun h49 => ?_) (fun h49 => by exfalso; first | (simp at h49; done) | (simp at h49; omega))
  refine At.seq ?_
  refine At.region ?_
  refine At.p (some 56) (P_move rfl rfl) ?_
  refine At.p (some 57) (P_slice_strV (a := (List.replicate 128 32#8)) (h := 64) rfl Try.underlying9 rfl ⟨_, _, rfl, by omega⟩ LN) ?_
  refine At.p (some 4) (P_assign rfl rfl) ?_
  refine At.nil ?_
  refine At.next ?_
  refine At.ret ?_
  refine At.inb_r ?_
  refine At.inb_r ?_
  refine At.thn_r ?_
  have hq0 : ((List.replicate 128 32#8).take 64) = List.replicate 64 32#8 := by decide
  refine At.give (.inl rfl) [] (rows' := []) (vs := [_]) rfl ⟨rfl, trivial⟩ rfl (by simp) (by simp) ⟨(by first | (rw [hq0]; try rfl; done) | (rw [← hq0]; try rfl; done) | (simp only [hq0]; try rfl; done)), (by first | (rw [hq0]; try rfl; done) | (rw [← hq0]; try rfl; done) | (simp only [hq0]; try rfl; done))⟩

set_option maxHeartbeats 2000000 in
theorem c_Sign {h : List (BitVec 8)} {sum : List (BitVec 8)} (hh : h.length = 32) (hsum : sum.length = 32) :
    Con Try.prog 42 [aggK h, aggK sum] [] (fun v rs => ∃ (b' : Nat), v = .slice (some ⟨b', 0, none⟩) 32 32 ∧ rs = [⟨true, b', 0, 23, (signS h sum).map u8V, 0⟩]) := by
  refine Con.enter Try.func42 Try.ntmps42 (Nat.le_of_ble_eq_true rfl) rfl fun w => ?_
  refine At.seq ?_
  have hsg : sgnN.length = 33 := rfl
  have hsm := signM_len sum
  refine At.region ?_
  refine At.s (S_box (some 2) 2 (zs := (h).map u8V) rfl rfl rfl (fun b2 => ?_))
  refine At.s (S_box (some 3) 3 (zs := (sum).map u8V) rfl rfl rfl (fun b3 => ?_))
  refine At.p (some 4) (P_assign rfl rfl) ?_
  refine At.nil ?_
  refine At.next ?_
  refine At.seq ?_
  refine At.draws 4 [] [.q false [0, 1, 3], .e false 2] (by kernel_rfl) (by kernel_rfl) ?_
  refine At.wcV (some 7) [] (vs := [_, _]) rfl en65 rfl V0 (c_rep  ) ?_
  refine At.wp (some 8) (P_add_str (a := (List.replicate 64 32#8)) (b := (sgnN ++ [0#8])) rfl rfl rfl OG) ?_
  refine At.wp (some 10) (P_slice_arr1 (l := 0) (h := 32) (m := 32) rfl Try.underlying23 sz5 rfl rfl rfl rfl DO DO DO DO) ?_
  refine At.wqn ?_
  refine At.we ?_
  refine S_convSB (some 9) 9 (l := (List.replicate 64 32#8 ++ (sgnN ++ [0#8]))) rfl Try.underlying9 Try.underlying22 Try.underlying5 rfl (fun A9 b9 c9 g9a g9b => ?_)
  refine At.wt rfl ?_
  refine At.s (S_appendM (some 11) 9 (signM sum) (f := u8V) (l := (List.replicate 64 32#8 ++ (sgnN ++ [0#8]))) (L := sum) (m := 32) rfl Try.underlying22 Try.underlying22 (.inr ⟨_, rfl⟩) sz5 by5 ze5 rfl rfl (fun h => ⟨g9a h, rfl⟩) LN OG (Src.all (k := 3) (l := sum) rfl (fun _ => rfl) (fun _ => ⟨rfl, rfl, rfl⟩) LN) (fun _ => rfl) OG OG (by rw [signM, List.append_assoc (List.replicate 64 32#8) sgnN]) LN ?_)
  intro A11 b11 c11 g11a g11b
  refine At.p (some 5) (P_assign rfl rfl) ?_
  refine At.nil ?_
  refine At.next ?_
  refine At.seq ?_
  refine At.region ?_
  refine At.p (some 12) (P_slice_arr1 (l := 0) (h := 32) (m := 32) rfl Try.underlying23 sz5 rfl rfl rfl rfl DO DO DO DO) ?_
  refine At.p (some 13) (P_move rfl rfl) ?_
  refine At.s (S_callV (some 14) [(2, _), (9, _)] [] (vs := [_, _]) rfl en64 rfl (VN (by simp) rfl View.all (VN (by simp) rfl View.all V0)) (by simp) (c_MacN (key := h) (n := 32) (A := (some ⟨b2, 0, none⟩)) (bq := b2) (q := 0) (b := (signM sum)) (nb := ((signM sum).length)) (A2 := A11) (br := b11) (r := 0) LN LN (fun _ => rfl) (fun h => g11a (by omega)) OG OG) (by rintro _ _ ⟨rfl, rfl⟩; rfl) ?_)
  rintro _ _ ⟨rfl, rfl⟩
  have := macS_len h (signM sum)
  refine At.s (S_alloc (some 6) 6 (zs := (List.replicate 32 0#8).map u8V) rfl ze23 rfl (fun b6 => ?_))
  refine At.s (S_storeA none (k := 6) (vs := (macS h (signM sum)).map u8V) rfl rfl rfl (by rw [sz23]; exact congrArg some LN) rfl (one_map (fun _ => rfl)) NG rfl LN ?_)
  refine At.nil ?_
  refine At.next ?_
  refine At.seq ?_
  refine At.region ?_
  refine At.p (some 15) (P_slice_arr1 (l := 0) (h := 32) (m := 32) rfl Try.underlying23 sz5 rfl rfl rfl rfl DO DO DO DO) ?_
  refine At.p (some 4) (P_assign rfl rfl) ?_
  refine At.nil ?_
  refine At.next ?_
  refine At.ret ?_
  refine At.give (.inl rfl) [6] (rows' := [_]) (vs := [_]) rfl ⟨rfl, trivial⟩ rfl (by simp) (by simp) ⟨b6, rfl, rfl⟩

set_option maxHeartbeats 2000000 in
theorem r_Sign {h : List (BitVec 8)} {sum : List (BitVec 8)} (hh : h.length = 32) (hsum : sum.length = 32) :
    Con Try.prog 37 [aggK h, aggK sum] [] (fun v rs => v = aggK (signS h sum) ∧ rs = []) := by
  refine Con.enter Try.func37 Try.ntmps37 (Nat.le_of_ble_eq_true rfl) rfl fun w => ?_
  refine At.seq ?_
  have hsg : sgnN.length = 33 := rfl
  refine At.region ?_
  refine At.s (S_box (some 2) 2 (zs := (h).map u8V) rfl rfl rfl (fun b2 => ?_))
  refine At.s (S_box (some 3) 3 (zs := (sum).map u8V) rfl rfl rfl (fun b3 => ?_))
  refine At.s (S_alloc (some 4) 4 (zs := (List.replicate 32 0#8).map u8V) rfl ze23 rfl (fun b4 => ?_))
  refine At.nil ?_
  refine At.next ?_
  refine At.seq ?_
  refine At.region ?_
  refine At.p (some 5) (P_assign rfl rfl) ?_
  refine At.nil ?_
  refine At.next ?_
  refine At.seq ?_
  refine At.seq ?_
  refine At.region ?_
  refine At.p (some 6) (P_assign rfl rfl) ?_
  refine At.nil ?_
  refine At.next ?_
  refine At.block ?_
  refine At.empty 5 0 5 ?_
  refine At.loopx (I := fun m fr H => ∃ (i : Nat) (A5 : Option Addr) (b5 c5 : Nat), m = 64 - i ∧ fr = frOf [(0, aggK h), (1, aggK sum), (2, ptr b2 0), (3, ptr b3 0), (4, ptr b4 0), (5, .slice A5 ((List.replicate i 32#8).length) c5), (6, iV (i : Int))] ∧ H = hOf [(2, ⟨true, b2, 0, 23, (h).map u8V, 0⟩), (3, ⟨true, b3, 0, 23, (sum).map u8V, 0⟩), (4, ⟨true, b4, 0, 23, (List.replicate 32 0#8).map u8V, 0⟩), (5, ⟨true, b5, 0, 5, (List.replicate i 32#8).map u8V, c5 - (List.replicate i 32#8).length⟩)] ∧ (0 < c5 → A5 = some ⟨b5, 0, none⟩) ∧ ((List.replicate i 32#8).length ≤ c5) ∧ (i ≤ 64)) ?_ ?_
  · intro Kc0 hKc0
    refine At.to [(0, _), (1, _), (2, _), (3, _), (4, _), (5, _), (6, _)] [(2, _), (3, _), (4, _), (5, _)] (AllL.cons_ (rfl) (AllL.cons_ (rfl) (AllL.cons_ (rfl) (AllL.cons_ (rfl) (AllL.cons_ (rfl) (AllL.cons_ (rfl) (AllL.cons_ (rfl) trivial))))))) (AllL.cons_ (rfl) (AllL.cons_ (rfl) (AllL.cons_ (rfl) (AllL.cons_ (rfl) trivial)))) ?_
    exact hKc0 _ _ _ ⟨0, none, 0, 0, rfl, rfl, rfl, (fun h => absurd h (Nat.lt_irrefl 0)), (by first | exact Nat.le_refl _ | simp), (by omega)⟩
  · rintro m fr H ⟨i, A5, b5, c5, rfl, rfl, rfl, g5a, g5b, hi⟩ Kc0 hKc0
    refine At.seq ?_
    refine At.seq ?_
    refine At.region ?_
    refine At.p (some 7) (P_move rfl rfl) ?_
    refine At.p (some 8) (P_cmp rfl rfl rfl rfl rfl rfl) ?_
    refine At.nil ?_
    refine At.next ?_
    refine At.cond rfl (fun h8 => ?_) (fun h8 => ?_)
    · -- cond 8 t
      have e8 : (i : Int) < 64 := of_decide_eq_true h8
      refine At.skip ?_
      refine At.next ?_
      refine At.seq ?_
      refine At.block ?_
      refine At.region ?_
      refine At.p (some 11) (P_move rfl rfl) ?_
      refine At.s (S_buildSliceV (some 12) 12 (([32#8]).map u8V) rfl Try.underlying22 sz5 ze5 rfl rfl (by decide) (by decide) rfl rfl (fun b12 => ?_))
      refine At.s (S_appendM (some 13) 5 (List.replicate (i + 1) 32#8) (f := u8V) (l := (List.replicate i 32#8)) (L := [32#8]) (m := 1) rfl Try.underlying22 Try.underlying22 (.inr ⟨_, rfl⟩) sz5 by5 ze5 rfl rfl (fun h => ⟨g5a h, rfl⟩) LN OG (Src.all (k := 12) (l := [32#8]) rfl (fun _ => rfl) (fun _ => ⟨rfl, rfl, rfl⟩) LN) (fun _ => rfl) OG OG (by rw [List.replicate_succ']) LN ?_)
      intro A13 b13 c13 g13a g13b
      refine At.p (some 5) (P_assign rfl rfl) ?_
      refine At.nil ?_
      refine At.inb_n ?_
      refine At.next ?_
      refine At.region ?_
      refine At.p (some 9) (P_move rfl rfl) ?_
      refine At.p (some 10) (P_add_i rfl rfl rfl (by omega)) ?_
      refine At.p (some 6) (P_assign rfl rfl) ?_
      refine At.nil ?_
      refine At.next ?_
      refine At.to [(0, _), (1, _), (2, _), (3, _), (4, _), (5, _), (6, _)] [(2, _), (3, _), (4, _), (5, _)] (AllL.cons_ (rfl) (AllL.cons_ (rfl) (AllL.cons_ (rfl) (AllL.cons_ (rfl) (AllL.cons_ (rfl) (AllL.cons_ (rfl) (AllL.cons_ (rfl) trivial))))))) (AllL.cons_ (rfl) (AllL.cons_ (rfl) (AllL.cons_ (rfl) (AllL.cons_ (rfl) trivial)))) ?_
      exact hKc0 _ _ _ (by omega) ⟨i + 1, A13, b13, c13, rfl, rfl, rfl, g13a, (by first | omega | (simp; done) | (simp <;> omega) | exact Nat.le_refl _), (by omega)⟩
    · -- cond 8 f
      have e8 : ¬ (i : Int) < 64 := of_decide_eq_false h8
      refine At.exit ?_
      refine At.thn_e ?_
      refine At.thn_e ?_
      refine At.inb_hit ?_
      refine At.next ?_
      refine At.seq ?_
      refine At.region ?_
      refine At.p (some 14) (P_move rfl rfl) ?_
      refine At.s (S_appendM (some 15) 5 ((List.replicate i 32#8 ++ sgnN)) (f := u8V) (l := (List.replicate i 32#8)) (L := sgnN) (m := sgnN.length) rfl Try.underlying22 Try.underlying9 (.inl rfl) sz5 by5 ze5 rfl rfl (fun h => ⟨g5a h, rfl⟩) LN OG (Src.strV (a := sgnN) rfl) (fun _ => rfl) OG OG rfl LN ?_)
      intro A15 b15 c15 g15a g15b
      refine At.s (S_buildSliceV (some 16) 16 (([0#8]).map u8V) rfl Try.underlying22 sz5 ze5 rfl rfl (by decide) (by decide) rfl rfl (fun b16 => ?_))
      refine At.s (S_appendM (some 17) 5 (((List.replicate i 32#8 ++ sgnN) ++ [0#8])) (f := u8V) (l := (List.replicate i 32#8 ++ sgnN)) (L := [0#8]) (m := 1) rfl Try.underlying22 Try.underlying22 (.inr ⟨_, rfl⟩) sz5 by5 ze5 rfl rfl (fun h => ⟨g15a h, rfl⟩) LN OG (Src.all (k := 16) (l := [0#8]) rfl (fun _ => rfl) (fun _ => ⟨rfl, rfl, rfl⟩) LN) (fun _ => rfl) OG OG rfl LN ?_)
      intro A17 b17 c17 g17a g17b
      refine At.p (some 5) (P_assign rfl rfl) ?_
      refine At.nil ?_
      refine At.next ?_
      refine At.seq ?_
      refine At.draws 5 [2] [.q false [1], .q true [3, 4], .e false 0, .e true 2] (by kernel_rfl) (by kernel_rfl) ?_
      refine At.wp (some 19) (P_slice_arr1 (l := 0) (h := 32) (m := 32) rfl Try.underlying23 sz5 rfl rfl rfl rfl DO DO DO DO) ?_
      refine At.wqn ?_
      refine At.wp (some 21) (P_move rfl rfl) ?_
      refine At.wp (some 22) (P_slice_arr1 (l := 0) (h := 32) (m := 32) rfl Try.underlying23 sz5 rfl rfl rfl rfl DO DO DO DO) ?_
      refine At.wqn ?_
      refine At.we ?_
      refine S_buildSlice0 (some 18) 18 rfl Try.underlying22 sz5 (fun b18 => ?_)
      refine At.we ?_
      refine S_appendM (some 20) 18 (h) (f := u8V) (l := []) (L := h) (m := 32) rfl Try.underlying22 Try.underlying22 (.inr ⟨_, rfl⟩) sz5 by5 ze5 rfl rfl (fun h => ⟨rfl, rfl⟩) LN OG (Src.all (k := 2) (l := h) rfl (fun _ => rfl) (fun _ => ⟨rfl, rfl, rfl⟩) LN) (fun _ => rfl) OG OG rfl LN ?_
      intro A20 b20 c20 g20a g20b
      refine At.wt rfl ?_
      refine At.s (S_appendM (some 23) 5 ((((List.replicate i 32#8 ++ sgnN) ++ [0#8]) ++ sum)) (f := u8V) (l := ((List.replicate i 32#8 ++ sgnN) ++ [0#8])) (L := sum) (m := 32) rfl Try.underlying22 Try.underlying22 (.inr ⟨_, rfl⟩) sz5 by5 ze5 rfl rfl (fun h => ⟨g17a h, rfl⟩) LN OG (Src.all (k := 3) (l := sum) rfl (fun _ => rfl) (fun _ => ⟨rfl, rfl, rfl⟩) LN) (fun _ => rfl) OG OG rfl LN ?_)
      intro A23 b23 c23 g23a g23b
      refine At.s (S_callV (some 24) [(18, _), (5, _)] [] (vs := [_, _]) rfl en60 rfl (VN (by simp) rfl View.all (VN (by simp) rfl View.all V0)) (by simp) (r_MacN (key := h) (n := h.length) (A := A20) (bq := b20) (q := 0) (b := (((List.replicate i 32#8 ++ sgnN) ++ [0#8]) ++ sum)) (nb := ((((List.replicate i 32#8 ++ sgnN) ++ [0#8]) ++ sum).length)) (A2 := A23) (br := b23) (r := 0) LN LN (fun h => g20a (by omega)) (fun h => g23a (by omega)) OG OG) (by rintro _ _ ⟨rfl, rfl⟩; rfl) ?_)
      rintro _ _ ⟨rfl, rfl⟩
      have := macS_len h (((List.replicate i 32#8 ++ sgnN) ++ [0#8]) ++ sum)
      refine At.s (S_storeA none (k := 4) (vs := (macS h (((List.replicate i 32#8 ++ sgnN) ++ [0#8]) ++ sum)).map u8V) rfl rfl rfl (by rw [sz23]; exact congrArg some LN) rfl (one_map (fun _ => rfl)) NG rfl LN ?_)
      refine At.nil ?_
      refine At.next ?_
      refine At.ret ?_
      have hq0 : (macS h (((List.replicate i 32#8 ++ sgnN) ++ [0#8]) ++ sum)).map u8V = (signS h sum).map u8V := by rw [show i = 64 by omega]; rfl
      refine At.giveV (.inl rfl) [] (rows' := []) (ResV.cellA (k := 4) rfl rfl Try.underlying23 rfl sz23 LN rfl) rfl (by simp) (by simp) ?_
      exact ⟨congrArg (fun z => Value.agg (List.toArray z)) hq0, rfl⟩

end Go.Proofs.Ytihciioopdalnaa
