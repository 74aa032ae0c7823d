import Derived.Test.YtdkeadfhejkidaaHE
namespace Go.Proofs.Ytdkeadfhejkidaa
set_option maxRecDepth 20000
set_option linter.unusedVariables false
set_option linter.unusedSimpArgs false
open Go.SE Go.RowKit

def yTo (K : List (BitVec 8)) (x : BitVec 8) (i : Nat) : List (BitVec 8) := (List.range i).map (fun j => (keyB K).getD j 0#8 ^^^ x) ++ List.replicate (64 - i) 0#8
theorem yTo_len (K : List (BitVec 8)) (x : BitVec 8) {i : Nat} (h : i ≤ 64) : (yTo K x i).length = 64 := by simp [yTo]; omega
theorem yTo_set (K : List (BitVec 8)) (x : BitVec 8) {i : Nat} (h : i < 64) : (yTo K x i).set i ((keyB K).getD i 0#8 ^^^ x) = yTo K x (i + 1) := fill_set (fun j => (keyB K).getD j 0#8 ^^^ x) 0#8 h
theorem yTo_64 (K : List (BitVec 8)) (x : BitVec 8) : yTo K x 64 = keyedS K x := by
  apply List.ext_getElem (by rw [yTo_len _ _ (by decide), keyedS_len])
  intro j h1 h2
  have h3 : j < 64 := by rwa [yTo_len _ _ (by decide)] at h1
  simp [yTo, keyedS, xTo, h3]
theorem keyB_at (K : List (BitVec 8)) (i : Nat) : (keyB K).getD i 0#8 = if i < K.length then K.getD i 0#8 else 0#8 := by
  rw [keyB, List.getD_eq_getElem?_getD, List.getElem?_append]
  split
  · rw [List.getD_eq_getElem?_getD]
  · rw [List.getElem?_replicate]
    split <;> rfl

theorem r_SumN {A : Option Addr} {l : List (BitVec 8)} {n ca bq q : Nat} (hn : l.length = n) (hA : 0 < n → A = some ⟨bq, q, none⟩) (hl : n ≤ 1000000) : Con Try.prog 16 [.slice A n ca] [pRow bq q l] (fun v rs => v = aggK (sumS l) ∧ rs = []) := by
  subst hn
  exact r_Sum A l ca bq q hA hl

set_option maxHeartbeats 1000000 in
theorem r_Mac (A A2 : Option Addr) (key b : List (BitVec 8)) (ca cb bq q br r : Nat) (hA : 0 < key.length → A = some ⟨bq, q, none⟩) (hB : 0 < b.length → A2 = some ⟨br, r, none⟩) (hl : key.length ≤ 1000000) (hlb : b.length ≤ 900000) :
    Con Try.prog 19 [.slice A key.length ca, .slice A2 b.length cb] [pRow bq q key, pRow br r b] (fun v rs => v = aggK (macS key b) ∧ rs = []) := by
  refine Con.enter Try.func19 Try.ntmps19 (Nat.le_of_ble_eq_true rfl) rfl fun w => ?_
  refine At.seq ?_
  have hs1 := sumS_len key
  refine At.region ?_
  refine At.s (S_alloc (some 4) 4 (zs := (List.replicate 32 0#8).map u8V) rfl ze25 rfl (fun b4 => ?_))
  refine At.nil ?_
  refine At.next ?_
  refine At.seq ?_
  refine At.seq ?_
  refine At.region ?_
  refine At.p (some 11) (P_move rfl rfl) ?_
  refine At.p (some 12) (P_len_sl rfl rfl ⟨_, Try.underlying22⟩ rfl) ?_
  refine At.p (some 13) (P_cmp rfl rfl rfl rfl rfl rfl) ?_
  refine At.nil ?_
  refine At.next ?_
  refine At.cond rfl (fun h13 => ?_) (fun h13 => ?_)
  · -- cond 13 t
    have hgt : 64 < key.length := by simp at h13; omega
    have hke : keyS key = sumS key := by rw [keyS, if_pos hgt]
    refine At.seq ?_
    refine At.region ?_
    refine At.p (some 14) (P_move rfl rfl) ?_
    refine At.s (S_callV (some 15) [(0, _)] [] (vs := [_]) rfl en16 rfl (VN (by simp) rfl View.all V0) (by simp) (r_SumN (l := key) rfl hA hl) (by rintro _ _ ⟨rfl, rfl⟩; rfl) ?_)
    rintro _ _ ⟨rfl, rfl⟩
    refine At.s (S_alloc (some 5) 5 (zs := (List.replicate 32 0#8).map u8V) rfl ze25 rfl (fun b5 => ?_))
    refine At.s (S_storeA none (k := 5) (vs := _) rfl rfl rfl (by first | (rw [sz25]; simp <;> omega) | exact sz25) rfl (by first | (intro u hu; obtain ⟨z, _, rfl⟩ := List.mem_map.1 hu; rfl) | simp [Value.oneCell']) (by first | (simp; done) | (intro h; have h2 := congrArg List.length h; simp only [List.length_map, List.length_nil] at h2; omega) | (intro h; cases h)) rfl (by first | omega | (simp <;> omega) | rfl | (simp [*]; done)) ?_)
    refine At.nil ?_
    refine At.next ?_
    refine At.region ?_
    refine At.s (S_buildSlice0 (some 16) 16 rfl Try.underlying22 sz5 (fun b16 => ?_))
    refine At.p (some 17) (P_slice_arr1 rfl Try.underlying25 sz5 rfl rfl rfl rfl (by omega) (by omega) (by omega) (by omega)) ?_
    refine At.s (S_appendM (some 18) 16 (sumS key) (f := u8V) (l := []) (L := sumS key) rfl Try.underlying22 Try.underlying22 (.inr ⟨_, rfl⟩) sz5 by5 ze5 rfl rfl (fun h => ⟨absurd h (by omega), rfl⟩) rfl rfl (Src.row (k := 5) (j := 0) rfl (fun _ => rfl) (fun _ => ⟨rfl, rfl, rfl⟩) (by simp [List.take_of_length_le, sumS_len]) (by simp [sumS_len])) (fun _ => rfl) (by decide) (by decide) rfl (sumS_len _) ?_)
    intro A18 b18 c18 g18a g18b
    refine At.p (some 0) (P_assign rfl rfl) ?_
    refine At.nil ?_
    refine At.next ?_
    refine At.seq ?_
    refine At.brute (fun fr H => ∃ b6 b7, fr = frOf [(0, .slice A18 (sumS key).length c18), (1, .slice A2 b.length cb), (4, ptr b4 0), (6, .slice (some ⟨b6, 0, none⟩) 64 64), (7, .slice (some ⟨b7, 0, none⟩) 64 64)] ∧ H = hOf [(16, ⟨true, b18, 0, 5, (sumS key).map u8V, c18 - (sumS key).length⟩), (1, pRow br r b), (4, ⟨true, b4, 0, 25, (List.replicate 32 0#8).map u8V, 0⟩), (6, ⟨true, b6, 0, 5, (List.replicate 64 0#8).map u8V, 0⟩), (7, ⟨true, b7, 0, 5, (List.replicate 64 0#8).map u8V, 0⟩)]) (by kernel_rfl) ?_ ?_
    · intro Kb hKb
      refine At.anyStep [0, 1] (by kernel_rfl) (by simp) ?_
      refine ⟨?_, ?_⟩
      ·
        refine At.anyS (S_makeN (some 19) 6 (n := 64) (cs := (List.replicate (64) 0#8).map u8V) rfl Try.underlying22 sz5 by5 ze5 rfl rfl (by omega) (by omega) (by omega) (by omega) ((made_one (n := 64) (by omega)).trans (by rw [List.map_replicate]; rfl)) (fun b6 => ?_))
        refine At.anyStep [1, 2] (by kernel_rfl) (by simp) ?_
        refine ⟨?_, ?_⟩
        ·
          refine At.anyS (S_makeN (some 20) 7 (n := 64) (cs := (List.replicate (64) 0#8).map u8V) rfl Try.underlying22 sz5 by5 ze5 rfl rfl (by omega) (by omega) (by omega) (by omega) ((made_one (n := 64) (by omega)).trans (by rw [List.map_replicate]; rfl)) (fun b7 => ?_))
          refine At.anyStep [2] (by kernel_rfl) (by simp) ?_
          refine At.anyP (some 6) (P_assign rfl rfl) ?_
          refine At.anyStep [3] (by kernel_rfl) (by simp) ?_
          refine At.anyP (some 7) (P_assign rfl rfl) ?_
          refine At.anyEnd (by kernel_rfl) ?_
          refine At.next ?_
          refine At.to [(0, _), (1, _), (4, _), (6, _), (7, _)] [(16, _), (1, _), (4, _), (6, _), (7, _)] (AllL.cons_ (rfl) (AllL.cons_ (rfl) (AllL.cons_ (rfl) (AllL.cons_ (rfl) (AllL.cons_ (rfl) trivial))))) (AllL.cons_ (rfl) (AllL.cons_ (rfl) (AllL.cons_ (rfl) (AllL.cons_ (rfl) (AllL.cons_ (rfl) trivial))))) ?_
          exact hKb _ _ ⟨b6, b7, rfl, rfl⟩
        ·
          refine At.anyP (some 6) (P_assign rfl rfl) ?_
          refine At.anyStep [1] (by kernel_rfl) (by simp) ?_
          refine At.anyS (S_makeN (some 20) 7 (n := 64) (cs := (List.replicate (64) 0#8).map u8V) rfl Try.underlying22 sz5 by5 ze5 rfl rfl (by omega) (by omega) (by omega) (by omega) ((made_one (n := 64) (by omega)).trans (by rw [List.map_replicate]; rfl)) (fun b7 => ?_))
          refine At.anyStep [3] (by kernel_rfl) (by simp) ?_
          refine At.anyP (some 7) (P_assign rfl rfl) ?_
          refine At.anyEnd (by kernel_rfl) ?_
          refine At.next ?_
          refine At.to [(0, _), (1, _), (4, _), (6, _), (7, _)] [(16, _), (1, _), (4, _), (6, _), (7, _)] (AllL.cons_ (rfl) (AllL.cons_ (rfl) (AllL.cons_ (rfl) (AllL.cons_ (rfl) (AllL.cons_ (rfl) trivial))))) (AllL.cons_ (rfl) (AllL.cons_ (rfl) (AllL.cons_ (rfl) (AllL.cons_ (rfl) (AllL.cons_ (rfl) trivial))))) ?_
          exact hKb _ _ ⟨b6, b7, rfl, rfl⟩
      ·
        refine At.anyS (S_makeN (some 20) 7 (n := 64) (cs := (List.replicate (64) 0#8).map u8V) rfl Try.underlying22 sz5 by5 ze5 rfl rfl (by omega) (by omega) (by omega) (by omega) ((made_one (n := 64) (by omega)).trans (by rw [List.map_replicate]; rfl)) (fun b7 => ?_))
        refine At.anyStep [0] (by kernel_rfl) (by simp) ?_
        refine At.anyS (S_makeN (some 19) 6 (n := 64) (cs := (List.replicate (64) 0#8).map u8V) rfl Try.underlying22 sz5 by5 ze5 rfl rfl (by omega) (by omega) (by omega) (by omega) ((made_one (n := 64) (by omega)).trans (by rw [List.map_replicate]; rfl)) (fun b6 => ?_))
        refine At.anyStep [2] (by kernel_rfl) (by simp) ?_
        refine At.anyP (some 6) (P_assign rfl rfl) ?_
        refine At.anyStep [3] (by kernel_rfl) (by simp) ?_
        refine At.anyP (some 7) (P_assign rfl rfl) ?_
        refine At.anyEnd (by kernel_rfl) ?_
        refine At.next ?_
        refine At.to [(0, _), (1, _), (4, _), (6, _), (7, _)] [(16, _), (1, _), (4, _), (6, _), (7, _)] (AllL.cons_ (rfl) (AllL.cons_ (rfl) (AllL.cons_ (rfl) (AllL.cons_ (rfl) (AllL.cons_ (rfl) trivial))))) (AllL.cons_ (rfl) (AllL.cons_ (rfl) (AllL.cons_ (rfl) (AllL.cons_ (rfl) (AllL.cons_ (rfl) trivial))))) ?_
        exact hKb _ _ ⟨b6, b7, rfl, rfl⟩
    · rintro fr H ⟨b6, b7, rfl, rfl⟩
      refine At.next ?_
      refine At.seq ?_
      refine At.seq ?_
      refine At.region ?_
      refine At.p (some 8) (P_assign rfl rfl) ?_
      refine At.nil ?_
      refine At.next ?_
      refine At.block ?_
      refine At.loopx (I := fun m fr H => ∃ i, m = 64 - i ∧ fr = frOf [(0, .slice A18 (sumS key).length c18), (1, .slice A2 b.length cb), (4, ptr b4 0), (6, .slice (some ⟨b6, 0, none⟩) 64 64), (7, .slice (some ⟨b7, 0, none⟩) 64 64), (8, iV (i : Int))] ∧ H = hOf [(16, ⟨true, b18, 0, 5, (sumS key).map u8V, c18 - (sumS key).length⟩), (1, pRow br r b), (4, ⟨true, b4, 0, 25, (List.replicate 32 0#8).map u8V, 0⟩), (6, ⟨true, b6, 0, 5, (yTo (sumS key) 54#8 i).map u8V, 0⟩), (7, ⟨true, b7, 0, 5, (yTo (sumS key) 92#8 i).map u8V, 0⟩)] ∧ i ≤ 64) ?_ ?_
      · intro Kc0 hKc0
        refine At.to [(0, _), (1, _), (4, _), (6, _), (7, _), (8, _)] [(16, _), (1, _), (4, _), (6, ⟨true, b6, 0, 5, (yTo (sumS key) 54#8 0).map u8V, 0⟩), (7, ⟨true, b7, 0, 5, (yTo (sumS key) 92#8 0).map u8V, 0⟩)] (AllL.cons_ (rfl) (AllL.cons_ (rfl) (AllL.cons_ (rfl) (AllL.cons_ (rfl) (AllL.cons_ (rfl) (AllL.cons_ (rfl) trivial)))))) (AllL.cons_ (rfl) (AllL.cons_ (rfl) (AllL.cons_ (rfl) (AllL.cons_ (rfl) (AllL.cons_ (rfl) trivial))))) ?_
        exact hKc0 _ _ _ ⟨0, rfl, rfl, rfl, by omega⟩
      · rintro m fr H ⟨i, rfl, rfl, rfl, hi⟩ Kc0 hKc0
        refine At.seq ?_
        refine At.seq ?_
        refine At.region ?_
        refine At.p (some 21) (P_move rfl rfl) ?_
        refine At.p (some 22) (P_cmp rfl rfl rfl rfl rfl rfl) ?_
        refine At.nil ?_
        refine At.next ?_
        refine At.cond rfl (fun h22 => ?_) (fun h22 => ?_)
        · -- cond 22 t
          have hlt : i < 64 := by simp at h22; omega
          have hy6 := fun K x => yTo_len K x hi
          have y1 := hy6 key 54#8
          have y2 := hy6 key 92#8
          have y3 := hy6 (sumS key) 54#8
          have y4 := hy6 (sumS key) 92#8
          refine At.skip ?_
          refine At.next ?_
          refine At.seq ?_
          refine At.block ?_
          refine At.seq ?_
          refine At.region ?_
          refine At.p (some 9) (P_assign rfl rfl) ?_
          refine At.nil ?_
          refine At.next ?_
          refine At.seq ?_
          refine At.seq ?_
          refine At.region ?_
          refine At.p (some 25) (P_move rfl rfl) ?_
          refine At.p (some 26) (P_move rfl rfl) ?_
          refine At.p (some 27) (P_len_sl rfl rfl ⟨_, Try.underlying22⟩ rfl) ?_
          refine At.p (some 28) (P_cmp rfl rfl rfl rfl rfl rfl) ?_
          refine At.nil ?_
          refine At.next ?_
          refine At.cond rfl (fun h28 => ?_) (fun h28 => ?_)
          · -- cond 28 t
            have hki : i < (sumS key).length := by simpa using h28
            have hkb := (keyB_at (sumS key) i).trans (if_pos hki)
            refine At.region ?_
            refine At.p (some 29) (P_move rfl rfl) ?_
            refine At.p (some 30) (P_move rfl rfl) ?_
            refine At.p (some 31) (P_indexAddr_sl1 rfl Try.underlying22 sz5 rfl (g18a (by omega)) rfl rfl (by omega)) ?_
            refine At.q (some 32) (Q_loadR (l := (sumS key)) (k := 16) (j := i) (0#8) rfl rfl Try.underlying5 rfl rfl rfl (by omega)) ?_
            refine At.p (some 9) (P_assign rfl rfl) ?_
            refine At.nil ?_
            refine At.next ?_
            refine At.region ?_
            refine At.p (some 33) (P_move rfl rfl) ?_
            refine At.p (some 34) (P_move rfl rfl) ?_
            refine At.p (some 35) (P_move rfl rfl) ?_
            refine At.p (some 36) (P_move rfl rfl) ?_
            refine At.p (some 37) (P_move rfl rfl) ?_
            refine At.p (some 38) (P_xor_w UK.u8 (b := 54#8) rfl rfl rfl) ?_
            refine At.p (some 39) (P_move rfl rfl) ?_
            refine At.p (some 40) (P_xor_w UK.u8 (b := 92#8) rfl rfl rfl) ?_
            refine At.p (some 41) (P_indexAddr_slz rfl Try.underlying22 sz5 rfl rfl rfl rfl (by omega)) ?_
            refine At.s (S_storeM none (f := u8V) (k := 6) rfl rfl rfl sz5 rfl rfl rfl (by first | omega | (simp <;> omega)) ?_)
            refine At.p (some 42) (P_indexAddr_slz rfl Try.underlying22 sz5 rfl rfl rfl rfl (by omega)) ?_
            refine At.s (S_storeM none (f := u8V) (k := 7) rfl rfl rfl sz5 rfl rfl rfl (by first | omega | (simp <;> omega)) ?_)
            refine At.nil ?_
            refine At.inb_n ?_
            refine At.next ?_
            refine At.region ?_
            refine At.p (some 23) (P_move rfl rfl) ?_
            refine At.p (some 24) (P_add_i rfl rfl rfl (by omega)) ?_
            refine At.p (some 8) (P_assign rfl rfl) ?_
            refine At.nil ?_
            refine At.next ?_
            refine At.to [(0, _), (1, _), (4, _), (6, _), (7, _), (8, _)] [(16, _), (1, _), (4, _), (6, ⟨true, b6, 0, 5, (yTo (sumS key) 54#8 (i + 1)).map u8V, 0⟩), (7, ⟨true, b7, 0, 5, (yTo (sumS key) 92#8 (i + 1)).map u8V, 0⟩)] (AllL.cons_ (rfl) (AllL.cons_ (rfl) (AllL.cons_ (rfl) (AllL.cons_ (rfl) (AllL.cons_ (rfl) (AllL.cons_ (rfl) trivial)))))) (AllL.cons_ (rfl) (AllL.cons_ (rfl) (AllL.cons_ (rfl) (AllL.cons_ (congrArg (fun z => some (⟨true, b6, 0, 5, List.map u8V z, 0⟩ : Row)) (by rw [← yTo_set _ _ hlt, hkb])) (AllL.cons_ (congrArg (fun z => some (⟨true, b7, 0, 5, List.map u8V z, 0⟩ : Row)) (by rw [← yTo_set _ _ hlt, hkb])) trivial))))) ?_
            exact hKc0 _ _ _ (by omega) ⟨i + 1, rfl, rfl, rfl, by omega⟩
          · -- cond 28 f
            have hki : ¬ i < (sumS key).length := by simpa using h28
            have hkb := (keyB_at (sumS key) i).trans (if_neg hki)
            refine At.skip ?_
            refine At.next ?_
            refine At.region ?_
            refine At.p (some 33) (P_move rfl rfl) ?_
            refine At.p (some 34) (P_move rfl rfl) ?_
            refine At.p (some 35) (P_move rfl rfl) ?_
            refine At.p (some 36) (P_move rfl rfl) ?_
            refine At.p (some 37) (P_move rfl rfl) ?_
            refine At.p (some 38) (P_xor_w UK.u8 (a := 0#8) (b := 54#8) rfl rfl rfl) ?_
            refine At.p (some 39) (P_move rfl rfl) ?_
            refine At.p (some 40) (P_xor_w UK.u8 (a := 0#8) (b := 92#8) rfl rfl rfl) ?_
            refine At.p (some 41) (P_indexAddr_slz rfl Try.underlying22 sz5 rfl rfl rfl rfl (by omega)) ?_
            refine At.s (S_storeM none (f := u8V) (k := 6) rfl rfl rfl sz5 rfl rfl rfl (by first | omega | (simp <;> omega)) ?_)
            refine At.p (some 42) (P_indexAddr_slz rfl Try.underlying22 sz5 rfl rfl rfl rfl (by omega)) ?_
            refine At.s (S_storeM none (f := u8V) (k := 7) rfl rfl rfl sz5 rfl rfl rfl (by first | omega | (simp <;> omega)) ?_)
            refine At.nil ?_
            refine At.inb_n ?_
            refine At.next ?_
            refine At.region ?_
            refine At.p (some 23) (P_move rfl rfl) ?_
            refine At.p (some 24) (P_add_i rfl rfl rfl (by omega)) ?_
            refine At.p (some 8) (P_assign rfl rfl) ?_
            refine At.nil ?_
            refine At.next ?_
            refine At.to [(0, _), (1, _), (4, _), (6, _), (7, _), (8, _)] [(16, _), (1, _), (4, _), (6, ⟨true, b6, 0, 5, (yTo (sumS key) 54#8 (i + 1)).map u8V, 0⟩), (7, ⟨true, b7, 0, 5, (yTo (sumS key) 92#8 (i + 1)).map u8V, 0⟩)] (AllL.cons_ (rfl) (AllL.cons_ (rfl) (AllL.cons_ (rfl) (AllL.cons_ (rfl) (AllL.cons_ (rfl) (AllL.cons_ (rfl) trivial)))))) (AllL.cons_ (rfl) (AllL.cons_ (rfl) (AllL.cons_ (rfl) (AllL.cons_ (congrArg (fun z => some (⟨true, b6, 0, 5, List.map u8V z, 0⟩ : Row)) (by rw [← yTo_set _ _ hlt, hkb])) (AllL.cons_ (congrArg (fun z => some (⟨true, b7, 0, 5, List.map u8V z, 0⟩ : Row)) (by rw [← yTo_set _ _ hlt, hkb])) trivial))))) ?_
            exact hKc0 _ _ _ (by omega) ⟨i + 1, rfl, rfl, rfl, by omega⟩
        · -- cond 22 f
          obtain rfl : i = 64 := by simp at h22; omega
          refine At.exit ?_
          refine At.thn_e ?_
          refine At.thn_e ?_
          refine At.inb_hit ?_
          refine At.next ?_
          refine At.seq ?_
          have hs2 := sumS_len (keyedS (sumS key) 54#8 ++ b)
          have hs3 := sumS_len (keyedS (sumS key) 92#8 ++ sumS (keyedS (sumS key) 54#8 ++ b))
          refine At.region ?_
          refine At.p (some 43) (P_move rfl rfl) ?_
          refine At.p (some 44) (P_move rfl rfl) ?_
          refine At.s (S_appendM (some 45) 6 (keyedS (sumS key) 54#8 ++ b) (f := u8V) (l := keyedS (sumS key) 54#8) (L := b) rfl Try.underlying22 Try.underlying22 (.inr ⟨_, rfl⟩) sz5 by5 ze5 rfl rfl (fun h => ⟨rfl, by rw [← yTo_64]; rfl⟩) (keyedS_len _ _) rfl (Src.row (k := 1) (j := 0) rfl hB (fun _ => ⟨rfl, rfl, rfl⟩) (by simp [pRow, List.take_of_length_le]) (by simp)) (fun _ => rfl) (by omega) (by omega) rfl rfl ?_)
          intro A45 b45 c45 g45a g45b
          refine At.s (S_callV (some 46) [(6, _)] [] (vs := [_]) rfl en16 rfl (VN (by simp) rfl View.all V0) (by simp) (r_SumN (l := keyedS (sumS key) 54#8 ++ b) (n := (keyedS (sumS key) 54#8 ++ b).length) rfl (fun h => g45a (by omega)) (by simp [keyedS_len]; omega)) (by rintro _ _ ⟨rfl, rfl⟩; rfl) ?_)
          rintro _ _ ⟨rfl, rfl⟩
          refine At.s (S_alloc (some 10) 10 (zs := (List.replicate 32 0#8).map u8V) rfl ze25 rfl (fun b10 => ?_))
          refine At.s (S_storeA none (k := 10) (vs := _) rfl rfl rfl (by first | (rw [sz25]; simp <;> omega) | exact sz25) rfl (by first | (intro u hu; obtain ⟨z, _, rfl⟩ := List.mem_map.1 hu; rfl) | simp [Value.oneCell']) (by first | (simp; done) | (intro h; have h2 := congrArg List.length h; simp only [List.length_map, List.length_nil] at h2; omega) | (intro h; cases h)) rfl (by first | omega | (simp <;> omega) | rfl | (simp [*]; done)) ?_)
          refine At.nil ?_
          refine At.next ?_
          refine At.seq ?_
          refine At.region ?_
          refine At.p (some 47) (P_move rfl rfl) ?_
          refine At.p (some 48) (P_slice_arr1 rfl Try.underlying25 sz5 rfl rfl rfl rfl (by omega) (by omega) (by omega) (by omega)) ?_
          refine At.s (S_appendM (some 49) 7 (keyedS (sumS key) 92#8 ++ sumS (keyedS (sumS key) 54#8 ++ b)) (f := u8V) (l := keyedS (sumS key) 92#8) (L := sumS (keyedS (sumS key) 54#8 ++ b)) rfl Try.underlying22 Try.underlying22 (.inr ⟨_, rfl⟩) sz5 by5 ze5 rfl rfl (fun h => ⟨rfl, by rw [← yTo_64]; rfl⟩) (keyedS_len _ _) rfl (Src.row (k := 10) (j := 0) rfl (fun _ => rfl) (fun _ => ⟨rfl, rfl, rfl⟩) (by simp [List.take_of_length_le, sumS_len]) (by simp [sumS_len])) (fun _ => rfl) (by omega) (by omega) rfl (sumS_len _) ?_)
          intro A49 b49 c49 g49a g49b
          refine At.s (S_callV (some 50) [(7, _)] [] (vs := [_]) rfl en16 rfl (VN (by simp) rfl View.all V0) (by simp) (r_SumN (l := keyedS (sumS key) 92#8 ++ sumS (keyedS (sumS key) 54#8 ++ b)) (n := (keyedS (sumS key) 92#8 ++ sumS (keyedS (sumS key) 54#8 ++ b)).length) rfl (fun h => g49a (by omega)) (by simp [keyedS_len, sumS_len])) (by rintro _ _ ⟨rfl, rfl⟩; rfl) ?_)
          rintro _ _ ⟨rfl, rfl⟩
          refine At.s (S_storeA none (k := 4) (vs := _) rfl rfl rfl (by first | (rw [sz25]; simp <;> omega) | exact sz25) rfl (by first | (intro u hu; obtain ⟨z, _, rfl⟩ := List.mem_map.1 hu; rfl) | simp [Value.oneCell']) (by first | (simp; done) | (intro h; have h2 := congrArg List.length h; simp only [List.length_map, List.length_nil] at h2; omega) | (intro h; cases h)) rfl (by first | omega | (simp <;> omega) | rfl | (simp [*]; done)) ?_)
          refine At.nil ?_
          refine At.next ?_
          refine At.ret ?_
          refine At.giveV (.inl rfl) [] (rows' := []) (ResV.cellA (k := 4) rfl rfl Try.underlying25 rfl sz25 (by rw [List.length_map, sumS_len]) rfl) rfl (by simp) (by simp) ?_
          exact ⟨by rw [macS, hke]; rfl, rfl⟩
  · -- cond 13 f
    have hgt : ¬ 64 < key.length := by simp at h13; omega
    have hke : keyS key = key := by rw [keyS, if_neg hgt]
    refine At.skip ?_
    refine At.next ?_
    refine At.seq ?_
    refine At.brute (fun fr H => ∃ b6 b7, fr = frOf [(0, .slice A key.length ca), (1, .slice A2 b.length cb), (4, ptr b4 0), (6, .slice (some ⟨b6, 0, none⟩) 64 64), (7, .slice (some ⟨b7, 0, none⟩) 64 64)] ∧ H = hOf [(0, pRow bq q key), (1, pRow br r b), (4, ⟨true, b4, 0, 25, (List.replicate 32 0#8).map u8V, 0⟩), (6, ⟨true, b6, 0, 5, (List.replicate 64 0#8).map u8V, 0⟩), (7, ⟨true, b7, 0, 5, (List.replicate 64 0#8).map u8V, 0⟩)]) (by kernel_rfl) ?_ ?_
    · intro Kb hKb
      refine At.anyStep [0, 1] (by kernel_rfl) (by simp) ?_
      refine ⟨?_, ?_⟩
      ·
        refine At.anyS (S_makeN (some 19) 6 (n := 64) (cs := (List.replicate (64) 0#8).map u8V) rfl Try.underlying22 sz5 by5 ze5 rfl rfl (by omega) (by omega) (by omega) (by omega) ((made_one (n := 64) (by omega)).trans (by rw [List.map_replicate]; rfl)) (fun b6 => ?_))
        refine At.anyStep [1, 2] (by kernel_rfl) (by simp) ?_
        refine ⟨?_, ?_⟩
        ·
          refine At.anyS (S_makeN (some 20) 7 (n := 64) (cs := (List.replicate (64) 0#8).map u8V) rfl Try.underlying22 sz5 by5 ze5 rfl rfl (by omega) (by omega) (by omega) (by omega) ((made_one (n := 64) (by omega)).trans (by rw [List.map_replicate]; rfl)) (fun b7 => ?_))
          refine At.anyStep [2] (by kernel_rfl) (by simp) ?_
          refine At.anyP (some 6) (P_assign rfl rfl) ?_
          refine At.anyStep [3] (by kernel_rfl) (by simp) ?_
          refine At.anyP (some 7) (P_assign rfl rfl) ?_
          refine At.anyEnd (by kernel_rfl) ?_
          refine At.next ?_
          refine At.to [(0, _), (1, _), (4, _), (6, _), (7, _)] [(0, _), (1, _), (4, _), (6, _), (7, _)] (AllL.cons_ (rfl) (AllL.cons_ (rfl) (AllL.cons_ (rfl) (AllL.cons_ (rfl) (AllL.cons_ (rfl) trivial))))) (AllL.cons_ (rfl) (AllL.cons_ (rfl) (AllL.cons_ (rfl) (AllL.cons_ (rfl) (AllL.cons_ (rfl) trivial))))) ?_
          exact hKb _ _ ⟨b6, b7, rfl, rfl⟩
        ·
          refine At.anyP (some 6) (P_assign rfl rfl) ?_
          refine At.anyStep [1] (by kernel_rfl) (by simp) ?_
          refine At.anyS (S_makeN (some 20) 7 (n := 64) (cs := (List.replicate (64) 0#8).map u8V) rfl Try.underlying22 sz5 by5 ze5 rfl rfl (by omega) (by omega) (by omega) (by omega) ((made_one (n := 64) (by omega)).trans (by rw [List.map_replicate]; rfl)) (fun b7 => ?_))
          refine At.anyStep [3] (by kernel_rfl) (by simp) ?_
          refine At.anyP (some 7) (P_assign rfl rfl) ?_
          refine At.anyEnd (by kernel_rfl) ?_
          refine At.next ?_
          refine At.to [(0, _), (1, _), (4, _), (6, _), (7, _)] [(0, _), (1, _), (4, _), (6, _), (7, _)] (AllL.cons_ (rfl) (AllL.cons_ (rfl) (AllL.cons_ (rfl) (AllL.cons_ (rfl) (AllL.cons_ (rfl) trivial))))) (AllL.cons_ (rfl) (AllL.cons_ (rfl) (AllL.cons_ (rfl) (AllL.cons_ (rfl) (AllL.cons_ (rfl) trivial))))) ?_
          exact hKb _ _ ⟨b6, b7, rfl, rfl⟩
      ·
        refine At.anyS (S_makeN (some 20) 7 (n := 64) (cs := (List.replicate (64) 0#8).map u8V) rfl Try.underlying22 sz5 by5 ze5 rfl rfl (by omega) (by omega) (by omega) (by omega) ((made_one (n := 64) (by omega)).trans (by rw [List.map_replicate]; rfl)) (fun b7 => ?_))
        refine At.anyStep [0] (by kernel_rfl) (by simp) ?_
        refine At.anyS (S_makeN (some 19) 6 (n := 64) (cs := (List.replicate (64) 0#8).map u8V) rfl Try.underlying22 sz5 by5 ze5 rfl rfl (by omega) (by omega) (by omega) (by omega) ((made_one (n := 64) (by omega)).trans (by rw [List.map_replicate]; rfl)) (fun b6 => ?_))
        refine At.anyStep [2] (by kernel_rfl) (by simp) ?_
        refine At.anyP (some 6) (P_assign rfl rfl) ?_
        refine At.anyStep [3] (by kernel_rfl) (by simp) ?_
        refine At.anyP (some 7) (P_assign rfl rfl) ?_
        refine At.anyEnd (by kernel_rfl) ?_
        refine At.next ?_
        refine At.to [(0, _), (1, _), (4, _), (6, _), (7, _)] [(0, _), (1, _), (4, _), (6, _), (7, _)] (AllL.cons_ (rfl) (AllL.cons_ (rfl) (AllL.cons_ (rfl) (AllL.cons_ (rfl) (AllL.cons_ (rfl) trivial))))) (AllL.cons_ (rfl) (AllL.cons_ (rfl) (AllL.cons_ (rfl) (AllL.cons_ (rfl) (AllL.cons_ (rfl) trivial))))) ?_
        exact hKb _ _ ⟨b6, b7, rfl, rfl⟩
    · rintro fr H ⟨b6, b7, rfl, rfl⟩
      refine At.next ?_
      refine At.seq ?_
      refine At.seq ?_
      refine At.region ?_
      refine At.p (some 8) (P_assign rfl rfl) ?_
      refine At.nil ?_
      refine At.next ?_
      refine At.block ?_
      refine At.loopx (I := fun m fr H => ∃ i, m = 64 - i ∧ fr = frOf [(0, .slice A key.length ca), (1, .slice A2 b.length cb), (4, ptr b4 0), (6, .slice (some ⟨b6, 0, none⟩) 64 64), (7, .slice (some ⟨b7, 0, none⟩) 64 64), (8, iV (i : Int))] ∧ H = hOf [(0, pRow bq q key), (1, pRow br r b), (4, ⟨true, b4, 0, 25, (List.replicate 32 0#8).map u8V, 0⟩), (6, ⟨true, b6, 0, 5, (yTo key 54#8 i).map u8V, 0⟩), (7, ⟨true, b7, 0, 5, (yTo key 92#8 i).map u8V, 0⟩)] ∧ i ≤ 64) ?_ ?_
      · intro Kc0 hKc0
        refine At.to [(0, _), (1, _), (4, _), (6, _), (7, _), (8, _)] [(0, _), (1, _), (4, _), (6, ⟨true, b6, 0, 5, (yTo key 54#8 0).map u8V, 0⟩), (7, ⟨true, b7, 0, 5, (yTo key 92#8 0).map u8V, 0⟩)] (AllL.cons_ (rfl) (AllL.cons_ (rfl) (AllL.cons_ (rfl) (AllL.cons_ (rfl) (AllL.cons_ (rfl) (AllL.cons_ (rfl) trivial)))))) (AllL.cons_ (rfl) (AllL.cons_ (rfl) (AllL.cons_ (rfl) (AllL.cons_ (rfl) (AllL.cons_ (rfl) trivial))))) ?_
        exact hKc0 _ _ _ ⟨0, rfl, rfl, rfl, by omega⟩
      · rintro m fr H ⟨i, rfl, rfl, rfl, hi⟩ Kc0 hKc0
        refine At.seq ?_
        refine At.seq ?_
        refine At.region ?_
        refine At.p (some 21) (P_move rfl rfl) ?_
        refine At.p (some 22) (P_cmp rfl rfl rfl rfl rfl rfl) ?_
        refine At.nil ?_
        refine At.next ?_
        refine At.cond rfl (fun h22 => ?_) (fun h22 => ?_)
        · -- cond 22 t
          have hlt : i < 64 := by simp at h22; omega
          have hy6 := fun K x => yTo_len K x hi
          have y1 := hy6 key 54#8
          have y2 := hy6 key 92#8
          have y3 := hy6 (sumS key) 54#8
          have y4 := hy6 (sumS key) 92#8
          refine At.skip ?_
          refine At.next ?_
          refine At.seq ?_
          refine At.block ?_
          refine At.seq ?_
          refine At.region ?_
          refine At.p (some 9) (P_assign rfl rfl) ?_
          refine At.nil ?_
          refine At.next ?_
          refine At.seq ?_
          refine At.seq ?_
          refine At.region ?_
          refine At.p (some 25) (P_move rfl rfl) ?_
          refine At.p (some 26) (P_move rfl rfl) ?_
          refine At.p (some 27) (P_len_sl rfl rfl ⟨_, Try.underlying22⟩ rfl) ?_
          refine At.p (some 28) (P_cmp rfl rfl rfl rfl rfl rfl) ?_
          refine At.nil ?_
          refine At.next ?_
          refine At.cond rfl (fun h28 => ?_) (fun h28 => ?_)
          · -- cond 28 t
            have hki : i < key.length := by simpa using h28
            have hkb := (keyB_at key i).trans (if_pos hki)
            refine At.region ?_
            refine At.p (some 29) (P_move rfl rfl) ?_
            refine At.p (some 30) (P_move rfl rfl) ?_
            refine At.p (some 31) (P_indexAddr_sl1 rfl Try.underlying22 sz5 rfl (hA (by omega)) rfl rfl (by omega)) ?_
            refine At.q (some 32) (Q_loadR (l := key) (k := 0) (j := i) (0#8) rfl rfl Try.underlying5 rfl rfl rfl (by omega)) ?_
            refine At.p (some 9) (P_assign rfl rfl) ?_
            refine At.nil ?_
            refine At.next ?_
            refine At.region ?_
            refine At.p (some 33) (P_move rfl rfl) ?_
            refine At.p (some 34) (P_move rfl rfl) ?_
            refine At.p (some 35) (P_move rfl rfl) ?_
            refine At.p (some 36) (P_move rfl rfl) ?_
            refine At.p (some 37) (P_move rfl rfl) ?_
            refine At.p (some 38) (P_xor_w UK.u8 (b := 54#8) rfl rfl rfl) ?_
            refine At.p (some 39) (P_move rfl rfl) ?_
            refine At.p (some 40) (P_xor_w UK.u8 (b := 92#8) rfl rfl rfl) ?_
            refine At.p (some 41) (P_indexAddr_slz rfl Try.underlying22 sz5 rfl rfl rfl rfl (by omega)) ?_
            refine At.s (S_storeM none (f := u8V) (k := 6) rfl rfl rfl sz5 rfl rfl rfl (by first | omega | (simp <;> omega)) ?_)
            refine At.p (some 42) (P_indexAddr_slz rfl Try.underlying22 sz5 rfl rfl rfl rfl (by omega)) ?_
            refine At.s (S_storeM none (f := u8V) (k := 7) rfl rfl rfl sz5 rfl rfl rfl (by first | omega | (simp <;> omega)) ?_)
            refine At.nil ?_
            refine At.inb_n ?_
            refine At.next ?_
            refine At.region ?_
            refine At.p (some 23) (P_move rfl rfl) ?_
            refine At.p (some 24) (P_add_i rfl rfl rfl (by omega)) ?_
            refine At.p (some 8) (P_assign rfl rfl) ?_
            refine At.nil ?_
            refine At.next ?_
            refine At.to [(0, _), (1, _), (4, _), (6, _), (7, _), (8, _)] [(0, _), (1, _), (4, _), (6, ⟨true, b6, 0, 5, (yTo key 54#8 (i + 1)).map u8V, 0⟩), (7, ⟨true, b7, 0, 5, (yTo key 92#8 (i + 1)).map u8V, 0⟩)] (AllL.cons_ (rfl) (AllL.cons_ (rfl) (AllL.cons_ (rfl) (AllL.cons_ (rfl) (AllL.cons_ (rfl) (AllL.cons_ (rfl) trivial)))))) (AllL.cons_ (rfl) (AllL.cons_ (rfl) (AllL.cons_ (rfl) (AllL.cons_ (congrArg (fun z => some (⟨true, b6, 0, 5, List.map u8V z, 0⟩ : Row)) (by rw [← yTo_set _ _ hlt, hkb])) (AllL.cons_ (congrArg (fun z => some (⟨true, b7, 0, 5, List.map u8V z, 0⟩ : Row)) (by rw [← yTo_set _ _ hlt, hkb])) trivial))))) ?_
            exact hKc0 _ _ _ (by omega) ⟨i + 1, rfl, rfl, rfl, by omega⟩
          · -- cond 28 f
            have hki : ¬ i < key.length := by simpa using h28
            have hkb := (keyB_at key i).trans (if_neg hki)
            refine At.skip ?_
            refine At.next ?_
            refine At.region ?_
            refine At.p (some 33) (P_move rfl rfl) ?_
            refine At.p (some 34) (P_move rfl rfl) ?_
            refine At.p (some 35) (P_move rfl rfl) ?_
            refine At.p (some 36) (P_move rfl rfl) ?_
            refine At.p (some 37) (P_move rfl rfl) ?_
            refine At.p (some 38) (P_xor_w UK.u8 (a := 0#8) (b := 54#8) rfl rfl rfl) ?_
            refine At.p (some 39) (P_move rfl rfl) ?_
            refine At.p (some 40) (P_xor_w UK.u8 (a := 0#8) (b := 92#8) rfl rfl rfl) ?_
            refine At.p (some 41) (P_indexAddr_slz rfl Try.underlying22 sz5 rfl rfl rfl rfl (by omega)) ?_
            refine At.s (S_storeM none (f := u8V) (k := 6) rfl rfl rfl sz5 rfl rfl rfl (by first | omega | (simp <;> omega)) ?_)
            refine At.p (some 42) (P_indexAddr_slz rfl Try.underlying22 sz5 rfl rfl rfl rfl (by omega)) ?_
            refine At.s (S_storeM none (f := u8V) (k := 7) rfl rfl rfl sz5 rfl rfl rfl (by first | omega | (simp <;> omega)) ?_)
            refine At.nil ?_
            refine At.inb_n ?_
            refine At.next ?_
            refine At.region ?_
            refine At.p (some 23) (P_move rfl rfl) ?_
            refine At.p (some 24) (P_add_i rfl rfl rfl (by omega)) ?_
            refine At.p (some 8) (P_assign rfl rfl) ?_
            refine At.nil ?_
            refine At.next ?_
            refine At.to [(0, _), (1, _), (4, _), (6, _), (7, _), (8, _)] [(0, _), (1, _), (4, _), (6, ⟨true, b6, 0, 5, (yTo key 54#8 (i + 1)).map u8V, 0⟩), (7, ⟨true, b7, 0, 5, (yTo key 92#8 (i + 1)).map u8V, 0⟩)] (AllL.cons_ (rfl) (AllL.cons_ (rfl) (AllL.cons_ (rfl) (AllL.cons_ (rfl) (AllL.cons_ (rfl) (AllL.cons_ (rfl) trivial)))))) (AllL.cons_ (rfl) (AllL.cons_ (rfl) (AllL.cons_ (rfl) (AllL.cons_ (congrArg (fun z => some (⟨true, b6, 0, 5, List.map u8V z, 0⟩ : Row)) (by rw [← yTo_set _ _ hlt, hkb])) (AllL.cons_ (congrArg (fun z => some (⟨true, b7, 0, 5, List.map u8V z, 0⟩ : Row)) (by rw [← yTo_set _ _ hlt, hkb])) trivial))))) ?_
            exact hKc0 _ _ _ (by omega) ⟨i + 1, rfl, rfl, rfl, by omega⟩
        · -- cond 22 f
          obtain rfl : i = 64 := by simp at h22; omega
          refine At.exit ?_
          refine At.thn_e ?_
          refine At.thn_e ?_
          refine At.inb_hit ?_
          refine At.next ?_
          refine At.seq ?_
          have hs2 := sumS_len (keyedS key 54#8 ++ b)
          have hs3 := sumS_len (keyedS key 92#8 ++ sumS (keyedS key 54#8 ++ b))
          refine At.region ?_
          refine At.p (some 43) (P_move rfl rfl) ?_
          refine At.p (some 44) (P_move rfl rfl) ?_
          refine At.s (S_appendM (some 45) 6 (keyedS key 54#8 ++ b) (f := u8V) (l := keyedS key 54#8) (L := b) rfl Try.underlying22 Try.underlying22 (.inr ⟨_, rfl⟩) sz5 by5 ze5 rfl rfl (fun h => ⟨rfl, by rw [← yTo_64]; rfl⟩) (keyedS_len _ _) rfl (Src.row (k := 1) (j := 0) rfl hB (fun _ => ⟨rfl, rfl, rfl⟩) (by simp [pRow, List.take_of_length_le]) (by simp)) (fun _ => rfl) (by omega) (by omega) rfl rfl ?_)
          intro A45 b45 c45 g45a g45b
          refine At.s (S_callV (some 46) [(6, _)] [] (vs := [_]) rfl en16 rfl (VN (by simp) rfl View.all V0) (by simp) (r_SumN (l := keyedS key 54#8 ++ b) (n := (keyedS key 54#8 ++ b).length) rfl (fun h => g45a (by omega)) (by simp [keyedS_len]; omega)) (by rintro _ _ ⟨rfl, rfl⟩; rfl) ?_)
          rintro _ _ ⟨rfl, rfl⟩
          refine At.s (S_alloc (some 10) 10 (zs := (List.replicate 32 0#8).map u8V) rfl ze25 rfl (fun b10 => ?_))
          refine At.s (S_storeA none (k := 10) (vs := _) rfl rfl rfl (by first | (rw [sz25]; simp <;> omega) | exact sz25) rfl (by first | (intro u hu; obtain ⟨z, _, rfl⟩ := List.mem_map.1 hu; rfl) | simp [Value.oneCell']) (by first | (simp; done) | (intro h; have h2 := congrArg List.length h; simp only [List.length_map, List.length_nil] at h2; omega) | (intro h; cases h)) rfl (by first | omega | (simp <;> omega) | rfl | (simp [*]; done)) ?_)
          refine At.nil ?_
          refine At.next ?_
          refine At.seq ?_
          refine At.region ?_
          refine At.p (some 47) (P_move rfl rfl) ?_
          refine At.p (some 48) (P_slice_arr1 rfl Try.underlying25 sz5 rfl rfl rfl rfl (by omega) (by omega) (by omega) (by omega)) ?_
          refine At.s (S_appendM (some 49) 7 (keyedS key 92#8 ++ sumS (keyedS key 54#8 ++ b)) (f := u8V) (l := keyedS key 92#8) (L := sumS (keyedS key 54#8 ++ b)) rfl Try.underlying22 Try.underlying22 (.inr ⟨_, rfl⟩) sz5 by5 ze5 rfl rfl (fun h => ⟨rfl, by rw [← yTo_64]; rfl⟩) (keyedS_len _ _) rfl (Src.row (k := 10) (j := 0) rfl (fun _ => rfl) (fun _ => ⟨rfl, rfl, rfl⟩) (by simp [List.take_of_length_le, sumS_len]) (by simp [sumS_len])) (fun _ => rfl) (by omega) (by omega) rfl (sumS_len _) ?_)
          intro A49 b49 c49 g49a g49b
          refine At.s (S_callV (some 50) [(7, _)] [] (vs := [_]) rfl en16 rfl (VN (by simp) rfl View.all V0) (by simp) (r_SumN (l := keyedS key 92#8 ++ sumS (keyedS key 54#8 ++ b)) (n := (keyedS key 92#8 ++ sumS (keyedS key 54#8 ++ b)).length) rfl (fun h => g49a (by omega)) (by simp [keyedS_len, sumS_len])) (by rintro _ _ ⟨rfl, rfl⟩; rfl) ?_)
          rintro _ _ ⟨rfl, rfl⟩
          refine At.s (S_storeA none (k := 4) (vs := _) rfl rfl rfl (by first | (rw [sz25]; simp <;> omega) | exact sz25) rfl (by first | (intro u hu; obtain ⟨z, _, rfl⟩ := List.mem_map.1 hu; rfl) | simp [Value.oneCell']) (by first | (simp; done) | (intro h; have h2 := congrArg List.length h; simp only [List.length_map, List.length_nil] at h2; omega) | (intro h; cases h)) rfl (by first | omega | (simp <;> omega) | rfl | (simp [*]; done)) ?_)
          refine At.nil ?_
          refine At.next ?_
          refine At.ret ?_
          refine At.giveV (.inl rfl) [] (rows' := []) (ResV.cellA (k := 4) rfl rfl Try.underlying25 rfl sz25 (by rw [List.length_map, sumS_len]) rfl) rfl (by simp) (by simp) ?_
          exact ⟨by rw [macS, hke]; rfl, rfl⟩
end Go.Proofs.Ytdkeadfhejkidaa
