import Derived.Test.YtdingfinclcbgaaJN3
namespace Go.Proofs.Ytdingfinclcbgaa
set_option maxRecDepth 20000
set_option linter.unusedVariables false
set_option linter.unusedSimpArgs false
open Go.SE Go.RowKit
def fstS (n a : Nat) : Nat := 2 + a * ((n - 2) / 2)
theorem mul_ar {a n : Nat} (h : a ≤ 1) : (a : Int) * (((n - 2) / 2 : Nat) : Int) ≤ n ∧ 0 ≤ (a : Int) * (((n - 2) / 2 : Nat) : Int) := by
 rcases Nat.le_one_iff_eq_zero_or_eq_one.1 h with rfl | rfl
 · simp
 ·
  rw [Int.natCast_one, Int.one_mul]
  omega
theorem fst_eq (n a : Nat) : (2 + (a : Int) * (((n - 2) / 2 : Nat) : Int)) = (fstS n a : Nat) := by
 unfold fstS
 push_cast
 rfl
theorem fst_le (n a : Nat) (h : a ≤ 1) : 2 ≤ fstS n a ∧ fstS n a + (n - 2) / 2 ≤ n + 2 ∧ (4 ≤ n → fstS n a + (n - 2) / 2 ≤ n) := by
 unfold fstS
 rcases Nat.le_one_iff_eq_zero_or_eq_one.1 h with rfl | rfl <;> omega
theorem c_newestG {bD bS cD nD rD : Nat} {S : List (BitVec 8)} {wr : Int} {g : BitVec 64} {ar : Int} {f : Bool} (hS : S.length = nD * 64) (hn : nD ≤ 512) (hc : nD ≤ cD) (hw : 0 ≤ wr) (hw2 : wr ≤ 4611686018427380000) (h4 : 4 ≤ nD) (hg : pkS S 2 = (g, ar, f)) :
  Con Try.prog 44 [ptr bD 0] [dH false bD bS cD nD wr, rowS false bS S rD] (fun v rs => v = .tuple #[u64V g, iV ar, .bool f, iV 0] ∧ rs = []) := by
 have h := c_newest (bD := bD) (bS := bS) (rD := rD) hS hn hc hw hw2 h4
 rw [hg] at h
 exact h
def jRow (b bD : Nat) (gen : BitVec 64) (ar : Int) (A : Option Addr) (n c : Nat) (used : Int) (ended : Bool) : Row := ⟨true, b, 0, 82, [ptr bD 0, u64V gen, iV ar, .slice A n c, iV used, .bool ended], 0⟩
theorem secs_rep {n k : Nat} (h : k < n) : secs (List.replicate (n * 64) 0#8) k = List.replicate 64 0#8 := by
 unfold secs
 rw [List.drop_replicate, List.take_replicate]
 congr 1
 omega
theorem told_zero : tdOk (List.replicate 64 0#8) = false := by
 unfold tdOk
 rw [decide_eq_false (p := List.replicate 64 0#8 = _) (fun h => ?_), Bool.and_false]
 have := congrArg (fun l : List (BitVec 8) => l.head?) h
 simp [slotB, sl32] at this
theorem pk_zero {S : List (BitVec 8)} {n : Nat} (hz : S = List.replicate (n * 64) 0#8) (h : 4 ≤ n) : pkS S 2 = (0#64, 0, false) := by
 subst hz
 show pk1 (pk1 (0#64, 0, false) (secs _ 0)) (secs _ 1) = _
 rw [secs_rep (by omega), secs_rep (by omega), pk_0 told_zero, pk_0 told_zero]

attribute [local irreducible] sumS
set_option maxHeartbeats 2000000 in
theorem c_jsize {bD bS cD nD rD : Nat} {S : List (BitVec 8)} {wr : Int} (hSl : S.length = nD * 64) (hn : nD ≤ 512) (hc : nD ≤ cD) (hw : 0 ≤ wr) (hw2 : wr ≤ 4611686018427380000) (h4 : 4 ≤ nD) :
  Con Try.prog 48 [ptr bD 0] [dH false bD bS cD nD wr, rowS false bS S rD] (fun v rs => v = iV ((nD - 2) / 2 : Nat) ∧ rs = []) := by
 refine Con.enter Try.func48 Try.ntmps48 (Nat.le_of_ble_eq_true rfl) rfl fun w => ?_
 refine At.seq ?_
 refine At.region ?_
 refine At.p (some 2) (P_assign rfl rfl) ?_
 refine At.nil ?_
 refine At.next ?_
 refine At.seq ?_
 refine At.region ?_
 refine At.p (some 3) (P_move rfl rfl) ?_
 refine At.s (S_callV (some 4) [(0, _)] [] (vs := [_]) rfl en18 rfl (VN (by simp) rfl View.all V0) (by simp) (c_SizeH (n := nD) (c := cD) (b := bD) (bs := bS) (wr := wr)) (by rintro _ _ ⟨rfl, rfl⟩; rfl) ?_)
 rintro _ _ ⟨rfl, rfl⟩
 refine At.p (some 5) (P_sub_i rfl rfl rfl (by omega)) ?_
 refine At.p (some 6) (P_quo_i rfl rfl rfl (by omega) (by omega) (by first | decide | omega)) ?_
 refine At.p (some 2) (P_assign rfl rfl) ?_
 refine At.nil ?_
 refine At.next ?_
 refine At.ret ?_
 have hq0 : ((((nD : Int) - 2) / 2) : Int) = ((nD - 2) / 2 : Nat) := (by omega)
 refine At.give (.inl rfl) [] (rows' := []) (vs := [_]) rfl ⟨rfl, trivial⟩ rfl (by simp) (by simp) ⟨(by first | (rw [hq0]; try rfl; done) | (rw [← hq0]; try rfl; done) | (simp only [hq0]; try rfl; done) | (simp only [← hq0]; try rfl; done) | rfl), (by first | (rw [hq0]; try rfl; done) | (rw [← hq0]; try rfl; done) | (simp only [hq0]; try rfl; done) | (simp only [← hq0]; try rfl; done) | rfl)⟩

set_option maxHeartbeats 2000000 in
theorem c_jfirst {bD bS cD nD rD : Nat} {S : List (BitVec 8)} {wr : Int} {a : Nat} (hSl : S.length = nD * 64) (hn : nD ≤ 512) (hc : nD ≤ cD) (hw : 0 ≤ wr) (hw2 : wr ≤ 4611686018427380000) (h4 : 4 ≤ nD) (ha : a ≤ 1) :
  Con Try.prog 49 [ptr bD 0, iV (a : Int)] [dH false bD bS cD nD wr, rowS false bS S rD] (fun v rs => v = iV (fstS nD a : Nat) ∧ rs = []) := by
 refine Con.enter Try.func49 Try.ntmps49 (Nat.le_of_ble_eq_true rfl) rfl fun w => ?_
 refine At.seq ?_
 have hm := mul_ar (a := a) (n := nD) ha
 refine At.region ?_
 refine At.p (some 4) (P_assign rfl rfl) ?_
 refine At.nil ?_
 refine At.next ?_
 refine At.seq ?_
 refine At.region ?_
 refine At.p (some 5) (P_move rfl rfl) ?_
 refine At.p (some 6) (P_move rfl rfl) ?_
 refine At.s (S_callV (some 7) [(0, _), (1, _)] [] (vs := [_]) rfl en48 rfl (VN (by simp) rfl View.all (VN (by simp) rfl View.all V0)) (by simp) (c_jsize (bD := bD) (bS := bS) (cD := cD) (nD := nD) (rD := rD) (S := S) (wr := wr) (by omega) (by omega) (by omega) (by omega) (by omega) (by omega)) (by rintro _ _ ⟨rfl, rfl⟩; rfl) ?_)
 rintro _ _ ⟨rfl, rfl⟩
 refine At.p (some 8) (P_mul_i rfl rfl rfl (by omega)) ?_
 refine At.p (some 9) (P_add_i rfl rfl rfl (by omega)) ?_
 refine At.p (some 4) (P_assign rfl rfl) ?_
 refine At.nil ?_
 refine At.next ?_
 refine At.ret ?_
 have hq0 : ((2 + ((a : Int) * (((nD - 2) / 2 : Nat) : Int))) : Int) = (fstS nD a : Nat) := (fst_eq _ _)
 refine At.give (.inl rfl) [] (rows' := []) (vs := [_]) rfl ⟨rfl, trivial⟩ rfl (by simp) (by simp) ⟨(by first | (rw [hq0]; try rfl; done) | (rw [← hq0]; try rfl; done) | (simp only [hq0]; try rfl; done) | (simp only [← hq0]; try rfl; done) | rfl), (by first | (rw [hq0]; try rfl; done) | (rw [← hq0]; try rfl; done) | (simp only [hq0]; try rfl; done) | (simp only [← hq0]; try rfl; done) | rfl)⟩

set_option maxHeartbeats 2000000 in
theorem c_Format {bD bS cD nD rD : Nat} {S : List (BitVec 8)} {wr : Int} (hSl : S.length = nD * 64) (hn : nD ≤ 512) (hc : nD ≤ cD) (hw : 0 ≤ wr) (hw2 : wr ≤ 4611686018427380000) (h4 : 4 ≤ nD) (hz : S = List.replicate (nD * 64) 0#8) :
  Con Try.prog 28 [ptr bD 0] [dH true bD bS cD nD wr, rowS true bS S rD] (fun v rs => ∃ b', v = .tuple #[ptr b' 0, iV 0] ∧ rs = [dH true bD bS cD nD (wr + 1 + 1), rowS true bS (splice (splice S (0 * 64) (List.replicate 64 0#8)) (1 * 64) (slotB 1#64 0)) rD, jRow b' bD 1#64 0 none 0 0 0 false]) := by
 refine Con.enter Try.func28 Try.ntmps28 (Nat.le_of_ble_eq_true rfl) rfl fun w => ?_
 refine At.seq ?_
 refine At.region ?_
 refine At.p (some 2) (P_assign rfl rfl) ?_
 refine At.p (some 3) (P_assign rfl rfl) ?_
 refine At.nil ?_
 refine At.next ?_
 refine At.seq ?_
 refine At.seq ?_
 refine At.region ?_
 refine At.p (some 12) (P_move rfl rfl) ?_
 refine At.s (S_callV (some 13) [(0, _), (1, _)] [] (vs := [_]) rfl en43 rfl (VN (by simp) rfl View.all (VN (by simp) rfl View.all V0)) (by simp) (c_usable (bD := bD) (bS := bS) (cD := cD) (nD := nD) (rD := rD) (S := S) (wr := wr)  (by omega) (by omega) (by omega) (by omega) (by omega) (by omega)) (by rintro _ _ ⟨rfl, rfl⟩; rfl) ?_)
 rintro _ _ ⟨rfl, rfl⟩
 refine At.p (some 4) (P_assign rfl rfl) ?_
 refine At.nil ?_
 refine At.next ?_
 refine At.seq ?_
 refine At.region ?_
 refine At.p (some 14) (P_move rfl rfl) ?_
 refine At.p (some 15) (P_cmp rfl rfl rfl rfl rfl rfl) ?_
 refine At.nil ?_
 refine At.next ?_
 refine At.cond rfl (fun h15 => by exact absurd h15 (by decide)) (fun h15 => ?_)
 have e15 : 0 = 0 := bne_eq_false_iff_eq.1 h15
 refine At.skip ?_
 refine At.next ?_
 refine At.seq ?_
 refine At.region ?_
 refine At.p (some 18) (P_move rfl rfl) ?_
 refine At.s (S_callV (some 19) [(0, _), (1, _)] [] (vs := [_]) rfl en44 rfl (VN (by simp) rfl View.all (VN (by simp) rfl View.all V0)) (by simp) (c_newestG (bD := bD) (bS := bS) (cD := cD) (nD := nD) (rD := rD) (S := S) (wr := wr) (g := 0#64) (ar := 0) (f := false) (by omega) (by omega) (by omega) (by omega) (by omega) (by omega) (pk_zero hz h4)) (by rintro _ _ ⟨rfl, rfl⟩; rfl) ?_)
 rintro _ _ ⟨rfl, rfl⟩
 refine At.p (some 17) (P_move rfl rfl) ?_
 refine At.p (some 20) (P_extract rfl rfl rfl) ?_
 refine At.p (some 21) (P_extract rfl rfl rfl) ?_
 refine At.p (some 22) (P_extract rfl rfl rfl) ?_
 refine At.p (some 23) (P_extract rfl rfl rfl) ?_
 refine At.p (some 5) (P_assign rfl rfl) ?_
 refine At.p (some 6) (P_assign rfl rfl) ?_
 refine At.p (some 7) (P_assign rfl rfl) ?_
 refine At.p (some 8) (P_assign rfl rfl) ?_
 refine At.nil ?_
 refine At.next ?_
 refine At.seq ?_
 refine At.seq ?_
 refine At.region ?_
 refine At.p (some 24) (P_move rfl rfl) ?_
 refine At.p (some 25) (P_cmp rfl rfl rfl rfl rfl rfl) ?_
 refine At.nil ?_
 refine At.next ?_
 refine At.cond rfl (fun h25 => by exact absurd h25 (by decide)) (fun h25 => ?_)
 have e25 : 0 = 0 := bne_eq_false_iff_eq.1 h25
 refine At.skip ?_
 refine At.next ?_
 refine At.seq ?_
 refine At.region ?_
 refine At.p (some 27) (P_move rfl rfl) ?_
 refine At.p (some 28) (P_add_w (a := 0#64) UK.u64 (b := 1#64) rfl rfl rfl) ?_
 refine At.p (some 5) (P_assign rfl rfl) ?_
 refine At.nil ?_
 refine At.next ?_
 refine At.seq ?_
 refine At.region ?_
 refine At.p (some 29) (P_move rfl rfl) ?_
 refine At.p (some 30) (P_rem_w (a := 1#64) UK.u64 (b := 2#64) rfl rfl rfl (by decide)) ?_
 refine At.p (some 31) (P_conv_Wi rfl Try.underlying22 Try.underlying3 rfl) ?_
 refine At.p (some 9) (P_assign rfl rfl) ?_
 refine At.nil ?_
 refine At.next ?_
 refine At.seq ?_
 refine At.seq ?_
 refine At.region ?_
 refine At.p (some 32) (P_move rfl rfl) ?_
 refine At.p (some 33) (P_move rfl rfl) ?_
 refine At.p (some 34) (P_sub_i (a := 1) (b := 1) rfl rfl rfl (by decide)) ?_
 refine At.s (S_makeN (some 35) 35 (n := 64) (cs := ((List.replicate 64 0#8)).map u8V) rfl Try.underlying27 sz5 by5 ze5 rfl rfl (by omega) (by omega) (by omega) (by omega) ((made_one (n := 64) (by omega)).trans (by rw [List.map_replicate]; rfl)) (fun b35 => ?_))
 have : (splice S (0 * 64) (List.replicate 64 0#8)).length = nD * 64 := splice_len (by assumption) (by have hx : (List.replicate 64 0#8).length = 64 := LN; omega)
 refine At.s (S_callR (some 36) [(0, _), (1, _)] [(35, _)] [0, 1] (vs := [_, _, _]) rfl en11 rfl (ON rfl rfl (ON rfl rfl O0)) (by simp) (VN (by simp) rfl View.all V0) (by simp) (c_WriteH (n := nD) (c := cD) (b := bD) (bs := bS) (wr := wr) (rest := rD) (k := 0) (S := S) (l := (List.replicate 64 0#8)) (A := (some ⟨b35, 0, none⟩)) (nl := 64) (ca := 64) (bq := b35) (q := 0) (by omega) (by omega) (by omega) (by omega) (by omega) (by omega) LN (by omega) (fun _ => rfl)) (by rintro _ _ ⟨rfl, rfl⟩; rfl) ?_)
 rintro _ _ ⟨rfl, rfl⟩
 refine At.p (some 10) (P_assign rfl rfl) ?_
 refine At.nil ?_
 refine At.next ?_
 refine At.seq ?_
 refine At.region ?_
 refine At.p (some 37) (P_move rfl rfl) ?_
 refine At.p (some 38) (P_cmp rfl rfl rfl rfl rfl rfl) ?_
 refine At.nil ?_
 refine At.next ?_
 refine At.cond rfl (fun h38 => by exact absurd h38 (by decide)) (fun h38 => ?_)
 have e38 : 0 = 0 := bne_eq_false_iff_eq.1 h38
 refine At.skip ?_
 refine At.next ?_
 refine At.seq ?_
 refine At.seq ?_
 refine At.region ?_
 refine At.p (some 40) (P_move rfl rfl) ?_
 refine At.p (some 41) (P_move rfl rfl) ?_
 refine At.p (some 42) (P_move rfl rfl) ?_
 refine At.s (S_callV (some 43) [] [43] (vs := [_, _]) rfl en45 rfl V0 (by simp) (c_slot (gen := (1#64)) (area := 0) ) (by rintro _ _ ⟨A43, b43, c43, g43a, g43b, rfl, rfl⟩; rfl) ?_)
 rintro _ _ ⟨A43, b43, c43, g43a, g43b, rfl, rfl⟩
 have := slotB_len (1#64) 0
 have : (splice (splice S (0 * 64) (List.replicate 64 0#8)) (1 * 64) (slotB (1#64) 0)).length = nD * 64 := splice_len (by assumption) (by have hx : (slotB (1#64) 0).length = ((slotB (1#64) 0).length) := LN; omega)
 refine At.s (S_callR (some 44) [(0, _), (1, _)] [(43, _)] [0, 1] (vs := [_, _, _]) rfl en11 rfl (ON rfl rfl (ON rfl rfl O0)) (by simp) (VN (by simp) rfl View.all V0) (by simp) (c_WriteH (n := nD) (c := cD) (b := bD) (bs := bS) (wr := (wr + 1)) (rest := rD) (k := 1) (S := (splice S (0 * 64) (List.replicate 64 0#8))) (l := (slotB (1#64) 0)) (A := A43) (nl := ((slotB (1#64) 0).length)) (ca := c43) (bq := b43) (q := 0) (by omega) (by omega) (by omega) (by omega) (by omega) (by omega) LN (by omega) (fun h => g43a (by omega))) (by rintro _ _ ⟨rfl, rfl⟩; rfl) ?_)
 rintro _ _ ⟨rfl, rfl⟩
 refine At.p (some 11) (P_assign rfl rfl) ?_
 refine At.nil ?_
 refine At.next ?_
 refine At.seq ?_
 refine At.region ?_
 refine At.p (some 45) (P_move rfl rfl) ?_
 refine At.p (some 46) (P_cmp rfl rfl rfl rfl rfl rfl) ?_
 refine At.nil ?_
 refine At.next ?_
 refine At.cond rfl (fun h46 => by exact absurd h46 (by decide)) (fun h46 => ?_)
 have e46 : 0 = 0 := bne_eq_false_iff_eq.1 h46
 refine At.skip ?_
 refine At.next ?_
 refine At.seq ?_
 refine At.region ?_
 refine At.p (some 48) (P_move rfl rfl) ?_
 refine At.p (some 49) (P_move rfl rfl) ?_
 refine At.p (some 50) (P_build_struct (parts := _) (vs := [(0, _), (1, _)]) rfl Try.underlying82 ze82 pl82 rfl rfl) ?_
 refine At.s (S_box (some 51) 51 (zs := [ptr bD 0, u64V (1#64), iV 0, .slice none 0 0, iV 0, .bool false]) rfl rfl rfl (fun b51 => ?_))
 refine At.p (some 2) (P_assign rfl rfl) ?_
 refine At.p (some 3) (P_assign rfl rfl) ?_
 refine At.nil ?_
 refine At.next ?_
 refine At.ret ?_
 refine At.give (.inl rfl) [0, 1, 51] (rows' := [_, _, _]) (vs := [_, _]) rfl ⟨rfl, rfl, trivial⟩ rfl (by simp) (by simp [dH, rowD, rowS]) ⟨b51, rfl, rfl⟩


end Go.Proofs.Ytdingfinclcbgaa

