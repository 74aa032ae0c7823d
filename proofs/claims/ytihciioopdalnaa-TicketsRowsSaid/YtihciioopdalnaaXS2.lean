import Derived.Test.YtihciioopdalnaaXS1
import Derived.Test.YtihciioopdalnaaG1
namespace Go.Proofs.Ytihciioopdalnaa
set_option maxRecDepth 20000
set_option linter.unusedVariables false
set_option linter.unusedSimpArgs false
open Go.SE Go.RowKit
theorem mul256 (w : BitVec 32) (c : BitVec 8) : w * 256#32 + c.setWidth 32 = w <<< 8 ||| c.setWidth 32 := by
 have e : w * 256#32 = w <<< 8 := by
  apply BitVec.eq_of_toNat_eq
  rw [BitVec.toNat_mul, BitVec.toNat_shiftLeft, Nat.shiftLeft_eq]
  rfl
 rw [e]
 apply BitVec.add_eq_or_of_and_eq_zero
 apply BitVec.eq_of_getLsbD_eq
 intro i hi
 simp only [BitVec.getLsbD_and, BitVec.getLsbD_shiftLeft, BitVec.getLsbD_setWidth, BitVec.getLsbD_zero]
 by_cases h : i < 8
 · simp [h]
 ·
  rw [BitVec.getLsbD_of_ge c i (by omega)]
  simp
def sR (b : List (BitVec 8)) (i : Nat) : List (BitVec 32) := if i < 16 then wTo b (4 * i) else sTo b (i - 16)
theorem sR_len (b : List (BitVec 8)) (i : Nat) : (sR b i).length = 64 := by
 unfold sR
 split
 · exact wTo_len _ _
 · exact sTo_len _ _
theorem sR_low (b : List (BitVec 8)) {i : Nat} (h : i < 16) : sR b (i + 1) = wTo b (4 * i + 4) := by
 unfold sR
 by_cases h1 : i + 1 < 16
 ·
  rw [if_pos h1]
  congr 1
 ·
  rw [if_neg h1, show i + 1 - 16 = 0 by omega, show 4 * i + 4 = 64 by omega]
  rfl
theorem sR_high (b : List (BitVec 8)) {i : Nat} (h : 16 ≤ i) (hi : i < 64) : sR b (i + 1) = (sR b i).set i (sprAt (sR b i) i) := by
 unfold sR
 rw [if_neg (by omega), if_neg (by omega), show i + 1 - 16 = (i - 16) + 1 by omega, sTo, show 16 + (i - 16) = i by omega]
theorem spr_ref (w : List (BitVec 32)) (i : Nat) : (rotR (w.getD (i - 2) 0#32) 17 ^^^ rotR (w.getD (i - 2) 0#32) 19 ^^^ w.getD (i - 2) 0#32 >>> 10) + w.getD (i - 7) 0#32 + (rotR (w.getD (i - 15) 0#32) 7 ^^^ rotR (w.getD (i - 15) 0#32) 18 ^^^ w.getD (i - 15) 0#32 >>> 3) + w.getD (i - 16) 0#32 = sprAt w i := by
 unfold sprAt
 generalize rotR (w.getD (i - 2) 0#32) 17 ^^^ rotR (w.getD (i - 2) 0#32) 19 ^^^ w.getD (i - 2) 0#32 >>> 10 = a
 generalize rotR (w.getD (i - 15) 0#32) 7 ^^^ rotR (w.getD (i - 15) 0#32) 18 ^^^ w.getD (i - 15) 0#32 >>> 3 = b
 generalize w.getD (i - 7) 0#32 = c
 generalize w.getD (i - 16) 0#32 = d
 rw [BitVec.add_comm d c, BitVec.add_assoc c d b, BitVec.add_comm d b, BitVec.add_comm (c + (b + d)) a, BitVec.add_assoc a c b, BitVec.add_assoc, BitVec.add_assoc]
def pickB (a b c : BitVec 32) (most : Bool) : BitVec 32 := if most then majS a b c else chS a b c
def bitW (a : BitVec 32) (i : Nat) : BitVec 32 := a >>> i &&& 1#32
theorem bitW_eq (a : BitVec 32) (i : Nat) : bitW a i = if a.getLsbD i then 1#32 else 0#32 := by
 unfold bitW
 rw [BitVec.and_one_eq_setWidth_ofBool_getLsbD]
 rw [BitVec.getLsbD_ushiftRight, Nat.add_zero]
 cases a.getLsbD i <;> rfl
def pickW (a b c : BitVec 32) (most : Bool) (i : Nat) : BitVec 32 := if most then (bitW a i + bitW b i + bitW c i) / 2#32 else if bitW a i = 1#32 then bitW b i else bitW c i
theorem pickW_eq (a b c : BitVec 32) (most : Bool) (i : Nat) (hi : i < 32) : pickW a b c most i = if (pickB a b c most).getLsbD i then 1#32 else 0#32 := by
 unfold pickW pickB majS chS
 rw [bitW_eq, bitW_eq, bitW_eq]
 cases most
 ·
  simp only [Bool.false_eq_true, if_false, BitVec.getLsbD_or, BitVec.getLsbD_and, BitVec.getLsbD_not, hi, decide_true, Bool.true_and]
  cases a.getLsbD i <;> cases b.getLsbD i <;> cases c.getLsbD i <;> decide
 ·
  simp only [if_true, BitVec.getLsbD_or, BitVec.getLsbD_and]
  cases a.getLsbD i <;> cases b.getLsbD i <;> cases c.getLsbD i <;> decide
theorem fill8 (n0 n1 n2 n3 n4 n5 n6 n7 : Int) : Instr.fill (fun i => some (i * 1, 1)) (Value.cells (.agg (List.replicate 8 (.int .u32 0)).toArray)) [(0, .int .u32 n0), (1, .int .u32 n1), (2, .int .u32 n2), (3, .int .u32 n3), (4, .int .u32 n4), (5, .int .u32 n5), (6, .int .u32 n6), (7, .int .u32 n7)] = some [Value.int .u32 n0, .int .u32 n1, .int .u32 n2, .int .u32 n3, .int .u32 n4, .int .u32 n5, .int .u32 n6, .int .u32 n7].toArray := by kernel_rfl
def lowB (z : BitVec 32) (i : Nat) (o : BitVec 32) : Prop := ∀ j, j < 32 → o.getLsbD j = (decide (j < i) && z.getLsbD j)
theorem lowB_0 (z : BitVec 32) : lowB z 0 0#32 := fun j _ => by simp
theorem lowB_step {z o : BitVec 32} {i : Nat} (h : lowB z i o) (hi : i < 32) : lowB z (i + 1) (o ||| (if z.getLsbD i then 1#32 else 0#32) <<< i) := fun j hj => by
 rw [BitVec.getLsbD_or, h j hj, BitVec.getLsbD_shiftLeft]
 by_cases e : j = i
 ·
  subst e
  cases z.getLsbD j <;> simp [hj]
 ·
  by_cases e2 : j < i
  ·
   have : j < i + 1 := by omega
   simp [e2, this]
  ·
   have e3 : ¬ j < i + 1 := by omega
   have e4 : ¬ j - i = 0 := by omega
   cases z.getLsbD i <;> simp [e2, e3, e4]
theorem lowB_fin {z o : BitVec 32} (h : lowB z 32 o) : o = z := by
 apply BitVec.eq_of_getLsbD_eq
 intro j hj
 rw [h j hj]
 simp [hj]

theorem r_turn (x : BitVec 32) (k : Nat) (h0 : 0 < k) (hk : k < 32) :
  Con Try.prog 80 [u32V x, iV (k : Int)] [] (fun v rs => v = u32V (rotR x k) ∧ rs = []) := by
 refine Con.enter Try.func80 Try.ntmps80 (Nat.le_of_ble_eq_true rfl) rfl fun w => ?_
 refine At.seq ?_
 refine At.region ?_
 refine At.p (some 4) (P_assign rfl rfl) ?_
 refine At.nil ?_
 refine At.next ?_
 refine At.seq ?_
 refine At.draws 7 [] [.q false [0, 1, 2, 3, 4, 5, 6]] (by kernel_rfl) (by kernel_rfl) ?_
 refine At.wp (some 5) (P_move rfl rfl) ?_
 refine At.wp (some 6) (P_move rfl rfl) ?_
 refine At.wp (some 7) (P_shr_w UK.u32 (n := 32) rfl rfl rfl (by first | decide | omega)) ?_
 refine At.wp (some 8) (P_move rfl rfl) ?_
 refine At.wp (some 9) (P_move rfl rfl) ?_
 refine At.wp (some 10) (P_sub_i rfl rfl rfl (by omega)) ?_
 refine At.wp (some 11) (P_shl_w UK.u32 (n := 32) rfl rfl rfl (by first | decide | omega)) ?_
 refine At.wqn ?_
 refine At.wt rfl ?_
 refine At.p (some 12) (P_or_w UK.u32 rfl rfl rfl) ?_
 refine At.p (some 4) (P_assign rfl rfl) ?_
 refine At.nil ?_
 refine At.next ?_
 refine At.ret ?_
 refine At.give (.inl rfl) [] (rows' := []) (vs := [_]) rfl ⟨rfl, trivial⟩ rfl (by simp) (by simp) ⟨congrArg u32V (by rw [show (32 - (k : Int)).toNat = 32 - k by omega, BitVec.or_comm]; rfl), rfl⟩

theorem r_bits (a b c : BitVec 32) (most : Bool) :
  Con Try.prog 81 [u32V a, u32V b, u32V c, .bool most] [] (fun v rs => v = u32V (pickB a b c most) ∧ rs = []) := by
 refine Con.enter Try.func81 Try.ntmps81 (Nat.le_of_ble_eq_true rfl) rfl fun w => ?_
 refine At.seq ?_
 refine At.region ?_
 refine At.p (some 8) (P_assign rfl rfl) ?_
 refine At.nil ?_
 refine At.next ?_
 refine At.seq ?_
 refine At.region ?_
 refine At.p (some 9) (P_assign rfl rfl) ?_
 refine At.nil ?_
 refine At.next ?_
 refine At.seq ?_
 refine At.seq ?_
 refine At.region ?_
 refine At.p (some 10) (P_assign rfl rfl) ?_
 refine At.nil ?_
 refine At.next ?_
 refine At.block ?_
 refine At.loopx (I := fun m fr H => ∃ (i : Nat) (o : BitVec 32), m = 32 - i ∧ fr = frOf [(0, u32V a), (1, u32V b), (2, u32V c), (3, .bool most), (9, u32V o), (10, iV (i : Int))] ∧ H = hOf [] ∧ i ≤ 32 ∧ lowB (pickB a b c most) i o) ?_ ?_
 ·
  intro Kc0 hKc0
  refine At.to [(0, _), (1, _), (2, _), (3, _), (9, _), (10, _)] [] (AllL.cons_ (rfl) (AllL.cons_ (rfl) (AllL.cons_ (rfl) (AllL.cons_ (rfl) (AllL.cons_ (rfl) (AllL.cons_ (rfl) trivial)))))) trivial ?_
  exact hKc0 _ _ _ ⟨0, 0#32, rfl, rfl, rfl, by omega, lowB_0 _⟩
 ·
  rintro m fr H ⟨i, o, rfl, rfl, rfl, hi, ho⟩ Kc0 hKc0
  refine At.seq ?_
  refine At.seq ?_
  refine At.region ?_
  refine At.p (some 15) (P_move rfl rfl) ?_
  refine At.p (some 16) (P_cmp rfl rfl rfl rfl rfl rfl) ?_
  refine At.nil ?_
  refine At.next ?_
  refine At.cond rfl (fun h16 => ?_) (fun h16 => ?_)
  · -- cond 16 t
   have hlt : i < 32 := by simp at h16; omega
   refine At.skip ?_
   refine At.next ?_
   refine At.seq ?_
   refine At.block ?_
   refine At.seq ?_
   refine At.draws 14 [] [.q false [0, 1, 2, 3, 4, 5, 6, 7, 8, 9, 10, 11, 12, 13]] (by kernel_rfl) (by kernel_rfl) ?_
   refine At.wp (some 19) (P_move rfl rfl) ?_
   refine At.wp (some 20) (P_move rfl rfl) ?_
   refine At.wp (some 21) (P_shr_w UK.u32 (n := 32) rfl rfl rfl (by first | decide | omega)) ?_
   refine At.wp (some 22) (P_and_w UK.u32 (b := 1#32) rfl rfl rfl) ?_
   refine At.wp (some 23) (P_move rfl rfl) ?_
   refine At.wp (some 24) (P_move rfl rfl) ?_
   refine At.wp (some 25) (P_shr_w UK.u32 (n := 32) rfl rfl rfl (by first | decide | omega)) ?_
   refine At.wp (some 26) (P_and_w UK.u32 (b := 1#32) rfl rfl rfl) ?_
   refine At.wp (some 27) (P_move rfl rfl) ?_
   refine At.wp (some 28) (P_move rfl rfl) ?_
   refine At.wp (some 29) (P_shr_w UK.u32 (n := 32) rfl rfl rfl (by first | decide | omega)) ?_
   refine At.wp (some 30) (P_and_w UK.u32 (b := 1#32) rfl rfl rfl) ?_
   refine At.wp (some 11) (P_assign rfl rfl) ?_
   refine At.wp (some 12) (P_assign rfl rfl) ?_
   refine At.wqn ?_
   refine At.wt rfl ?_
   refine At.p (some 13) (P_assign rfl rfl) ?_
   refine At.nil ?_
   refine At.next ?_
   refine At.seq ?_
   refine At.region ?_
   refine At.p (some 31) (P_move rfl rfl) ?_
   refine At.p (some 14) (P_assign rfl rfl) ?_
   refine At.nil ?_
   refine At.next ?_
   refine At.seq ?_
   refine At.seq ?_
   refine At.region ?_
   refine At.p (some 32) (P_move rfl rfl) ?_
   refine At.nil ?_
   refine At.next ?_
   refine At.cond rfl (fun h32 => ?_) (fun h32 => ?_)
   · -- cond 32 t
    have hnx : lowB (pickB a b c most) (i + 1) (o ||| (((a >>> (i : Int).toNat &&& 1#32) + (b >>> (i : Int).toNat &&& 1#32) + (c >>> (i : Int).toNat &&& 1#32)) / 2#32) <<< (i : Int).toNat) := by
     have h1 := lowB_step ho hlt
     rw [← pickW_eq a b c most i hlt] at h1
     have h2 : pickW a b c most i = ((a >>> (i : Int).toNat &&& 1#32) + (b >>> (i : Int).toNat &&& 1#32) + (c >>> (i : Int).toNat &&& 1#32)) / 2#32 := by simp_all [pickW, bitW]
     rw [h2] at h1
     exact h1
    refine At.region ?_
    refine At.p (some 33) (P_move rfl rfl) ?_
    refine At.p (some 34) (P_move rfl rfl) ?_
    refine At.p (some 35) (P_add_w UK.u32 rfl rfl rfl) ?_
    refine At.p (some 36) (P_move rfl rfl) ?_
    refine At.p (some 37) (P_add_w UK.u32 rfl rfl rfl) ?_
    refine At.p (some 38) (P_quo_w UK.u32 (b := 2#32) rfl rfl rfl (by decide)) ?_
    refine At.p (some 14) (P_assign rfl rfl) ?_
    refine At.nil ?_
    refine At.next ?_
    refine At.region ?_
    refine At.p (some 42) (P_move rfl rfl) ?_
    refine At.p (some 43) (P_move rfl rfl) ?_
    refine At.p (some 44) (P_move rfl rfl) ?_
    refine At.p (some 45) (P_shl_w UK.u32 (n := 32) rfl rfl rfl (by first | decide | omega)) ?_
    refine At.p (some 46) (P_or_w UK.u32 rfl rfl rfl) ?_
    refine At.p (some 9) (P_assign rfl rfl) ?_
    refine At.nil ?_
    refine At.inb_n ?_
    refine At.next ?_
    refine At.region ?_
    refine At.p (some 17) (P_move rfl rfl) ?_
    refine At.p (some 18) (P_add_i rfl rfl rfl (by omega)) ?_
    refine At.p (some 10) (P_assign rfl rfl) ?_
    refine At.nil ?_
    refine At.next ?_
    refine At.to [(0, _), (1, _), (2, _), (3, _), (9, _), (10, _)] [] (AllL.cons_ (rfl) (AllL.cons_ (rfl) (AllL.cons_ (rfl) (AllL.cons_ (rfl) (AllL.cons_ (rfl) (AllL.cons_ (rfl) trivial)))))) trivial ?_
    exact hKc0 _ _ _ (by omega) ⟨i + 1, _, rfl, rfl, rfl, by omega, hnx⟩
   · -- cond 32 f
    refine At.seq ?_
    refine At.region ?_
    refine At.p (some 39) (P_move rfl rfl) ?_
    refine At.p (some 40) (P_eql_w (n := 32) (b := 1#32) rfl rfl rfl) ?_
    refine At.nil ?_
    refine At.next ?_
    refine At.cond rfl (fun h40 => ?_) (fun h40 => ?_)
    · -- cond 40 t
     have hnx : lowB (pickB a b c most) (i + 1) (o ||| (b >>> (i : Int).toNat &&& 1#32) <<< (i : Int).toNat) := by
      have h1 := lowB_step ho hlt
      rw [← pickW_eq a b c most i hlt] at h1
      have h2 : pickW a b c most i = b >>> (i : Int).toNat &&& 1#32 := by simp_all [pickW, bitW]
      rw [h2] at h1
      exact h1
     refine At.region ?_
     refine At.p (some 41) (P_move rfl rfl) ?_
     refine At.p (some 14) (P_assign rfl rfl) ?_
     refine At.nil ?_
     refine At.next ?_
     refine At.region ?_
     refine At.p (some 42) (P_move rfl rfl) ?_
     refine At.p (some 43) (P_move rfl rfl) ?_
     refine At.p (some 44) (P_move rfl rfl) ?_
     refine At.p (some 45) (P_shl_w UK.u32 (n := 32) rfl rfl rfl (by first | decide | omega)) ?_
     refine At.p (some 46) (P_or_w UK.u32 rfl rfl rfl) ?_
     refine At.p (some 9) (P_assign rfl rfl) ?_
     refine At.nil ?_
     refine At.inb_n ?_
     refine At.next ?_
     refine At.region ?_
     refine At.p (some 17) (P_move rfl rfl) ?_
     refine At.p (some 18) (P_add_i rfl rfl rfl (by omega)) ?_
     refine At.p (some 10) (P_assign rfl rfl) ?_
     refine At.nil ?_
     refine At.next ?_
     refine At.to [(0, _), (1, _), (2, _), (3, _), (9, _), (10, _)] [] (AllL.cons_ (rfl) (AllL.cons_ (rfl) (AllL.cons_ (rfl) (AllL.cons_ (rfl) (AllL.cons_ (rfl) (AllL.cons_ (rfl) trivial)))))) trivial ?_
     exact hKc0 _ _ _ (by omega) ⟨i + 1, _, rfl, rfl, rfl, by omega, hnx⟩
    · -- cond 40 f
     have hnx : lowB (pickB a b c most) (i + 1) (o ||| (c >>> (i : Int).toNat &&& 1#32) <<< (i : Int).toNat) := by
      have h1 := lowB_step ho hlt
      rw [← pickW_eq a b c most i hlt] at h1
      have h2 : pickW a b c most i = c >>> (i : Int).toNat &&& 1#32 := by simp_all [pickW, bitW]
      rw [h2] at h1
      exact h1
     refine At.skip ?_
     refine At.next ?_
     refine At.region ?_
     refine At.p (some 42) (P_move rfl rfl) ?_
     refine At.p (some 43) (P_move rfl rfl) ?_
     refine At.p (some 44) (P_move rfl rfl) ?_
     refine At.p (some 45) (P_shl_w UK.u32 (n := 32) rfl rfl rfl (by first | decide | omega)) ?_
     refine At.p (some 46) (P_or_w UK.u32 rfl rfl rfl) ?_
     refine At.p (some 9) (P_assign rfl rfl) ?_
     refine At.nil ?_
     refine At.inb_n ?_
     refine At.next ?_
     refine At.region ?_
     refine At.p (some 17) (P_move rfl rfl) ?_
     refine At.p (some 18) (P_add_i rfl rfl rfl (by omega)) ?_
     refine At.p (some 10) (P_assign rfl rfl) ?_
     refine At.nil ?_
     refine At.next ?_
     refine At.to [(0, _), (1, _), (2, _), (3, _), (9, _), (10, _)] [] (AllL.cons_ (rfl) (AllL.cons_ (rfl) (AllL.cons_ (rfl) (AllL.cons_ (rfl) (AllL.cons_ (rfl) (AllL.cons_ (rfl) trivial)))))) trivial ?_
     exact hKc0 _ _ _ (by omega) ⟨i + 1, _, rfl, rfl, rfl, by omega, hnx⟩
  · -- cond 16 f
   obtain rfl : i = 32 := by simp at h16; omega
   refine At.exit ?_
   refine At.thn_e ?_
   refine At.thn_e ?_
   refine At.inb_hit ?_
   refine At.next ?_
   refine At.seq ?_
   refine At.region ?_
   refine At.p (some 47) (P_move rfl rfl) ?_
   refine At.p (some 8) (P_assign rfl rfl) ?_
   refine At.nil ?_
   refine At.next ?_
   refine At.ret ?_
   refine At.give (.inl rfl) [] (rows' := []) (vs := [_]) rfl ⟨rfl, trivial⟩ rfl (by simp) (by simp) ⟨congrArg u32V (lowB_fin ho), rfl⟩

theorem r_ch (a b c : BitVec 32) : Con Try.prog 81 [u32V a, u32V b, u32V c, .bool false] [] (fun v rs => v = u32V (chS a b c) ∧ rs = []) := r_bits a b c false
theorem r_maj (a b c : BitVec 32) : Con Try.prog 81 [u32V a, u32V b, u32V c, .bool true] [] (fun v rs => v = u32V (majS a b c) ∧ rs = []) := r_bits a b c true

theorem r_consts  :
  Con Try.prog 79 [] [] (fun v rs => v = agg32 KK ∧ rs = []) := by
 refine Con.enter Try.func79 Try.ntmps79 (Nat.le_of_ble_eq_true rfl) rfl fun w => ?_
 refine At.seq ?_
 refine At.region ?_
 refine At.s (S_alloc (some 0) 0 (zs := (List.replicate 64 0#32).map u32V) rfl ze121 rfl (fun b0 => ?_))
 refine At.nil ?_
 refine At.next ?_
 refine At.seq ?_
 refine At.region ?_
 refine At.p (some 1) (P_build_arr (cs := (KK.map u32V).toArray) (parts := _) (vs := [(0, _), (1, _), (2, _), (3, _), (4, _), (5, _), (6, _), (7, _), (8, _), (9, _), (10, _), (11, _), (12, _), (13, _), (14, _), (15, _), (16, _), (17, _), (18, _), (19, _), (20, _), (21, _), (22, _), (23, _), (24, _), (25, _), (26, _), (27, _), (28, _), (29, _), (30, _), (31, _), (32, _), (33, _), (34, _), (35, _), (36, _), (37, _), (38, _), (39, _), (40, _), (41, _), (42, _), (43, _), (44, _), (45, _), (46, _), (47, _), (48, _), (49, _), (50, _), (51, _), (52, _), (53, _), (54, _), (55, _), (56, _), (57, _), (58, _), (59, _), (60, _), (61, _), (62, _), (63, _)]) rfl Try.underlying121 sz114 ze121 rfl rfl) ?_
 refine At.s (S_storeA none (k := 0) (vs := _) rfl rfl rfl (by first | (rw [sz121]; simp <;> omega) | exact sz121) rfl WA WB rfl WC ?_)
 refine At.nil ?_
 refine At.next ?_
 refine At.ret ?_
 refine At.giveV (.inl rfl) [] (rows' := []) (ResV.cellA (k := 0) rfl rfl Try.underlying121 rfl sz121 rfl rfl) rfl (by simp) (by simp) ?_
 exact ⟨rfl, rfl⟩

set_option maxHeartbeats 2000000 in
theorem r_Sum (A : Option Addr) (l : List (BitVec 8)) (ca bq q : Nat) (hA : 0 < l.length → A = some ⟨bq, q, none⟩) (hl : l.length ≤ 1000000) :
  Con Try.prog 56 [.slice A l.length ca] [pRow bq q l] (fun v rs => v = aggK (sumS l) ∧ rs = []) := by
 refine Con.enter Try.func56 Try.ntmps56 (Nat.le_of_ble_eq_true rfl) rfl fun w => ?_
 refine At.seq ?_
 have hzl := padZ_lt l.length
 have hpm := padS_mod l
 have hpl := padS_len l
 have hKK : KK.length = 64 := rfl
 refine At.region ?_
 refine At.s (S_alloc (some 2) 2 (zs := (List.replicate 32 0#8).map u8V) rfl ze23 rfl (fun b2 => ?_))
 refine At.nil ?_
 refine At.next ?_
 refine At.seq ?_
 refine At.region ?_
 refine At.s (S_buildSlice0 (some 21) 21 rfl Try.underlying22 sz5 (fun b21 => ?_))
 refine At.p (some 22) (P_move rfl rfl) ?_
 refine At.s (S_appendM (some 23) 21 (l) (f := u8V) (l := []) (L := l) rfl Try.underlying22 Try.underlying22 (.inr ⟨_, rfl⟩) sz5 by5 ze5 rfl rfl (fun h => ⟨absurd h (by omega), rfl⟩) rfl rfl (Src.row (k := 0) (j := 0) rfl hA (fun _ => ⟨rfl, rfl, rfl⟩) (by simp [pRow, List.take_of_length_le]) (by simp)) (fun _ => rfl) (by omega) (by omega) rfl rfl ?_)
 intro A8 b8 c8 g8a g8b
 refine At.s (S_buildSliceV (some 24) 24 ([128#8].map u8V) rfl Try.underlying22 sz5 ze5 rfl rfl (by decide) (by decide) rfl rfl (fun b24 => ?_))
 refine At.s (S_appendM (some 25) 21 (padA l 0) (f := u8V) (l := l) (L := [128#8]) rfl Try.underlying22 Try.underlying22 (.inr ⟨_, rfl⟩) sz5 by5 ze5 rfl rfl (fun h => ⟨g8a h, rfl⟩) rfl (by omega) (Src.row (k := 24) (j := 0) rfl (fun _ => rfl) (fun _ => ⟨rfl, rfl, rfl⟩) rfl rfl) (fun _ => rfl) (by omega) (by omega) rfl rfl ?_)
 intro A3 b3 c3 hA3 hc3
 refine At.p (some 3) (P_assign rfl rfl) ?_
 refine At.nil ?_
 refine At.next ?_
 refine At.seq ?_
 refine At.block ?_
 refine At.loopx (I := fun m fr H => ∃ (z b3 c3 : Nat) (A3 : Option Addr), m = padZ l.length - z ∧ fr = frOf [(0, .slice A l.length ca), (2, ptr b2 0), (3, .slice A3 (padA l z).length c3)] ∧ H = hOf [(0, pRow bq q l), (2, ⟨true, b2, 0, 23, (List.replicate 32 0#8).map u8V, 0⟩), (21, ⟨true, b3, 0, 5, (padA l z).map u8V, c3 - (padA l z).length⟩)] ∧ z ≤ padZ l.length ∧ (0 < c3 → A3 = some ⟨b3, 0, none⟩) ∧ (padA l z).length ≤ c3) ?_ ?_
 ·
  intro Kc0 hKc0
  refine At.to [(0, _), (2, _), (3, _)] [(0, _), (2, _), (21, ⟨true, b3, 0, 5, (padA l 0).map u8V, c3 - (padA l 0).length⟩)] (AllL.cons_ (rfl) (AllL.cons_ (rfl) (AllL.cons_ (rfl) trivial))) (AllL.cons_ (rfl) (AllL.cons_ (rfl) (AllL.cons_ (rfl) trivial))) ?_
  exact hKc0 _ _ _ ⟨0, b3, c3, A3, rfl, rfl, rfl, by omega, hA3, hc3⟩
 ·
  rintro m fr H ⟨z, b3, c3, A3, rfl, rfl, rfl, hz, hA3, hc3⟩ Kc0 hKc0
  refine At.seq ?_
  refine At.seq ?_
  refine At.region ?_
  refine At.p (some 26) (P_move rfl rfl) ?_
  refine At.p (some 27) (P_len_sl rfl rfl ⟨_, Try.underlying22⟩ rfl) ?_
  refine At.p (some 28) (P_rem_i rfl rfl rfl (by omega) (by first | decide | omega)) ?_
  refine At.p (some 29) (P_cmp rfl rfl rfl rfl rfl rfl) ?_
  refine At.nil ?_
  refine At.next ?_
  refine At.cond rfl (fun h29 => ?_) (fun h29 => ?_)
  · -- cond 29 t
   have hal := padA_len l z
   have hlt : z < padZ l.length := by
    have h2 : ¬ ((padA l z).length : Int) % 64 = 56 := by simpa using h29
    unfold padZ at *
    omega
   refine At.skip ?_
   refine At.next ?_
   refine At.block ?_
   refine At.region ?_
   refine At.p (some 30) (P_move rfl rfl) ?_
   refine At.s (S_buildSliceV (some 31) 31 ([0#8].map u8V) rfl Try.underlying22 sz5 ze5 rfl rfl (by decide) (by decide) rfl rfl (fun b31 => ?_))
   refine At.s (S_appendM (some 32) 21 (padA l (z + 1)) (f := u8V) (l := padA l z) (L := [0#8]) rfl Try.underlying22 Try.underlying22 (.inr ⟨_, rfl⟩) sz5 by5 ze5 rfl rfl (fun h => ⟨hA3 h, rfl⟩) rfl (by omega) (Src.row (k := 31) (j := 0) rfl (fun _ => rfl) (fun _ => ⟨rfl, rfl, rfl⟩) rfl rfl) (fun _ => rfl) (by omega) (by omega) rfl rfl ?_)
   intro A3 b3 c3 g1 g2
   refine At.p (some 3) (P_assign rfl rfl) ?_
   refine At.nil ?_
   refine At.inb_n ?_
   refine At.next ?_
   refine At.to [(0, _), (2, _), (3, _)] [(0, _), (2, _), (21, _)] (AllL.cons_ (rfl) (AllL.cons_ (rfl) (AllL.cons_ (rfl) trivial))) (AllL.cons_ (rfl) (AllL.cons_ (rfl) (AllL.cons_ (rfl) trivial))) ?_
   exact hKc0 _ _ _ (by omega) ⟨z + 1, _, _, _, rfl, rfl, rfl, by omega, g1, g2⟩
  · -- cond 29 f
   have hal := padA_len l z
   have h2 : ((padA l z).length : Int) % 64 = 56 := by simpa using h29
   have hze : z = padZ l.length := by
    unfold padZ at *
    omega
   subst hze
   refine At.exit ?_
   refine At.thn_e ?_
   refine At.thn_e ?_
   refine At.inb_hit ?_
   refine At.next ?_
   refine At.seq ?_
   refine At.region ?_
   refine At.p (some 33) (P_move rfl rfl) ?_
   refine At.p (some 34) (P_len_sl rfl rfl ⟨_, Try.underlying22⟩ rfl) ?_
   refine At.p (some 35) (P_conv_iw UK.u64 rfl Try.underlying3 Try.underlying49 rfl) ?_
   refine At.p (some 36) (P_mul_w UK.u64 (b := 8#64) rfl rfl rfl) ?_
   refine At.p (some 4) (P_assign rfl rfl) ?_
   refine At.nil ?_
   refine At.next ?_
   refine At.seq ?_
   refine At.seq ?_
   refine At.region ?_
   refine At.p (some 5) (P_assign rfl rfl) ?_
   refine At.nil ?_
   refine At.next ?_
   refine At.block ?_
   refine At.loopx (I := fun m fr H => ∃ (e b3 c3 : Nat) (A3 : Option Addr), m = 8 - e ∧ fr = frOf [(2, ptr b2 0), (3, .slice A3 (padC l e).length c3), (4, u64V (bits8 l.length)), (5, iV (7 - (e : Int)))] ∧ H = hOf [(2, ⟨true, b2, 0, 23, (List.replicate 32 0#8).map u8V, 0⟩), (21, ⟨true, b3, 0, 5, (padC l e).map u8V, c3 - (padC l e).length⟩)] ∧ e ≤ 8 ∧ (0 < c3 → A3 = some ⟨b3, 0, none⟩) ∧ (padC l e).length ≤ c3) ?_ ?_
   ·
    intro Kc1 hKc1
    refine At.to [(2, _), (3, .slice A3 (padC l 0).length c3), (4, u64V (bits8 l.length)), (5, iV (7 - ((0 : Nat) : Int)))] [(2, _), (21, ⟨true, b3, 0, 5, (padC l 0).map u8V, c3 - (padC l 0).length⟩)] (AllL.cons_ (rfl) (AllL.cons_ (rfl) (AllL.cons_ (congrArg (fun z => some (u64V z)) (BitVec.mul_comm _ _)) (AllL.cons_ (rfl) trivial)))) (AllL.cons_ (rfl) (AllL.cons_ (rfl) trivial)) ?_
    exact hKc1 _ _ _ ⟨0, b3, c3, A3, rfl, rfl, rfl, by omega, hA3, hc3⟩
   ·
    rintro m fr H ⟨e, b3, c3, A3, rfl, rfl, rfl, he, hA3, hc3⟩ Kc1 hKc1
    refine At.seq ?_
    refine At.seq ?_
    refine At.region ?_
    refine At.p (some 37) (P_move rfl rfl) ?_
    refine At.p (some 38) (P_cmp rfl rfl rfl rfl rfl rfl) ?_
    refine At.nil ?_
    refine At.next ?_
    refine At.cond rfl (fun h38 => ?_) (fun h38 => ?_)
    · -- cond 38 t
     have hlt : e < 8 := by simp at h38; omega
     have hcl := padC_len l e
     refine At.skip ?_
     refine At.next ?_
     refine At.seq ?_
     refine At.block ?_
     refine At.region ?_
     refine At.p (some 41) (P_move rfl rfl) ?_
     refine At.p (some 42) (P_move rfl rfl) ?_
     refine At.p (some 43) (P_move rfl rfl) ?_
     refine At.p (some 44) (P_mul_i rfl rfl rfl (by omega)) ?_
     refine At.p (some 45) (P_shr_w UK.u64 (n := 64) rfl rfl rfl (by first | decide | omega)) ?_
     refine At.p (some 46) (P_conv_ww UK.u8 (m := 64) rfl Try.underlying49 Try.underlying5 rfl) ?_
     refine At.s (S_buildSliceV (some 47) 47 ([(bits8 l.length >>> (8 * (7 - (e : Int))).toNat).setWidth 8].map u8V) rfl Try.underlying22 sz5 ze5 rfl rfl (by decide) (by decide) rfl rfl (fun b47 => ?_))
     refine At.s (S_appendM (some 48) 21 (padC l (e + 1)) (f := u8V) (l := padC l e) (L := [(bits8 l.length >>> (8 * (7 - (e : Int))).toNat).setWidth 8]) rfl Try.underlying22 Try.underlying22 (.inr ⟨_, rfl⟩) sz5 by5 ze5 rfl rfl (fun h => ⟨hA3 h, rfl⟩) rfl (by omega) (Src.row (k := 47) (j := 0) rfl (fun _ => rfl) (fun _ => ⟨rfl, rfl, rfl⟩) rfl rfl) (fun _ => rfl) (by omega) (by omega) (by rw [show (8 * (7 - (e : Int))).toNat = 8 * (7 - e) by omega]; rfl) rfl ?_)
     intro A3 b3 c3 g1 g2
     refine At.p (some 3) (P_assign rfl rfl) ?_
     refine At.nil ?_
     refine At.inb_n ?_
     refine At.next ?_
     refine At.region ?_
     refine At.p (some 39) (P_move rfl rfl) ?_
     refine At.p (some 40) (P_sub_i rfl rfl rfl (by omega)) ?_
     refine At.p (some 5) (P_assign rfl rfl) ?_
     refine At.nil ?_
     refine At.next ?_
     refine At.to [(2, _), (3, _), (4, _), (5, iV (7 - ((e + 1 : Nat) : Int)))] [(2, _), (21, _)] (AllL.cons_ (rfl) (AllL.cons_ (rfl) (AllL.cons_ (rfl) (AllL.cons_ (congrArg (fun z => some (iV z)) (by omega)) trivial)))) (AllL.cons_ (rfl) (AllL.cons_ (rfl) trivial)) ?_
     exact hKc1 _ _ _ (by omega) ⟨e + 1, _, _, _, rfl, rfl, rfl, by omega, g1, g2⟩
    · -- cond 38 f
     obtain rfl : e = 8 := by simp at h38; omega
     rw [padC_8] at hc3 ⊢
     refine At.exit ?_
     refine At.thn_e ?_
     refine At.thn_e ?_
     refine At.inb_hit ?_
     refine At.next ?_
     refine At.seq ?_
     refine At.region ?_
     refine At.p (some 49) (P_build_arr (cs := (H0.map u32V).toArray) (parts := _) (vs := [(0, _), (1, _), (2, _), (3, _), (4, _), (5, _), (6, _), (7, _)]) rfl Try.underlying115 sz114 ze115 rfl rfl) ?_
     refine At.s (S_alloc (some 6) 6 (zs := (List.replicate 8 0#32).map u32V) rfl ze115 rfl (fun b6 => ?_))
     refine At.s (S_storeA none (k := 6) (vs := _) rfl rfl rfl (by first | (rw [sz115]; simp <;> omega) | exact sz115) rfl WA WB rfl WC ?_)
     refine At.nil ?_
     refine At.next ?_
     refine At.seq ?_
     refine At.region ?_
     refine At.s (S_callV (some 50) [] [] (vs := []) rfl en79 rfl V0 (by simp) (r_consts) (by rintro _ _ ⟨rfl, rfl⟩; rfl) ?_)
     rintro _ _ ⟨rfl, rfl⟩
     refine At.s (S_alloc (some 7) 7 (zs := (List.replicate 64 0#32).map u32V) rfl ze121 rfl (fun b7 => ?_))
     refine At.s (S_storeA none (k := 7) (vs := _) rfl rfl rfl (by first | (rw [sz121]; simp <;> omega) | exact sz121) rfl WA WB rfl WC ?_)
     refine At.nil ?_
     refine At.next ?_
     refine At.seq ?_
     refine At.seq ?_
     refine At.region ?_
     refine At.p (some 8) (P_assign rfl rfl) ?_
     refine At.nil ?_
     refine At.next ?_
     refine At.block ?_
     refine At.loopx (I := fun m fr H => ∃ n, m = (padS l).length + 64 - 64 * n ∧ fr = frOf [(2, ptr b2 0), (3, .slice A3 (padS l).length c3), (6, ptr b6 0), (7, ptr b7 0), (8, iV (64 * (n : Int)))] ∧ H = hOf [(2, ⟨true, b2, 0, 23, (List.replicate 32 0#8).map u8V, 0⟩), (21, ⟨true, b3, 0, 5, (padS l).map u8V, c3 - (padS l).length⟩), (6, ⟨true, b6, 0, 115, (hTo l n).map u32V, 0⟩), (7, ⟨true, b7, 0, 121, KK.map u32V, 0⟩)] ∧ 64 * n ≤ (padS l).length) ?_ ?_
     ·
      intro Kc2 hKc2
      refine At.to [(2, _), (3, .slice A3 (padS l).length c3), (6, _), (7, _), (8, iV (64 * ((0 : Nat) : Int)))] [(2, _), (21, ⟨true, b3, 0, 5, (padS l).map u8V, c3 - (padS l).length⟩), (6, ⟨true, b6, 0, 115, (hTo l 0).map u32V, 0⟩), (7, _)] (AllL.cons_ (rfl) (AllL.cons_ (rfl) (AllL.cons_ (rfl) (AllL.cons_ (rfl) (AllL.cons_ (rfl) trivial))))) (AllL.cons_ (rfl) (AllL.cons_ (rfl) (AllL.cons_ (rfl) (AllL.cons_ (rfl) trivial)))) ?_
      exact hKc2 _ _ _ ⟨0, rfl, rfl, rfl, by omega⟩
     ·
      rintro m fr H ⟨n, rfl, rfl, rfl, hnn⟩ Kc2 hKc2
      refine At.seq ?_
      refine At.seq ?_
      refine At.region ?_
      refine At.p (some 51) (P_move rfl rfl) ?_
      refine At.p (some 52) (P_move rfl rfl) ?_
      refine At.p (some 53) (P_len_sl rfl rfl ⟨_, Try.underlying22⟩ rfl) ?_
      refine At.p (some 54) (P_cmp rfl rfl rfl rfl rfl rfl) ?_
      refine At.nil ?_
      refine At.next ?_
      refine At.cond rfl (fun h54 => ?_) (fun h54 => ?_)
      · -- cond 54 t
       have hltn : 64 * n < (padS l).length := by simp at h54; omega
       have hsr0 : (sR (blk l n) 0).length = 64 := sR_len _ _
       have hhl := hTo_len l n
       have hsp : (spreadS (blk l n)).length = 64 := sTo_len _ 48
       refine At.skip ?_
       refine At.next ?_
       refine At.seq ?_
       refine At.block ?_
       refine At.seq ?_
       refine At.region ?_
       refine At.s (S_alloc (some 9) 9 (zs := (sR (blk l n) 0).map u32V) rfl ze121 rfl (fun b9 => ?_))
       refine At.nil ?_
       refine At.next ?_
       refine At.seq ?_
       refine At.seq ?_
       refine At.region ?_
       refine At.p (some 10) (P_assign rfl rfl) ?_
       refine At.nil ?_
       refine At.next ?_
       refine At.block ?_
       refine At.loopx (I := fun m fr H => ∃ i, m = 64 - i ∧ fr = frOf [(2, ptr b2 0), (3, .slice A3 (padS l).length c3), (6, ptr b6 0), (7, ptr b7 0), (8, iV (64 * (n : Int))), (9, ptr b9 0), (10, iV (i : Int))] ∧ H = hOf [(2, ⟨true, b2, 0, 23, (List.replicate 32 0#8).map u8V, 0⟩), (21, ⟨true, b3, 0, 5, (padS l).map u8V, c3 - (padS l).length⟩), (6, ⟨true, b6, 0, 115, (hTo l n).map u32V, 0⟩), (7, ⟨true, b7, 0, 121, KK.map u32V, 0⟩), (9, ⟨true, b9, 0, 121, (sR (blk l n) i).map u32V, 0⟩)] ∧ i ≤ 64) ?_ ?_
       ·
        intro Kc3 hKc3
        refine At.to [(2, _), (3, _), (6, _), (7, _), (8, _), (9, _), (10, _)] [(2, _), (21, _), (6, _), (7, _), (9, ⟨true, b9, 0, 121, (sR (blk l n) 0).map u32V, 0⟩)] (AllL.cons_ (rfl) (AllL.cons_ (rfl) (AllL.cons_ (rfl) (AllL.cons_ (rfl) (AllL.cons_ (rfl) (AllL.cons_ (rfl) (AllL.cons_ (rfl) trivial))))))) (AllL.cons_ (rfl) (AllL.cons_ (rfl) (AllL.cons_ (rfl) (AllL.cons_ (rfl) (AllL.cons_ (rfl) trivial))))) ?_
        exact hKc3 _ _ _ ⟨0, rfl, rfl, rfl, by omega⟩
       ·
        rintro m fr H ⟨i, rfl, rfl, rfl, hi⟩ Kc3 hKc3
        refine At.seq ?_
        refine At.seq ?_
        refine At.region ?_
        refine At.p (some 57) (P_move rfl rfl) ?_
        refine At.p (some 58) (P_cmp rfl rfl rfl rfl rfl rfl) ?_
        refine At.nil ?_
        refine At.next ?_
        refine At.cond rfl (fun h58 => ?_) (fun h58 => ?_)
        · -- cond 58 t
         have hlt : i < 64 := by simp at h58; omega
         have hsr := sR_len (blk l n) i
         refine At.skip ?_
         refine At.next ?_
         refine At.seq ?_
         refine At.block ?_
         refine At.seq ?_
         refine At.seq ?_
         refine At.region ?_
         refine At.p (some 61) (P_move rfl rfl) ?_
         refine At.p (some 62) (P_cmp rfl rfl rfl rfl rfl rfl) ?_
         refine At.nil ?_
         refine At.next ?_
         refine At.cond rfl (fun h62 => ?_) (fun h62 => ?_)
         · -- cond 62 t
          have hlow : i < 16 := by simp at h62; omega
          refine At.seq ?_
          refine At.seq ?_
          refine At.region ?_
          refine At.p (some 11) (P_assign rfl rfl) ?_
          refine At.nil ?_
          refine At.next ?_
          refine At.block ?_
          refine At.loopx (I := fun m fr H => ∃ j, m = 4 - j ∧ fr = frOf [(2, ptr b2 0), (3, .slice A3 (padS l).length c3), (6, ptr b6 0), (7, ptr b7 0), (8, iV (64 * (n : Int))), (9, ptr b9 0), (10, iV (i : Int)), (11, iV (j : Int))] ∧ H = hOf [(2, ⟨true, b2, 0, 23, (List.replicate 32 0#8).map u8V, 0⟩), (21, ⟨true, b3, 0, 5, (padS l).map u8V, c3 - (padS l).length⟩), (6, ⟨true, b6, 0, 115, (hTo l n).map u32V, 0⟩), (7, ⟨true, b7, 0, 121, KK.map u32V, 0⟩), (9, ⟨true, b9, 0, 121, (wTo (blk l n) (4 * i + j)).map u32V, 0⟩)] ∧ j ≤ 4) ?_ ?_
          ·
           intro Kc4 hKc4
           refine At.to [(2, _), (3, _), (6, _), (7, _), (8, _), (9, _), (10, _), (11, _)] [(2, _), (21, _), (6, _), (7, _), (9, ⟨true, b9, 0, 121, (wTo (blk l n) (4 * i + 0)).map u32V, 0⟩)] (AllL.cons_ (rfl) (AllL.cons_ (rfl) (AllL.cons_ (rfl) (AllL.cons_ (rfl) (AllL.cons_ (rfl) (AllL.cons_ (rfl) (AllL.cons_ (rfl) (AllL.cons_ (rfl) trivial)))))))) (AllL.cons_ (rfl) (AllL.cons_ (rfl) (AllL.cons_ (rfl) (AllL.cons_ (rfl) (AllL.cons_ (congrArg (fun z => some (⟨true, b9, 0, 121, List.map u32V z, 0⟩ : Row)) (by rw [sR, if_pos hlow]; rfl)) trivial))))) ?_
           exact hKc4 _ _ _ ⟨0, rfl, rfl, rfl, by omega⟩
          ·
           rintro m fr H ⟨j, rfl, rfl, rfl, hj⟩ Kc4 hKc4
           refine At.seq ?_
           refine At.seq ?_
           refine At.region ?_
           refine At.p (some 63) (P_move rfl rfl) ?_
           refine At.p (some 64) (P_cmp rfl rfl rfl rfl rfl rfl) ?_
           refine At.nil ?_
           refine At.next ?_
           refine At.cond rfl (fun h64 => ?_) (fun h64 => ?_)
           · -- cond 64 t
            have hlj : j < 4 := by simp at h64; omega
            have hwl := wTo_len (blk l n) (4 * i + j)
            refine At.skip ?_
            refine At.next ?_
            refine At.seq ?_
            refine At.block ?_
            refine At.draws 16 [] [.q false [0, 1, 2, 3, 4, 5, 6, 7, 8, 9, 10, 11, 12, 13, 14, 15]] (by kernel_rfl) (by kernel_rfl) ?_
            refine At.wp (some 67) (P_move rfl rfl) ?_
            refine At.wp (some 68) (P_move rfl rfl) ?_
            refine At.wp (some 69) (P_indexAddr_arr1 rfl Try.underlying121 sz114 rfl rfl rfl (by omega)) ?_
            refine At.wq (some 70) (Q_loadM (k := 9) (0#32) rfl rfl Try.underlying114 rfl rfl WD) ?_
            refine At.wp (some 71) (P_mul_w UK.u32 (b := 256#32) rfl rfl rfl) ?_
            refine At.wp (some 72) (P_move rfl rfl) ?_
            refine At.wp (some 73) (P_move rfl rfl) ?_
            refine At.wp (some 74) (P_move rfl rfl) ?_
            refine At.wp (some 75) (P_mul_i rfl rfl rfl (by omega)) ?_
            refine At.wp (some 76) (P_add_i rfl rfl rfl (by omega)) ?_
            refine At.wp (some 77) (P_move rfl rfl) ?_
            refine At.wp (some 78) (P_add_i rfl rfl rfl (by omega)) ?_
            refine At.wp (some 79) (P_indexAddr_sl1 (j := 64 * n + 4 * i + j) rfl Try.underlying22 sz5 rfl (hA3 (by omega)) rfl (by omega) (by omega)) ?_
            refine At.wq (some 80) (Q_loadR (l := padS l) (k := 21) (j := 64 * n + 4 * i + j) (0#8) rfl rfl Try.underlying5 rfl rfl rfl (by omega)) ?_
            refine At.wp (some 81) (P_conv_ww UK.u32 (m := 8) rfl Try.underlying5 Try.underlying114 rfl) ?_
            refine At.wp (some 82) (P_add_w UK.u32 rfl rfl rfl) ?_
            refine At.wqn ?_
            refine At.wt rfl ?_
            refine At.p (some 83) (P_indexAddr_arr1 rfl Try.underlying121 sz114 rfl rfl rfl (by omega)) ?_
            refine At.s (S_storeM none (f := u32V) (k := 9) rfl rfl rfl sz114 rfl rfl rfl WD ?_)
            refine At.nil ?_
            refine At.inb_n ?_
            refine At.next ?_
            refine At.region ?_
            refine At.p (some 65) (P_move rfl rfl) ?_
            refine At.p (some 66) (P_add_i rfl rfl rfl (by omega)) ?_
            refine At.p (some 11) (P_assign rfl rfl) ?_
            refine At.nil ?_
            refine At.next ?_
            refine At.to [(2, _), (3, _), (6, _), (7, _), (8, _), (9, _), (10, _), (11, _)] [(2, _), (21, _), (6, _), (7, _), (9, ⟨true, b9, 0, 121, (wTo (blk l n) (4 * i + (j + 1))).map u32V, 0⟩)] (AllL.cons_ (rfl) (AllL.cons_ (rfl) (AllL.cons_ (rfl) (AllL.cons_ (rfl) (AllL.cons_ (rfl) (AllL.cons_ (rfl) (AllL.cons_ (rfl) (AllL.cons_ (rfl) trivial)))))))) (AllL.cons_ (rfl) (AllL.cons_ (rfl) (AllL.cons_ (rfl) (AllL.cons_ (rfl) (AllL.cons_ (congrArg (fun z => some (⟨true, b9, 0, 121, List.map u32V z, 0⟩ : Row)) (by rw [mul256, ← Nat.add_assoc, wTo, wStep, show (4 * i + j) / 4 = i by omega, show (blk l n).getD (4 * i + j) 0#8 = (padS l).getD (64 * n + 4 * i + j) 0#8 from by simp [blk, List.getD_eq_getElem?_getD, Nat.add_assoc]])) trivial))))) ?_
            exact hKc4 _ _ _ (by omega) ⟨j + 1, rfl, rfl, rfl, by omega⟩
           · -- cond 64 f
            obtain rfl : j = 4 := by simp at h64; omega
            refine At.exit ?_
            refine At.thn_e ?_
            refine At.thn_e ?_
            refine At.inb_hit ?_
            refine At.next ?_
            refine At.exit ?_
            refine At.thn_e ?_
            refine At.inb_hit ?_
            refine At.next ?_
            refine At.region ?_
            refine At.p (some 59) (P_move rfl rfl) ?_
            refine At.p (some 60) (P_add_i rfl rfl rfl (by omega)) ?_
            refine At.p (some 10) (P_assign rfl rfl) ?_
            refine At.nil ?_
            refine At.next ?_
            refine At.to [(2, _), (3, _), (6, _), (7, _), (8, _), (9, _), (10, _)] [(2, _), (21, _), (6, _), (7, _), (9, ⟨true, b9, 0, 121, (sR (blk l n) (i + 1)).map u32V, 0⟩)] (AllL.cons_ (rfl) (AllL.cons_ (rfl) (AllL.cons_ (rfl) (AllL.cons_ (rfl) (AllL.cons_ (rfl) (AllL.cons_ (rfl) (AllL.cons_ (rfl) trivial))))))) (AllL.cons_ (rfl) (AllL.cons_ (rfl) (AllL.cons_ (rfl) (AllL.cons_ (rfl) (AllL.cons_ (congrArg (fun z => some (⟨true, b9, 0, 121, List.map u32V z, 0⟩ : Row)) (by first | exact (sR_low _ hlow).symm | (rw [sR_high _ (by omega) hlt, ← spr_ref]; rfl))) trivial))))) ?_
            exact hKc3 _ _ _ (by omega) ⟨i + 1, rfl, rfl, rfl, by omega⟩
         · -- cond 62 f
          have hlow : ¬ i < 16 := by simp at h62; omega
          refine At.skip ?_
          refine At.next ?_
          refine At.seq ?_
          refine At.draws 9 [] [.q false [0, 1, 2, 3, 4, 5, 6, 7, 8]] (by kernel_rfl) (by kernel_rfl) ?_
          refine At.wp (some 84) (P_move rfl rfl) ?_
          refine At.wp (some 85) (P_sub_i rfl rfl rfl (by omega)) ?_
          refine At.wp (some 86) (P_indexAddr_arr1 (j := i - 2) rfl Try.underlying121 sz114 rfl rfl (by omega) (by omega)) ?_
          refine At.wq (some 87) (Q_loadM (k := 9) (0#32) rfl rfl Try.underlying114 rfl rfl WD) ?_
          refine At.wp (some 88) (P_move rfl rfl) ?_
          refine At.wp (some 89) (P_sub_i rfl rfl rfl (by omega)) ?_
          refine At.wp (some 90) (P_indexAddr_arr1 (j := i - 15) rfl Try.underlying121 sz114 rfl rfl (by omega) (by omega)) ?_
          refine At.wq (some 91) (Q_loadM (k := 9) (0#32) rfl rfl Try.underlying114 rfl rfl WD) ?_
          refine At.wp (some 12) (P_assign rfl rfl) ?_
          refine At.wqn ?_
          refine At.wt rfl ?_
          refine At.p (some 13) (P_assign rfl rfl) ?_
          refine At.nil ?_
          refine At.next ?_
          refine At.draws 28 [] [.q false [0, 1, 2, 3, 4, 5, 6, 7, 8, 9, 10, 11, 12, 13, 14, 15, 16, 17, 18, 19, 20, 21, 22, 23, 24, 25, 26, 27]] (by kernel_rfl) (by kernel_rfl) ?_
          refine At.wp (some 92) (P_move rfl rfl) ?_
          refine At.wp (some 93) (P_move rfl rfl) ?_
          refine At.wcV (some 94) [] (vs := [_, _]) rfl en80 rfl V0 (r_turn _ 17 (by decide) (by decide)) ?_
          refine At.wp (some 95) (P_move rfl rfl) ?_
          refine At.wcV (some 96) [] (vs := [_, _]) rfl en80 rfl V0 (r_turn _ 19 (by decide) (by decide)) ?_
          refine At.wp (some 97) (P_xor_w UK.u32 rfl rfl rfl) ?_
          refine At.wp (some 98) (P_move rfl rfl) ?_
          refine At.wp (some 99) (P_shr_w UK.u32 (n := 32) rfl rfl rfl (by first | decide | omega)) ?_
          refine At.wp (some 100) (P_xor_w UK.u32 rfl rfl rfl) ?_
          refine At.wp (some 101) (P_move rfl rfl) ?_
          refine At.wp (some 102) (P_sub_i rfl rfl rfl (by omega)) ?_
          refine At.wp (some 103) (P_indexAddr_arr1 (j := i - 7) rfl Try.underlying121 sz114 rfl rfl (by omega) (by omega)) ?_
          refine At.wq (some 104) (Q_loadM (k := 9) (0#32) rfl rfl Try.underlying114 rfl rfl WD) ?_
          refine At.wp (some 105) (P_add_w UK.u32 rfl rfl rfl) ?_
          refine At.wp (some 106) (P_move rfl rfl) ?_
          refine At.wcV (some 107) [] (vs := [_, _]) rfl en80 rfl V0 (r_turn _ 7 (by decide) (by decide)) ?_
          refine At.wp (some 108) (P_move rfl rfl) ?_
          refine At.wcV (some 109) [] (vs := [_, _]) rfl en80 rfl V0 (r_turn _ 18 (by decide) (by decide)) ?_
          refine At.wp (some 110) (P_xor_w UK.u32 rfl rfl rfl) ?_
          refine At.wp (some 111) (P_move rfl rfl) ?_
          refine At.wp (some 112) (P_shr_w UK.u32 (n := 32) rfl rfl rfl (by first | decide | omega)) ?_
          refine At.wp (some 113) (P_xor_w UK.u32 rfl rfl rfl) ?_
          refine At.wp (some 114) (P_add_w UK.u32 rfl rfl rfl) ?_
          refine At.wp (some 115) (P_move rfl rfl) ?_
          refine At.wp (some 116) (P_sub_i rfl rfl rfl (by omega)) ?_
          refine At.wp (some 117) (P_indexAddr_arr1 (j := i - 16) rfl Try.underlying121 sz114 rfl rfl (by omega) (by omega)) ?_
          refine At.wq (some 118) (Q_loadM (k := 9) (0#32) rfl rfl Try.underlying114 rfl rfl WD) ?_
          refine At.wp (some 119) (P_add_w UK.u32 rfl rfl rfl) ?_
          refine At.wqn ?_
          refine At.wt rfl ?_
          refine At.p (some 120) (P_indexAddr_arr1 rfl Try.underlying121 sz114 rfl rfl rfl (by omega)) ?_
          refine At.s (S_storeM none (f := u32V) (k := 9) rfl rfl rfl sz114 rfl rfl rfl WD ?_)
          refine At.nil ?_
          refine At.inb_n ?_
          refine At.next ?_
          refine At.region ?_
          refine At.p (some 59) (P_move rfl rfl) ?_
          refine At.p (some 60) (P_add_i rfl rfl rfl (by omega)) ?_
          refine At.p (some 10) (P_assign rfl rfl) ?_
          refine At.nil ?_
          refine At.next ?_
          refine At.to [(2, _), (3, _), (6, _), (7, _), (8, _), (9, _), (10, _)] [(2, _), (21, _), (6, _), (7, _), (9, ⟨true, b9, 0, 121, (sR (blk l n) (i + 1)).map u32V, 0⟩)] (AllL.cons_ (rfl) (AllL.cons_ (rfl) (AllL.cons_ (rfl) (AllL.cons_ (rfl) (AllL.cons_ (rfl) (AllL.cons_ (rfl) (AllL.cons_ (rfl) trivial))))))) (AllL.cons_ (rfl) (AllL.cons_ (rfl) (AllL.cons_ (rfl) (AllL.cons_ (rfl) (AllL.cons_ (congrArg (fun z => some (⟨true, b9, 0, 121, List.map u32V z, 0⟩ : Row)) (by first | exact (sR_low _ hlow).symm | (rw [sR_high _ (by omega) hlt, ← spr_ref]; rfl))) trivial))))) ?_
          exact hKc3 _ _ _ (by omega) ⟨i + 1, rfl, rfl, rfl, by omega⟩
        · -- cond 58 f
         obtain rfl : i = 64 := by simp at h58; omega
         refine At.exit ?_
         refine At.thn_e ?_
         refine At.thn_e ?_
         refine At.inb_hit ?_
         refine At.next ?_
         refine At.seq ?_
         refine At.region ?_
         refine At.q (some 121) (Q_loadA (k := 6) rfl rfl Try.underlying115 rfl sz115 WD rfl) ?_
         refine At.s (S_alloc (some 14) 14 (zs := (List.replicate 8 0#32).map u32V) rfl ze115 rfl (fun b14 => ?_))
         refine At.s (S_storeA none (k := 14) (vs := _) rfl rfl rfl (by first | (rw [sz115]; simp <;> omega) | exact sz115) rfl WA WB rfl WC ?_)
         refine At.nil ?_
         refine At.next ?_
         refine At.seq ?_
         refine At.seq ?_
         refine At.region ?_
         refine At.p (some 15) (P_assign rfl rfl) ?_
         refine At.nil ?_
         refine At.next ?_
         refine At.block ?_
         refine At.loopx (I := fun m fr H => ∃ i, m = 64 - i ∧ fr = frOf [(2, ptr b2 0), (3, .slice A3 (padS l).length c3), (6, ptr b6 0), (7, ptr b7 0), (8, iV (64 * (n : Int))), (9, ptr b9 0), (14, ptr b14 0), (15, iV (i : Int))] ∧ H = hOf [(2, ⟨true, b2, 0, 23, (List.replicate 32 0#8).map u8V, 0⟩), (21, ⟨true, b3, 0, 5, (padS l).map u8V, c3 - (padS l).length⟩), (6, ⟨true, b6, 0, 115, (hTo l n).map u32V, 0⟩), (7, ⟨true, b7, 0, 121, KK.map u32V, 0⟩), (9, ⟨true, b9, 0, 121, (spreadS (blk l n)).map u32V, 0⟩), (14, ⟨true, b14, 0, 115, (vTo KK (spreadS (blk l n)) (hTo l n) i).map u32V, 0⟩)] ∧ i ≤ 64) ?_ ?_
         ·
          intro Kc5 hKc5
          refine At.to [(2, _), (3, _), (6, _), (7, _), (8, _), (9, _), (14, _), (15, _)] [(2, _), (21, _), (6, _), (7, _), (9, ⟨true, b9, 0, 121, (spreadS (blk l n)).map u32V, 0⟩), (14, ⟨true, b14, 0, 115, (vTo KK (spreadS (blk l n)) (hTo l n) 0).map u32V, 0⟩)] (AllL.cons_ (rfl) (AllL.cons_ (rfl) (AllL.cons_ (rfl) (AllL.cons_ (rfl) (AllL.cons_ (rfl) (AllL.cons_ (rfl) (AllL.cons_ (rfl) (AllL.cons_ (rfl) trivial)))))))) (AllL.cons_ (rfl) (AllL.cons_ (rfl) (AllL.cons_ (rfl) (AllL.cons_ (rfl) (AllL.cons_ (rfl) (AllL.cons_ (rfl) trivial)))))) ?_
          exact hKc5 _ _ _ ⟨0, rfl, rfl, rfl, by omega⟩
         ·
          rintro m fr H ⟨i, rfl, rfl, rfl, hi⟩ Kc5 hKc5
          refine At.seq ?_
          refine At.seq ?_
          refine At.region ?_
          refine At.p (some 122) (P_move rfl rfl) ?_
          refine At.p (some 123) (P_cmp rfl rfl rfl rfl rfl rfl) ?_
          refine At.nil ?_
          refine At.next ?_
          refine At.cond rfl (fun h123 => ?_) (fun h123 => ?_)
          · -- cond 123 t
           have hlt : i < 64 := by simp at h123; omega
           have hvl : (vTo KK (spreadS (blk l n)) (hTo l n) i).length = 8 := vTo_len hhl i
           refine At.skip ?_
           refine At.next ?_
           refine At.seq ?_
           refine At.block ?_
           refine At.seq ?_
           refine At.draws 29 [] [.q false [0, 1, 2, 3, 4, 5, 6, 7, 8, 9, 10, 11, 12, 13, 14, 15, 16, 17, 18, 19, 20, 21, 22, 23, 24, 25, 26, 27, 28]] (by kernel_rfl) (by kernel_rfl) ?_
           refine At.wp (some 126) (P_indexAddr_arr1 (j := 7) rfl Try.underlying115 sz114 rfl rfl rfl (by decide)) ?_
           refine At.wq (some 127) (Q_loadM (k := 14) (0#32) rfl rfl Try.underlying114 rfl rfl WD) ?_
           refine At.wp (some 128) (P_indexAddr_arr1 (j := 4) rfl Try.underlying115 sz114 rfl rfl rfl (by decide)) ?_
           refine At.wq (some 129) (Q_loadM (k := 14) (0#32) rfl rfl Try.underlying114 rfl rfl WD) ?_
           refine At.wcV (some 130) [] (vs := [_, _]) rfl en80 rfl V0 (r_turn _ 6 (by decide) (by decide)) ?_
           refine At.wp (some 131) (P_indexAddr_arr1 (j := 4) rfl Try.underlying115 sz114 rfl rfl rfl (by decide)) ?_
           refine At.wq (some 132) (Q_loadM (k := 14) (0#32) rfl rfl Try.underlying114 rfl rfl WD) ?_
           refine At.wcV (some 133) [] (vs := [_, _]) rfl en80 rfl V0 (r_turn _ 11 (by decide) (by decide)) ?_
           refine At.wp (some 134) (P_xor_w UK.u32 rfl rfl rfl) ?_
           refine At.wp (some 135) (P_indexAddr_arr1 (j := 4) rfl Try.underlying115 sz114 rfl rfl rfl (by decide)) ?_
           refine At.wq (some 136) (Q_loadM (k := 14) (0#32) rfl rfl Try.underlying114 rfl rfl WD) ?_
           refine At.wcV (some 137) [] (vs := [_, _]) rfl en80 rfl V0 (r_turn _ 25 (by decide) (by decide)) ?_
           refine At.wp (some 138) (P_xor_w UK.u32 rfl rfl rfl) ?_
           refine At.wp (some 139) (P_add_w UK.u32 rfl rfl rfl) ?_
           refine At.wp (some 140) (P_indexAddr_arr1 (j := 4) rfl Try.underlying115 sz114 rfl rfl rfl (by decide)) ?_
           refine At.wq (some 141) (Q_loadM (k := 14) (0#32) rfl rfl Try.underlying114 rfl rfl WD) ?_
           refine At.wp (some 142) (P_indexAddr_arr1 (j := 5) rfl Try.underlying115 sz114 rfl rfl rfl (by decide)) ?_
           refine At.wq (some 143) (Q_loadM (k := 14) (0#32) rfl rfl Try.underlying114 rfl rfl WD) ?_
           refine At.wp (some 144) (P_indexAddr_arr1 (j := 6) rfl Try.underlying115 sz114 rfl rfl rfl (by decide)) ?_
           refine At.wq (some 145) (Q_loadM (k := 14) (0#32) rfl rfl Try.underlying114 rfl rfl WD) ?_
           refine At.wcV (some 146) [] (vs := [_, _, _, _]) rfl en81 rfl V0 (r_ch _ _ _) ?_
           refine At.wp (some 147) (P_add_w UK.u32 rfl rfl rfl) ?_
           refine At.wp (some 148) (P_move rfl rfl) ?_
           refine At.wp (some 149) (P_indexAddr_arr1 rfl Try.underlying121 sz114 rfl rfl rfl (by omega)) ?_
           refine At.wq (some 150) (Q_loadM (k := 7) (0#32) rfl rfl Try.underlying114 rfl rfl WD) ?_
           refine At.wp (some 151) (P_add_w UK.u32 rfl rfl rfl) ?_
           refine At.wp (some 152) (P_move rfl rfl) ?_
           refine At.wp (some 153) (P_indexAddr_arr1 rfl Try.underlying121 sz114 rfl rfl rfl (by omega)) ?_
           refine At.wq (some 154) (Q_loadM (k := 9) (0#32) rfl rfl Try.underlying114 rfl rfl WD) ?_
           refine At.wqn ?_
           refine At.wt rfl ?_
           refine At.p (some 155) (P_add_w UK.u32 rfl rfl rfl) ?_
           refine At.p (some 16) (P_assign rfl rfl) ?_
           refine At.nil ?_
           refine At.next ?_
           refine At.seq ?_
           refine At.draws 18 [] [.q false [0, 1, 2, 3, 4, 5, 6, 7, 8, 9, 10, 11, 12, 13, 14, 15, 16, 17]] (by kernel_rfl) (by kernel_rfl) ?_
           refine At.wp (some 156) (P_indexAddr_arr1 (j := 0) rfl Try.underlying115 sz114 rfl rfl rfl (by decide)) ?_
           refine At.wq (some 157) (Q_loadM (k := 14) (0#32) rfl rfl Try.underlying114 rfl rfl WD) ?_
           refine At.wcV (some 158) [] (vs := [_, _]) rfl en80 rfl V0 (r_turn _ 2 (by decide) (by decide)) ?_
           refine At.wp (some 159) (P_indexAddr_arr1 (j := 0) rfl Try.underlying115 sz114 rfl rfl rfl (by decide)) ?_
           refine At.wq (some 160) (Q_loadM (k := 14) (0#32) rfl rfl Try.underlying114 rfl rfl WD) ?_
           refine At.wcV (some 161) [] (vs := [_, _]) rfl en80 rfl V0 (r_turn _ 13 (by decide) (by decide)) ?_
           refine At.wp (some 162) (P_xor_w UK.u32 rfl rfl rfl) ?_
           refine At.wp (some 163) (P_indexAddr_arr1 (j := 0) rfl Try.underlying115 sz114 rfl rfl rfl (by decide)) ?_
           refine At.wq (some 164) (Q_loadM (k := 14) (0#32) rfl rfl Try.underlying114 rfl rfl WD) ?_
           refine At.wcV (some 165) [] (vs := [_, _]) rfl en80 rfl V0 (r_turn _ 22 (by decide) (by decide)) ?_
           refine At.wp (some 166) (P_xor_w UK.u32 rfl rfl rfl) ?_
           refine At.wp (some 167) (P_indexAddr_arr1 (j := 0) rfl Try.underlying115 sz114 rfl rfl rfl (by decide)) ?_
           refine At.wq (some 168) (Q_loadM (k := 14) (0#32) rfl rfl Try.underlying114 rfl rfl WD) ?_
           refine At.wp (some 169) (P_indexAddr_arr1 (j := 1) rfl Try.underlying115 sz114 rfl rfl rfl (by decide)) ?_
           refine At.wq (some 170) (Q_loadM (k := 14) (0#32) rfl rfl Try.underlying114 rfl rfl WD) ?_
           refine At.wp (some 171) (P_indexAddr_arr1 (j := 2) rfl Try.underlying115 sz114 rfl rfl rfl (by decide)) ?_
           refine At.wq (some 172) (Q_loadM (k := 14) (0#32) rfl rfl Try.underlying114 rfl rfl WD) ?_
           refine At.wcV (some 173) [] (vs := [_, _, _, _]) rfl en81 rfl V0 (r_maj _ _ _) ?_
           refine At.wqn ?_
           refine At.wt rfl ?_
           refine At.p (some 174) (P_add_w UK.u32 rfl rfl rfl) ?_
           refine At.p (some 17) (P_assign rfl rfl) ?_
           refine At.nil ?_
           refine At.next ?_
           refine At.to [(2, ptr b2 0), (3, .slice A3 (padS l).length c3), (6, ptr b6 0), (7, ptr b7 0), (8, iV (64 * (n : Int))), (9, ptr b9 0), (14, ptr b14 0), (15, iV (i : Int)), (16, u32V (tS (vTo KK (spreadS (blk l n)) (hTo l n) i) (KK.getD i 0#32) ((spreadS (blk l n)).getD i 0#32))), (17, u32V (uS (vTo KK (spreadS (blk l n)) (hTo l n) i)))] [(2, ⟨true, b2, 0, 23, (List.replicate 32 0#8).map u8V, 0⟩), (21, ⟨true, b3, 0, 5, (padS l).map u8V, c3 - (padS l).length⟩), (6, ⟨true, b6, 0, 115, (hTo l n).map u32V, 0⟩), (7, ⟨true, b7, 0, 121, KK.map u32V, 0⟩), (9, ⟨true, b9, 0, 121, (spreadS (blk l n)).map u32V, 0⟩), (14, ⟨true, b14, 0, 115, (vTo KK (spreadS (blk l n)) (hTo l n) i).map u32V, 0⟩)] (AllL.cons_ (rfl) (AllL.cons_ (rfl) (AllL.cons_ (rfl) (AllL.cons_ (rfl) (AllL.cons_ (rfl) (AllL.cons_ (rfl) (AllL.cons_ (rfl) (AllL.cons_ (rfl) (AllL.cons_ (rfl) (AllL.cons_ (rfl) trivial)))))))))) (AllL.cons_ (rfl) (AllL.cons_ (rfl) (AllL.cons_ (rfl) (AllL.cons_ (rfl) (AllL.cons_ (rfl) (AllL.cons_ (rfl) trivial)))))) ?_
           generalize htt : tS (vTo KK (spreadS (blk l n)) (hTo l n) i) (KK.getD i 0#32) ((spreadS (blk l n)).getD i 0#32) = tt
           generalize huu : uS (vTo KK (spreadS (blk l n)) (hTo l n) i) = uu
           generalize hVV : (vTo KK (spreadS (blk l n)) (hTo l n) i) = VV at *
           refine At.region ?_
           refine At.p (some 175) (P_move rfl rfl) ?_
           refine At.p (some 176) (P_move rfl rfl) ?_
           refine At.p (some 177) (P_add_w UK.u32 rfl rfl rfl) ?_
           refine At.p (some 178) (P_indexAddr_arr1 (j := 0) rfl Try.underlying115 sz114 rfl rfl rfl (by decide)) ?_
           refine At.q (some 179) (Q_loadM (k := 14) (0#32) rfl rfl Try.underlying114 rfl rfl WD) ?_
           refine At.p (some 180) (P_indexAddr_arr1 (j := 1) rfl Try.underlying115 sz114 rfl rfl rfl (by decide)) ?_
           refine At.q (some 181) (Q_loadM (k := 14) (0#32) rfl rfl Try.underlying114 rfl rfl WD) ?_
           refine At.p (some 182) (P_indexAddr_arr1 (j := 2) rfl Try.underlying115 sz114 rfl rfl rfl (by decide)) ?_
           refine At.q (some 183) (Q_loadM (k := 14) (0#32) rfl rfl Try.underlying114 rfl rfl WD) ?_
           refine At.p (some 184) (P_indexAddr_arr1 (j := 3) rfl Try.underlying115 sz114 rfl rfl rfl (by decide)) ?_
           refine At.q (some 185) (Q_loadM (k := 14) (0#32) rfl rfl Try.underlying114 rfl rfl WD) ?_
           refine At.p (some 186) (P_move rfl rfl) ?_
           refine At.p (some 187) (P_add_w UK.u32 rfl rfl rfl) ?_
           refine At.p (some 188) (P_indexAddr_arr1 (j := 4) rfl Try.underlying115 sz114 rfl rfl rfl (by decide)) ?_
           refine At.q (some 189) (Q_loadM (k := 14) (0#32) rfl rfl Try.underlying114 rfl rfl WD) ?_
           refine At.p (some 190) (P_indexAddr_arr1 (j := 5) rfl Try.underlying115 sz114 rfl rfl rfl (by decide)) ?_
           refine At.q (some 191) (Q_loadM (k := 14) (0#32) rfl rfl Try.underlying114 rfl rfl WD) ?_
           refine At.p (some 192) (P_indexAddr_arr1 (j := 6) rfl Try.underlying115 sz114 rfl rfl rfl (by decide)) ?_
           refine At.q (some 193) (Q_loadM (k := 14) (0#32) rfl rfl Try.underlying114 rfl rfl WD) ?_
           refine At.p (some 194) (P_build_arr (cs := _) (parts := _) (vs := [(0, _), (1, _), (2, _), (3, _), (4, _), (5, _), (6, _), (7, _)]) rfl Try.underlying115 sz114 ze115 rfl (fill8 _ _ _ _ _ _ _ _)) ?_
           refine At.s (S_storeA none (k := 14) (vs := _) rfl rfl rfl (by first | (rw [sz115]; simp <;> omega) | exact sz115) rfl WA WB rfl WC ?_)
           refine At.nil ?_
           refine At.inb_n ?_
           refine At.next ?_
           refine At.region ?_
           refine At.p (some 124) (P_move rfl rfl) ?_
           refine At.p (some 125) (P_add_i rfl rfl rfl (by omega)) ?_
           refine At.p (some 15) (P_assign rfl rfl) ?_
           refine At.nil ?_
           refine At.next ?_
           refine At.to [(2, _), (3, _), (6, _), (7, _), (8, _), (9, _), (14, _), (15, _)] [(2, _), (21, _), (6, _), (7, _), (9, _), (14, ⟨true, b14, 0, 115, (vTo KK (spreadS (blk l n)) (hTo l n) (i + 1)).map u32V, 0⟩)] (AllL.cons_ (rfl) (AllL.cons_ (rfl) (AllL.cons_ (rfl) (AllL.cons_ (rfl) (AllL.cons_ (rfl) (AllL.cons_ (rfl) (AllL.cons_ (rfl) (AllL.cons_ (rfl) trivial)))))))) (AllL.cons_ (rfl) (AllL.cons_ (rfl) (AllL.cons_ (rfl) (AllL.cons_ (rfl) (AllL.cons_ (rfl) (AllL.cons_ (congrArg (fun z => some (⟨true, b14, 0, 115, z, 0⟩ : Row)) (by rw [vTo, hVV, rnd, htt, huu]; rfl)) trivial)))))) ?_
           exact hKc5 _ _ _ (by omega) ⟨i + 1, rfl, rfl, rfl, by omega⟩
          · -- cond 123 f
           obtain rfl : i = 64 := by simp at h123; omega
           have hvl : (vTo KK (spreadS (blk l n)) (hTo l n) 64).length = 8 := vTo_len hhl 64
           refine At.exit ?_
           refine At.thn_e ?_
           refine At.thn_e ?_
           refine At.inb_hit ?_
           refine At.next ?_
           refine At.seq ?_
           refine At.region ?_
           refine At.p (some 18) (P_assign rfl rfl) ?_
           refine At.nil ?_
           refine At.next ?_
           refine At.block ?_
           refine At.loopx (I := fun m fr H => ∃ j, m = 8 - j ∧ fr = frOf [(2, ptr b2 0), (3, .slice A3 (padS l).length c3), (6, ptr b6 0), (7, ptr b7 0), (8, iV (64 * (n : Int))), (14, ptr b14 0), (18, iV (j : Int))] ∧ H = hOf [(2, ⟨true, b2, 0, 23, (List.replicate 32 0#8).map u8V, 0⟩), (21, ⟨true, b3, 0, 5, (padS l).map u8V, c3 - (padS l).length⟩), (6, ⟨true, b6, 0, 115, (addTo (hTo l n) (vTo KK (spreadS (blk l n)) (hTo l n) 64) j).map u32V, 0⟩), (7, ⟨true, b7, 0, 121, KK.map u32V, 0⟩), (14, ⟨true, b14, 0, 115, (vTo KK (spreadS (blk l n)) (hTo l n) 64).map u32V, 0⟩)] ∧ j ≤ 8) ?_ ?_
           ·
            intro Kc6 hKc6
            refine At.to [(2, _), (3, _), (6, _), (7, _), (8, _), (14, _), (18, _)] [(2, _), (21, _), (6, ⟨true, b6, 0, 115, (addTo (hTo l n) (vTo KK (spreadS (blk l n)) (hTo l n) 64) 0).map u32V, 0⟩), (7, _), (14, _)] (AllL.cons_ (rfl) (AllL.cons_ (rfl) (AllL.cons_ (rfl) (AllL.cons_ (rfl) (AllL.cons_ (rfl) (AllL.cons_ (rfl) (AllL.cons_ (rfl) trivial))))))) (AllL.cons_ (rfl) (AllL.cons_ (rfl) (AllL.cons_ (congrArg (fun z => some (⟨true, b6, 0, 115, List.map u32V z, 0⟩ : Row)) (addTo_0 _ (hTo_len l n)).symm) (AllL.cons_ (rfl) (AllL.cons_ (rfl) trivial))))) ?_
            exact hKc6 _ _ _ ⟨0, rfl, rfl, rfl, by omega⟩
           ·
            rintro m fr H ⟨j, rfl, rfl, rfl, hj⟩ Kc6 hKc6
            refine At.seq ?_
            refine At.seq ?_
            refine At.region ?_
            refine At.p (some 195) (P_move rfl rfl) ?_
            refine At.p (some 196) (P_cmp rfl rfl rfl rfl rfl rfl) ?_
            refine At.nil ?_
            refine At.next ?_
            refine At.cond rfl (fun h196 => ?_) (fun h196 => ?_)
            · -- cond 196 t
             have hlt : j < 8 := by simp at h196; omega
             have hal := addTo_len (hTo l n) (vTo KK (spreadS (blk l n)) (hTo l n) 64) j
             refine At.skip ?_
             refine At.next ?_
             refine At.seq ?_
             refine At.block ?_
             refine At.draws 8 [] [.q false [0, 1, 2, 3, 4, 5, 6, 7]] (by kernel_rfl) (by kernel_rfl) ?_
             refine At.wp (some 199) (P_move rfl rfl) ?_
             refine At.wp (some 200) (P_move rfl rfl) ?_
             refine At.wp (some 201) (P_indexAddr_arr1 rfl Try.underlying115 sz114 rfl rfl rfl (by omega)) ?_
             refine At.wq (some 202) (Q_loadM (k := 6) (0#32) rfl rfl Try.underlying114 rfl rfl WD) ?_
             refine At.wp (some 203) (P_move rfl rfl) ?_
             refine At.wp (some 204) (P_indexAddr_arr1 rfl Try.underlying115 sz114 rfl rfl rfl (by omega)) ?_
             refine At.wq (some 205) (Q_loadM (k := 14) (0#32) rfl rfl Try.underlying114 rfl rfl WD) ?_
             refine At.wp (some 206) (P_add_w UK.u32 rfl rfl rfl) ?_
             refine At.wqn ?_
             refine At.wt rfl ?_
             refine At.p (some 207) (P_indexAddr_arr1 rfl Try.underlying115 sz114 rfl rfl rfl (by omega)) ?_
             refine At.s (S_storeM none (f := u32V) (k := 6) rfl rfl rfl sz114 rfl rfl rfl WD ?_)
             refine At.nil ?_
             refine At.inb_n ?_
             refine At.next ?_
             refine At.region ?_
             refine At.p (some 197) (P_move rfl rfl) ?_
             refine At.p (some 198) (P_add_i rfl rfl rfl (by omega)) ?_
             refine At.p (some 18) (P_assign rfl rfl) ?_
             refine At.nil ?_
             refine At.next ?_
             refine At.to [(2, _), (3, _), (6, _), (7, _), (8, _), (14, _), (18, _)] [(2, _), (21, _), (6, ⟨true, b6, 0, 115, (addTo (hTo l n) (vTo KK (spreadS (blk l n)) (hTo l n) 64) (j + 1)).map u32V, 0⟩), (7, _), (14, _)] (AllL.cons_ (rfl) (AllL.cons_ (rfl) (AllL.cons_ (rfl) (AllL.cons_ (rfl) (AllL.cons_ (rfl) (AllL.cons_ (rfl) (AllL.cons_ (rfl) trivial))))))) (AllL.cons_ (rfl) (AllL.cons_ (rfl) (AllL.cons_ (congrArg (fun z => some (⟨true, b6, 0, 115, List.map u32V z, 0⟩ : Row)) (by rw [addTo_at _ _ hlt (Nat.le_refl _), addTo_set _ _ hlt])) (AllL.cons_ (rfl) (AllL.cons_ (rfl) trivial))))) ?_
             exact hKc6 _ _ _ (by omega) ⟨j + 1, rfl, rfl, rfl, by omega⟩
            · -- cond 196 f
             obtain rfl : j = 8 := by simp at h196; omega
             have hal := addTo_len (hTo l n) (vTo KK (spreadS (blk l n)) (hTo l n) 64) 8
             refine At.exit ?_
             refine At.thn_e ?_
             refine At.thn_e ?_
             refine At.inb_hit ?_
             refine At.inb_n ?_
             refine At.next ?_
             refine At.region ?_
             refine At.p (some 55) (P_move rfl rfl) ?_
             refine At.p (some 56) (P_add_i rfl rfl rfl (by omega)) ?_
             refine At.p (some 8) (P_assign rfl rfl) ?_
             refine At.nil ?_
             refine At.next ?_
             refine At.to [(2, _), (3, _), (6, _), (7, _), (8, iV (64 * ((n + 1 : Nat) : Int)))] [(2, _), (21, _), (6, ⟨true, b6, 0, 115, (hTo l (n + 1)).map u32V, 0⟩), (7, _)] (AllL.cons_ (rfl) (AllL.cons_ (rfl) (AllL.cons_ (rfl) (AllL.cons_ (rfl) (AllL.cons_ (congrArg (fun z => some (iV z)) (by omega)) trivial))))) (AllL.cons_ (rfl) (AllL.cons_ (rfl) (AllL.cons_ (rfl) (AllL.cons_ (rfl) trivial)))) ?_
             exact hKc2 _ _ _ (by omega) ⟨n + 1, rfl, rfl, rfl, by omega⟩
      · -- cond 54 f
       obtain rfl : n = nB l := by unfold nB; simp at h54; omega
       have hhl := hTo_len l (nB l)
       refine At.exit ?_
       refine At.thn_e ?_
       refine At.thn_e ?_
       refine At.inb_hit ?_
       refine At.next ?_
       refine At.seq ?_
       refine At.region ?_
       refine At.s (S_alloc (some 19) 19 (zs := (outN (hTo l (nB l)) 0).map u8V) rfl ze23 rfl (fun b19 => ?_))
       refine At.nil ?_
       refine At.next ?_
       refine At.seq ?_
       refine At.seq ?_
       refine At.region ?_
       refine At.p (some 20) (P_assign rfl rfl) ?_
       refine At.nil ?_
       refine At.next ?_
       refine At.block ?_
       refine At.loopx (I := fun m fr H => ∃ k, m = 32 - k ∧ fr = frOf [(2, ptr b2 0), (6, ptr b6 0), (19, ptr b19 0), (20, iV (k : Int))] ∧ H = hOf [(2, ⟨true, b2, 0, 23, (List.replicate 32 0#8).map u8V, 0⟩), (6, ⟨true, b6, 0, 115, (hTo l (nB l)).map u32V, 0⟩), (19, ⟨true, b19, 0, 23, (outN (hTo l (nB l)) k).map u8V, 0⟩)] ∧ k ≤ 32) ?_ ?_
       ·
        intro Kc7 hKc7
        refine At.to [(2, _), (6, _), (19, _), (20, _)] [(2, _), (6, _), (19, ⟨true, b19, 0, 23, (outN (hTo l (nB l)) 0).map u8V, 0⟩)] (AllL.cons_ (rfl) (AllL.cons_ (rfl) (AllL.cons_ (rfl) (AllL.cons_ (rfl) trivial)))) (AllL.cons_ (rfl) (AllL.cons_ (rfl) (AllL.cons_ (rfl) trivial))) ?_
        exact hKc7 _ _ _ ⟨0, rfl, rfl, rfl, by omega⟩
       ·
        rintro m fr H ⟨k, rfl, rfl, rfl, hk⟩ Kc7 hKc7
        refine At.seq ?_
        refine At.seq ?_
        refine At.region ?_
        refine At.p (some 208) (P_move rfl rfl) ?_
        refine At.p (some 209) (P_cmp rfl rfl rfl rfl rfl rfl) ?_
        refine At.nil ?_
        refine At.next ?_
        refine At.cond rfl (fun h209 => ?_) (fun h209 => ?_)
        · -- cond 209 t
         have hlt : k < 32 := by simp at h209; omega
         have hol := outN_len (hTo l (nB l)) hk
         refine At.skip ?_
         refine At.next ?_
         refine At.seq ?_
         refine At.block ?_
         refine At.region ?_
         refine At.p (some 212) (P_move rfl rfl) ?_
         refine At.p (some 213) (P_move rfl rfl) ?_
         refine At.p (some 214) (P_quo_i rfl rfl rfl (by omega) (by omega) (by first | decide | omega)) ?_
         refine At.p (some 215) (P_indexAddr_arr1 (j := k / 4) rfl Try.underlying115 sz114 rfl rfl (by omega) (by omega)) ?_
         refine At.q (some 216) (Q_loadM (k := 6) (0#32) rfl rfl Try.underlying114 rfl rfl WD) ?_
         refine At.p (some 217) (P_move rfl rfl) ?_
         refine At.p (some 218) (P_rem_i rfl rfl rfl (by omega) (by first | decide | omega)) ?_
         refine At.p (some 219) (P_mul_i rfl rfl rfl (by omega)) ?_
         refine At.p (some 220) (P_sub_i rfl rfl rfl (by omega)) ?_
         refine At.p (some 221) (P_shr_w UK.u32 (n := 32) rfl rfl rfl (by first | decide | omega)) ?_
         refine At.p (some 222) (P_conv_ww UK.u8 (m := 32) rfl Try.underlying114 Try.underlying5 rfl) ?_
         refine At.p (some 223) (P_indexAddr_arr1 rfl Try.underlying23 sz5 rfl rfl rfl (by omega)) ?_
         refine At.s (S_storeM none (f := u8V) (k := 19) rfl rfl rfl sz5 rfl rfl rfl WD ?_)
         refine At.nil ?_
         refine At.inb_n ?_
         refine At.next ?_
         refine At.region ?_
         refine At.p (some 210) (P_move rfl rfl) ?_
         refine At.p (some 211) (P_add_i rfl rfl rfl (by omega)) ?_
         refine At.p (some 20) (P_assign rfl rfl) ?_
         refine At.nil ?_
         refine At.next ?_
         refine At.to [(2, _), (6, _), (19, _), (20, _)] [(2, _), (6, _), (19, ⟨true, b19, 0, 23, (outN (hTo l (nB l)) (k + 1)).map u8V, 0⟩)] (AllL.cons_ (rfl) (AllL.cons_ (rfl) (AllL.cons_ (rfl) (AllL.cons_ (rfl) trivial)))) (AllL.cons_ (rfl) (AllL.cons_ (rfl) (AllL.cons_ (congrArg (fun z => some (⟨true, b19, 0, 23, List.map u8V z, 0⟩ : Row)) (by rw [← outN_set _ hlt, ← bsum_out _ hlt])) trivial))) ?_
         exact hKc7 _ _ _ (by omega) ⟨k + 1, rfl, rfl, rfl, by omega⟩
        · -- cond 209 f
         obtain rfl : k = 32 := by simp at h209; omega
         have hol := outN_len (hTo l (nB l)) hk
         refine At.exit ?_
         refine At.thn_e ?_
         refine At.thn_e ?_
         refine At.inb_hit ?_
         refine At.next ?_
         refine At.seq ?_
         refine At.region ?_
         refine At.q (some 224) (Q_loadA (k := 19) rfl rfl Try.underlying23 rfl sz23 WD rfl) ?_
         refine At.s (S_storeA none (k := 2) (vs := _) rfl rfl rfl (by first | (rw [sz23]; simp <;> omega) | exact sz23) rfl WA WB rfl WC ?_)
         refine At.nil ?_
         refine At.next ?_
         refine At.ret ?_
         refine At.giveV (.inl rfl) [] (rows' := []) (ResV.cellA (k := 2) rfl rfl Try.underlying23 rfl sz23 (by first | (simp <;> omega) | rfl | (simp [*]; done)) rfl) rfl (by simp) (by simp) ?_
         exact ⟨by rw [outN_fin]; rfl, rfl⟩

def yTo (K : List (BitVec 8)) (x : BitVec 8) (i : Nat) : List (BitVec 8) := (List.range i).map (fun j => (keyB K).getD j 0#8 ^^^ x) ++ List.replicate (64 - i) 0#8
theorem yTo_len (K : List (BitVec 8)) (x : BitVec 8) {i : Nat} (h : i ≤ 64) : (yTo K x i).length = 64 := by simp [yTo]; omega
theorem yTo_set (K : List (BitVec 8)) (x : BitVec 8) {i : Nat} (h : i < 64) : (yTo K x i).set i ((keyB K).getD i 0#8 ^^^ x) = yTo K x (i + 1) := fill_set (fun j => (keyB K).getD j 0#8 ^^^ x) 0#8 h
theorem yTo_64 (K : List (BitVec 8)) (x : BitVec 8) : yTo K x 64 = keyedS K x := by
 apply List.ext_getElem (by rw [yTo_len _ _ (by decide), keyedS_len])
 intro j h1 h2
 have h3 : j < 64 := by rwa [yTo_len _ _ (by decide)] at h1
 simp [yTo, keyedS, xTo, h3]
theorem keyB_at (K : List (BitVec 8)) (i : Nat) : (keyB K).getD i 0#8 = if i < K.length then K.getD i 0#8 else 0#8 := by
 rw [keyB, List.getD_eq_getElem?_getD, List.getElem?_append]
 split
 · rw [List.getD_eq_getElem?_getD]
 ·
  rw [List.getElem?_replicate]
  split <;> rfl

theorem r_SumN {A : Option Addr} {l : List (BitVec 8)} {n ca bq q : Nat} (hn : l.length = n) (hA : 0 < n → A = some ⟨bq, q, none⟩) (hl : n ≤ 1000000) : Con Try.prog 56 [.slice A n ca] [pRow bq q l] (fun v rs => v = aggK (sumS l) ∧ rs = []) := by
 subst hn
 exact r_Sum A l ca bq q hA hl

set_option maxHeartbeats 1000000 in
theorem r_Mac (A A2 : Option Addr) (key b : List (BitVec 8)) (ca cb bq q br r : Nat) (hA : 0 < key.length → A = some ⟨bq, q, none⟩) (hB : 0 < b.length → A2 = some ⟨br, r, none⟩) (hl : key.length ≤ 1000000) (hlb : b.length ≤ 900000) :
  Con Try.prog 60 [.slice A key.length ca, .slice A2 b.length cb] [pRow bq q key, pRow br r b] (fun v rs => v = aggK (macS key b) ∧ rs = []) := by
 refine Con.enter Try.func60 Try.ntmps60 (Nat.le_of_ble_eq_true rfl) rfl fun w => ?_
 refine At.seq ?_
 have hs1 := sumS_len key
 refine At.region ?_
 refine At.s (S_alloc (some 4) 4 (zs := (List.replicate 32 0#8).map u8V) rfl ze23 rfl (fun b4 => ?_))
 refine At.nil ?_
 refine At.next ?_
 refine At.seq ?_
 refine At.seq ?_
 refine At.region ?_
 refine At.p (some 11) (P_move rfl rfl) ?_
 refine At.p (some 12) (P_len_sl rfl rfl ⟨_, Try.underlying22⟩ rfl) ?_
 refine At.p (some 13) (P_cmp rfl rfl rfl rfl rfl rfl) ?_
 refine At.nil ?_
 refine At.next ?_
 refine At.cond rfl (fun h13 => ?_) (fun h13 => ?_)
 · -- cond 13 t
  have hgt : 64 < key.length := by simp at h13; omega
  have hke : keyS key = sumS key := by rw [keyS, if_pos hgt]
  refine At.seq ?_
  refine At.region ?_
  refine At.p (some 14) (P_move rfl rfl) ?_
  refine At.s (S_callV (some 15) [(0, _)] [] (vs := [_]) rfl en56 rfl (VN (by simp) rfl View.all V0) (by simp) (r_SumN (l := key) rfl hA hl) (by rintro _ _ ⟨rfl, rfl⟩; rfl) ?_)
  rintro _ _ ⟨rfl, rfl⟩
  refine At.s (S_alloc (some 5) 5 (zs := (List.replicate 32 0#8).map u8V) rfl ze23 rfl (fun b5 => ?_))
  refine At.s (S_storeA none (k := 5) (vs := _) rfl rfl rfl (by first | (rw [sz23]; simp <;> omega) | exact sz23) rfl WA WB rfl WC ?_)
  refine At.nil ?_
  refine At.next ?_
  refine At.region ?_
  refine At.s (S_buildSlice0 (some 16) 16 rfl Try.underlying22 sz5 (fun b16 => ?_))
  refine At.p (some 17) (P_slice_arr1 rfl Try.underlying23 sz5 rfl rfl rfl rfl (by omega) (by omega) (by omega) (by omega)) ?_
  refine At.s (S_appendM (some 18) 16 (sumS key) (f := u8V) (l := []) (L := sumS key) rfl Try.underlying22 Try.underlying22 (.inr ⟨_, rfl⟩) sz5 by5 ze5 rfl rfl (fun h => ⟨absurd h (by omega), rfl⟩) rfl rfl (Src.row (k := 5) (j := 0) rfl (fun _ => rfl) (fun _ => ⟨rfl, rfl, rfl⟩) (by simp [List.take_of_length_le, sumS_len]) (by simp [sumS_len])) (fun _ => rfl) (by decide) (by decide) rfl (sumS_len _) ?_)
  intro A18 b18 c18 g18a g18b
  refine At.p (some 0) (P_assign rfl rfl) ?_
  refine At.nil ?_
  refine At.next ?_
  refine At.seq ?_
  refine At.brute (fun fr H => ∃ b6 b7, fr = frOf [(0, .slice A18 (sumS key).length c18), (1, .slice A2 b.length cb), (4, ptr b4 0), (6, .slice (some ⟨b6, 0, none⟩) 64 64), (7, .slice (some ⟨b7, 0, none⟩) 64 64)] ∧ H = hOf [(16, ⟨true, b18, 0, 5, (sumS key).map u8V, c18 - (sumS key).length⟩), (1, pRow br r b), (4, ⟨true, b4, 0, 23, (List.replicate 32 0#8).map u8V, 0⟩), (6, ⟨true, b6, 0, 5, (List.replicate 64 0#8).map u8V, 0⟩), (7, ⟨true, b7, 0, 5, (List.replicate 64 0#8).map u8V, 0⟩)]) (by kernel_rfl) ?_ ?_
  ·
   intro Kb hKb
   refine At.anyStep [0, 1] (by kernel_rfl) (by simp) ?_
   refine ⟨?_, ?_⟩
   ·
    refine At.anyS (S_makeN (some 19) 6 (n := 64) (cs := (List.replicate (64) 0#8).map u8V) rfl Try.underlying22 sz5 by5 ze5 rfl rfl (by omega) (by omega) (by omega) (by omega) ((made_one (n := 64) (by omega)).trans (by rw [List.map_replicate]; rfl)) (fun b6 => ?_))
    refine At.anyStep [1, 2] (by kernel_rfl) (by simp) ?_
    refine ⟨?_, ?_⟩
    ·
     refine At.anyS (S_makeN (some 20) 7 (n := 64) (cs := (List.replicate (64) 0#8).map u8V) rfl Try.underlying22 sz5 by5 ze5 rfl rfl (by omega) (by omega) (by omega) (by omega) ((made_one (n := 64) (by omega)).trans (by rw [List.map_replicate]; rfl)) (fun b7 => ?_))
     refine At.anyStep [2] (by kernel_rfl) (by simp) ?_
     refine At.anyP (some 6) (P_assign rfl rfl) ?_
     refine At.anyStep [3] (by kernel_rfl) (by simp) ?_
     refine At.anyP (some 7) (P_assign rfl rfl) ?_
     refine At.anyEnd (by kernel_rfl) ?_
     refine At.next ?_
     refine At.to [(0, _), (1, _), (4, _), (6, _), (7, _)] [(16, _), (1, _), (4, _), (6, _), (7, _)] (AllL.cons_ (rfl) (AllL.cons_ (rfl) (AllL.cons_ (rfl) (AllL.cons_ (rfl) (AllL.cons_ (rfl) trivial))))) (AllL.cons_ (rfl) (AllL.cons_ (rfl) (AllL.cons_ (rfl) (AllL.cons_ (rfl) (AllL.cons_ (rfl) trivial))))) ?_
     exact hKb _ _ ⟨b6, b7, rfl, rfl⟩
    ·
     refine At.anyP (some 6) (P_assign rfl rfl) ?_
     refine At.anyStep [1] (by kernel_rfl) (by simp) ?_
     refine At.anyS (S_makeN (some 20) 7 (n := 64) (cs := (List.replicate (64) 0#8).map u8V) rfl Try.underlying22 sz5 by5 ze5 rfl rfl (by omega) (by omega) (by omega) (by omega) ((made_one (n := 64) (by omega)).trans (by rw [List.map_replicate]; rfl)) (fun b7 => ?_))
     refine At.anyStep [3] (by kernel_rfl) (by simp) ?_
     refine At.anyP (some 7) (P_assign rfl rfl) ?_
     refine At.anyEnd (by kernel_rfl) ?_
     refine At.next ?_
     refine At.to [(0, _), (1, _), (4, _), (6, _), (7, _)] [(16, _), (1, _), (4, _), (6, _), (7, _)] (AllL.cons_ (rfl) (AllL.cons_ (rfl) (AllL.cons_ (rfl) (AllL.cons_ (rfl) (AllL.cons_ (rfl) trivial))))) (AllL.cons_ (rfl) (AllL.cons_ (rfl) (AllL.cons_ (rfl) (AllL.cons_ (rfl) (AllL.cons_ (rfl) trivial))))) ?_
     exact hKb _ _ ⟨b6, b7, rfl, rfl⟩
   ·
    refine At.anyS (S_makeN (some 20) 7 (n := 64) (cs := (List.replicate (64) 0#8).map u8V) rfl Try.underlying22 sz5 by5 ze5 rfl rfl (by omega) (by omega) (by omega) (by omega) ((made_one (n := 64) (by omega)).trans (by rw [List.map_replicate]; rfl)) (fun b7 => ?_))
    refine At.anyStep [0] (by kernel_rfl) (by simp) ?_
    refine At.anyS (S_makeN (some 19) 6 (n := 64) (cs := (List.replicate (64) 0#8).map u8V) rfl Try.underlying22 sz5 by5 ze5 rfl rfl (by omega) (by omega) (by omega) (by omega) ((made_one (n := 64) (by omega)).trans (by rw [List.map_replicate]; rfl)) (fun b6 => ?_))
    refine At.anyStep [2] (by kernel_rfl) (by simp) ?_
    refine At.anyP (some 6) (P_assign rfl rfl) ?_
    refine At.anyStep [3] (by kernel_rfl) (by simp) ?_
    refine At.anyP (some 7) (P_assign rfl rfl) ?_
    refine At.anyEnd (by kernel_rfl) ?_
    refine At.next ?_
    refine At.to [(0, _), (1, _), (4, _), (6, _), (7, _)] [(16, _), (1, _), (4, _), (6, _), (7, _)] (AllL.cons_ (rfl) (AllL.cons_ (rfl) (AllL.cons_ (rfl) (AllL.cons_ (rfl) (AllL.cons_ (rfl) trivial))))) (AllL.cons_ (rfl) (AllL.cons_ (rfl) (AllL.cons_ (rfl) (AllL.cons_ (rfl) (AllL.cons_ (rfl) trivial))))) ?_
    exact hKb _ _ ⟨b6, b7, rfl, rfl⟩
  ·
   rintro fr H ⟨b6, b7, rfl, rfl⟩
   refine At.next ?_
   refine At.seq ?_
   refine At.seq ?_
   refine At.region ?_
   refine At.p (some 8) (P_assign rfl rfl) ?_
   refine At.nil ?_
   refine At.next ?_
   refine At.block ?_
   refine At.loopx (I := fun m fr H => ∃ i, m = 64 - i ∧ fr = frOf [(0, .slice A18 (sumS key).length c18), (1, .slice A2 b.length cb), (4, ptr b4 0), (6, .slice (some ⟨b6, 0, none⟩) 64 64), (7, .slice (some ⟨b7, 0, none⟩) 64 64), (8, iV (i : Int))] ∧ H = hOf [(16, ⟨true, b18, 0, 5, (sumS key).map u8V, c18 - (sumS key).length⟩), (1, pRow br r b), (4, ⟨true, b4, 0, 23, (List.replicate 32 0#8).map u8V, 0⟩), (6, ⟨true, b6, 0, 5, (yTo (sumS key) 54#8 i).map u8V, 0⟩), (7, ⟨true, b7, 0, 5, (yTo (sumS key) 92#8 i).map u8V, 0⟩)] ∧ i ≤ 64) ?_ ?_
   ·
    intro Kc0 hKc0
    refine At.to [(0, _), (1, _), (4, _), (6, _), (7, _), (8, _)] [(16, _), (1, _), (4, _), (6, ⟨true, b6, 0, 5, (yTo (sumS key) 54#8 0).map u8V, 0⟩), (7, ⟨true, b7, 0, 5, (yTo (sumS key) 92#8 0).map u8V, 0⟩)] (AllL.cons_ (rfl) (AllL.cons_ (rfl) (AllL.cons_ (rfl) (AllL.cons_ (rfl) (AllL.cons_ (rfl) (AllL.cons_ (rfl) trivial)))))) (AllL.cons_ (rfl) (AllL.cons_ (rfl) (AllL.cons_ (rfl) (AllL.cons_ (rfl) (AllL.cons_ (rfl) trivial))))) ?_
    exact hKc0 _ _ _ ⟨0, rfl, rfl, rfl, by omega⟩
   ·
    rintro m fr H ⟨i, rfl, rfl, rfl, hi⟩ Kc0 hKc0
    refine At.seq ?_
    refine At.seq ?_
    refine At.region ?_
    refine At.p (some 21) (P_move rfl rfl) ?_
    refine At.p (some 22) (P_cmp rfl rfl rfl rfl rfl rfl) ?_
    refine At.nil ?_
    refine At.next ?_
    refine At.cond rfl (fun h22 => ?_) (fun h22 => ?_)
    · -- cond 22 t
     have hlt : i < 64 := by simp at h22; omega
     have hy6 := fun K x => yTo_len K x hi
     have y1 := hy6 key 54#8
     have y2 := hy6 key 92#8
     have y3 := hy6 (sumS key) 54#8
     have y4 := hy6 (sumS key) 92#8
     refine At.skip ?_
     refine At.next ?_
     refine At.seq ?_
     refine At.block ?_
     refine At.seq ?_
     refine At.region ?_
     refine At.p (some 9) (P_assign rfl rfl) ?_
     refine At.nil ?_
     refine At.next ?_
     refine At.seq ?_
     refine At.seq ?_
     refine At.region ?_
     refine At.p (some 25) (P_move rfl rfl) ?_
     refine At.p (some 26) (P_move rfl rfl) ?_
     refine At.p (some 27) (P_len_sl rfl rfl ⟨_, Try.underlying22⟩ rfl) ?_
     refine At.p (some 28) (P_cmp rfl rfl rfl rfl rfl rfl) ?_
     refine At.nil ?_
     refine At.next ?_
     refine At.cond rfl (fun h28 => ?_) (fun h28 => ?_)
     · -- cond 28 t
      have hki : i < (sumS key).length := by simpa using h28
      have hkb := (keyB_at (sumS key) i).trans (if_pos hki)
      refine At.region ?_
      refine At.p (some 29) (P_move rfl rfl) ?_
      refine At.p (some 30) (P_move rfl rfl) ?_
      refine At.p (some 31) (P_indexAddr_sl1 rfl Try.underlying22 sz5 rfl (g18a (by omega)) rfl rfl (by omega)) ?_
      refine At.q (some 32) (Q_loadR (l := (sumS key)) (k := 16) (j := i) (0#8) rfl rfl Try.underlying5 rfl rfl rfl (by omega)) ?_
      refine At.p (some 9) (P_assign rfl rfl) ?_
      refine At.nil ?_
      refine At.next ?_
      refine At.region ?_
      refine At.p (some 33) (P_move rfl rfl) ?_
      refine At.p (some 34) (P_move rfl rfl) ?_
      refine At.p (some 35) (P_move rfl rfl) ?_
      refine At.p (some 36) (P_move rfl rfl) ?_
      refine At.p (some 37) (P_move rfl rfl) ?_
      refine At.p (some 38) (P_xor_w UK.u8 (b := 54#8) rfl rfl rfl) ?_
      refine At.p (some 39) (P_move rfl rfl) ?_
      refine At.p (some 40) (P_xor_w UK.u8 (b := 92#8) rfl rfl rfl) ?_
      refine At.p (some 41) (P_indexAddr_slz rfl Try.underlying22 sz5 rfl rfl rfl rfl (by omega)) ?_
      refine At.s (S_storeM none (f := u8V) (k := 6) rfl rfl rfl sz5 rfl rfl rfl WD ?_)
      refine At.p (some 42) (P_indexAddr_slz rfl Try.underlying22 sz5 rfl rfl rfl rfl (by omega)) ?_
      refine At.s (S_storeM none (f := u8V) (k := 7) rfl rfl rfl sz5 rfl rfl rfl WD ?_)
      refine At.nil ?_
      refine At.inb_n ?_
      refine At.next ?_
      refine At.region ?_
      refine At.p (some 23) (P_move rfl rfl) ?_
      refine At.p (some 24) (P_add_i rfl rfl rfl (by omega)) ?_
      refine At.p (some 8) (P_assign rfl rfl) ?_
      refine At.nil ?_
      refine At.next ?_
      refine At.to [(0, _), (1, _), (4, _), (6, _), (7, _), (8, _)] [(16, _), (1, _), (4, _), (6, ⟨true, b6, 0, 5, (yTo (sumS key) 54#8 (i + 1)).map u8V, 0⟩), (7, ⟨true, b7, 0, 5, (yTo (sumS key) 92#8 (i + 1)).map u8V, 0⟩)] (AllL.cons_ (rfl) (AllL.cons_ (rfl) (AllL.cons_ (rfl) (AllL.cons_ (rfl) (AllL.cons_ (rfl) (AllL.cons_ (rfl) trivial)))))) (AllL.cons_ (rfl) (AllL.cons_ (rfl) (AllL.cons_ (rfl) (AllL.cons_ (congrArg (fun z => some (⟨true, b6, 0, 5, List.map u8V z, 0⟩ : Row)) (by rw [← yTo_set _ _ hlt, hkb])) (AllL.cons_ (congrArg (fun z => some (⟨true, b7, 0, 5, List.map u8V z, 0⟩ : Row)) (by rw [← yTo_set _ _ hlt, hkb])) trivial))))) ?_
      exact hKc0 _ _ _ (by omega) ⟨i + 1, rfl, rfl, rfl, by omega⟩
     · -- cond 28 f
      have hki : ¬ i < (sumS key).length := by simpa using h28
      have hkb := (keyB_at (sumS key) i).trans (if_neg hki)
      refine At.skip ?_
      refine At.next ?_
      refine At.region ?_
      refine At.p (some 33) (P_move rfl rfl) ?_
      refine At.p (some 34) (P_move rfl rfl) ?_
      refine At.p (some 35) (P_move rfl rfl) ?_
      refine At.p (some 36) (P_move rfl rfl) ?_
      refine At.p (some 37) (P_move rfl rfl) ?_
      refine At.p (some 38) (P_xor_w UK.u8 (a := 0#8) (b := 54#8) rfl rfl rfl) ?_
      refine At.p (some 39) (P_move rfl rfl) ?_
      refine At.p (some 40) (P_xor_w UK.u8 (a := 0#8) (b := 92#8) rfl rfl rfl) ?_
      refine At.p (some 41) (P_indexAddr_slz rfl Try.underlying22 sz5 rfl rfl rfl rfl (by omega)) ?_
      refine At.s (S_storeM none (f := u8V) (k := 6) rfl rfl rfl sz5 rfl rfl rfl WD ?_)
      refine At.p (some 42) (P_indexAddr_slz rfl Try.underlying22 sz5 rfl rfl rfl rfl (by omega)) ?_
      refine At.s (S_storeM none (f := u8V) (k := 7) rfl rfl rfl sz5 rfl rfl rfl WD ?_)
      refine At.nil ?_
      refine At.inb_n ?_
      refine At.next ?_
      refine At.region ?_
      refine At.p (some 23) (P_move rfl rfl) ?_
      refine At.p (some 24) (P_add_i rfl rfl rfl (by omega)) ?_
      refine At.p (some 8) (P_assign rfl rfl) ?_
      refine At.nil ?_
      refine At.next ?_
      refine At.to [(0, _), (1, _), (4, _), (6, _), (7, _), (8, _)] [(16, _), (1, _), (4, _), (6, ⟨true, b6, 0, 5, (yTo (sumS key) 54#8 (i + 1)).map u8V, 0⟩), (7, ⟨true, b7, 0, 5, (yTo (sumS key) 92#8 (i + 1)).map u8V, 0⟩)] (AllL.cons_ (rfl) (AllL.cons_ (rfl) (AllL.cons_ (rfl) (AllL.cons_ (rfl) (AllL.cons_ (rfl) (AllL.cons_ (rfl) trivial)))))) (AllL.cons_ (rfl) (AllL.cons_ (rfl) (AllL.cons_ (rfl) (AllL.cons_ (congrArg (fun z => some (⟨true, b6, 0, 5, List.map u8V z, 0⟩ : Row)) (by rw [← yTo_set _ _ hlt, hkb])) (AllL.cons_ (congrArg (fun z => some (⟨true, b7, 0, 5, List.map u8V z, 0⟩ : Row)) (by rw [← yTo_set _ _ hlt, hkb])) trivial))))) ?_
      exact hKc0 _ _ _ (by omega) ⟨i + 1, rfl, rfl, rfl, by omega⟩
    · -- cond 22 f
     obtain rfl : i = 64 := by simp at h22; omega
     refine At.exit ?_
     refine At.thn_e ?_
     refine At.thn_e ?_
     refine At.inb_hit ?_
     refine At.next ?_
     refine At.seq ?_
     have hs2 := sumS_len (keyedS (sumS key) 54#8 ++ b)
     have hs3 := sumS_len (keyedS (sumS key) 92#8 ++ sumS (keyedS (sumS key) 54#8 ++ b))
     refine At.region ?_
     refine At.p (some 43) (P_move rfl rfl) ?_
     refine At.p (some 44) (P_move rfl rfl) ?_
     refine At.s (S_appendM (some 45) 6 (keyedS (sumS key) 54#8 ++ b) (f := u8V) (l := keyedS (sumS key) 54#8) (L := b) rfl Try.underlying22 Try.underlying22 (.inr ⟨_, rfl⟩) sz5 by5 ze5 rfl rfl (fun h => ⟨rfl, by rw [← yTo_64]; rfl⟩) (keyedS_len _ _) rfl (Src.row (k := 1) (j := 0) rfl hB (fun _ => ⟨rfl, rfl, rfl⟩) (by simp [pRow, List.take_of_length_le]) (by simp)) (fun _ => rfl) (by omega) (by omega) rfl rfl ?_)
     intro A45 b45 c45 g45a g45b
     refine At.s (S_callV (some 46) [(6, _)] [] (vs := [_]) rfl en56 rfl (VN (by simp) rfl View.all V0) (by simp) (r_SumN (l := keyedS (sumS key) 54#8 ++ b) (n := (keyedS (sumS key) 54#8 ++ b).length) rfl (fun h => g45a (by omega)) (by simp [keyedS_len]; omega)) (by rintro _ _ ⟨rfl, rfl⟩; rfl) ?_)
     rintro _ _ ⟨rfl, rfl⟩
     refine At.s (S_alloc (some 10) 10 (zs := (List.replicate 32 0#8).map u8V) rfl ze23 rfl (fun b10 => ?_))
     refine At.s (S_storeA none (k := 10) (vs := _) rfl rfl rfl (by first | (rw [sz23]; simp <;> omega) | exact sz23) rfl WA WB rfl WC ?_)
     refine At.nil ?_
     refine At.next ?_
     refine At.seq ?_
     refine At.region ?_
     refine At.p (some 47) (P_move rfl rfl) ?_
     refine At.p (some 48) (P_slice_arr1 rfl Try.underlying23 sz5 rfl rfl rfl rfl (by omega) (by omega) (by omega) (by omega)) ?_
     refine At.s (S_appendM (some 49) 7 (keyedS (sumS key) 92#8 ++ sumS (keyedS (sumS key) 54#8 ++ b)) (f := u8V) (l := keyedS (sumS key) 92#8) (L := sumS (keyedS (sumS key) 54#8 ++ b)) rfl Try.underlying22 Try.underlying22 (.inr ⟨_, rfl⟩) sz5 by5 ze5 rfl rfl (fun h => ⟨rfl, by rw [← yTo_64]; rfl⟩) (keyedS_len _ _) rfl (Src.row (k := 10) (j := 0) rfl (fun _ => rfl) (fun _ => ⟨rfl, rfl, rfl⟩) (by simp [List.take_of_length_le, sumS_len]) (by simp [sumS_len])) (fun _ => rfl) (by omega) (by omega) rfl (sumS_len _) ?_)
     intro A49 b49 c49 g49a g49b
     refine At.s (S_callV (some 50) [(7, _)] [] (vs := [_]) rfl en56 rfl (VN (by simp) rfl View.all V0) (by simp) (r_SumN (l := keyedS (sumS key) 92#8 ++ sumS (keyedS (sumS key) 54#8 ++ b)) (n := (keyedS (sumS key) 92#8 ++ sumS (keyedS (sumS key) 54#8 ++ b)).length) rfl (fun h => g49a (by omega)) (by simp [keyedS_len, sumS_len])) (by rintro _ _ ⟨rfl, rfl⟩; rfl) ?_)
     rintro _ _ ⟨rfl, rfl⟩
     refine At.s (S_storeA none (k := 4) (vs := _) rfl rfl rfl (by first | (rw [sz23]; simp <;> omega) | exact sz23) rfl WA WB rfl WC ?_)
     refine At.nil ?_
     refine At.next ?_
     refine At.ret ?_
     refine At.giveV (.inl rfl) [] (rows' := []) (ResV.cellA (k := 4) rfl rfl Try.underlying23 rfl sz23 (by rw [List.length_map, sumS_len]) rfl) rfl (by simp) (by simp) ?_
     exact ⟨by rw [macS, hke]; rfl, rfl⟩
 · -- cond 13 f
  have hgt : ¬ 64 < key.length := by simp at h13; omega
  have hke : keyS key = key := by rw [keyS, if_neg hgt]
  refine At.skip ?_
  refine At.next ?_
  refine At.seq ?_
  refine At.brute (fun fr H => ∃ b6 b7, fr = frOf [(0, .slice A key.length ca), (1, .slice A2 b.length cb), (4, ptr b4 0), (6, .slice (some ⟨b6, 0, none⟩) 64 64), (7, .slice (some ⟨b7, 0, none⟩) 64 64)] ∧ H = hOf [(0, pRow bq q key), (1, pRow br r b), (4, ⟨true, b4, 0, 23, (List.replicate 32 0#8).map u8V, 0⟩), (6, ⟨true, b6, 0, 5, (List.replicate 64 0#8).map u8V, 0⟩), (7, ⟨true, b7, 0, 5, (List.replicate 64 0#8).map u8V, 0⟩)]) (by kernel_rfl) ?_ ?_
  ·
   intro Kb hKb
   refine At.anyStep [0, 1] (by kernel_rfl) (by simp) ?_
   refine ⟨?_, ?_⟩
   ·
    refine At.anyS (S_makeN (some 19) 6 (n := 64) (cs := (List.replicate (64) 0#8).map u8V) rfl Try.underlying22 sz5 by5 ze5 rfl rfl (by omega) (by omega) (by omega) (by omega) ((made_one (n := 64) (by omega)).trans (by rw [List.map_replicate]; rfl)) (fun b6 => ?_))
    refine At.anyStep [1, 2] (by kernel_rfl) (by simp) ?_
    refine ⟨?_, ?_⟩
    ·
     refine At.anyS (S_makeN (some 20) 7 (n := 64) (cs := (List.replicate (64) 0#8).map u8V) rfl Try.underlying22 sz5 by5 ze5 rfl rfl (by omega) (by omega) (by omega) (by omega) ((made_one (n := 64) (by omega)).trans (by rw [List.map_replicate]; rfl)) (fun b7 => ?_))
     refine At.anyStep [2] (by kernel_rfl) (by simp) ?_
     refine At.anyP (some 6) (P_assign rfl rfl) ?_
     refine At.anyStep [3] (by kernel_rfl) (by simp) ?_
     refine At.anyP (some 7) (P_assign rfl rfl) ?_
     refine At.anyEnd (by kernel_rfl) ?_
     refine At.next ?_
     refine At.to [(0, _), (1, _), (4, _), (6, _), (7, _)] [(0, _), (1, _), (4, _), (6, _), (7, _)] (AllL.cons_ (rfl) (AllL.cons_ (rfl) (AllL.cons_ (rfl) (AllL.cons_ (rfl) (AllL.cons_ (rfl) trivial))))) (AllL.cons_ (rfl) (AllL.cons_ (rfl) (AllL.cons_ (rfl) (AllL.cons_ (rfl) (AllL.cons_ (rfl) trivial))))) ?_
     exact hKb _ _ ⟨b6, b7, rfl, rfl⟩
    ·
     refine At.anyP (some 6) (P_assign rfl rfl) ?_
     refine At.anyStep [1] (by kernel_rfl) (by simp) ?_
     refine At.anyS (S_makeN (some 20) 7 (n := 64) (cs := (List.replicate (64) 0#8).map u8V) rfl Try.underlying22 sz5 by5 ze5 rfl rfl (by omega) (by omega) (by omega) (by omega) ((made_one (n := 64) (by omega)).trans (by rw [List.map_replicate]; rfl)) (fun b7 => ?_))
     refine At.anyStep [3] (by kernel_rfl) (by simp) ?_
     refine At.anyP (some 7) (P_assign rfl rfl) ?_
     refine At.anyEnd (by kernel_rfl) ?_
     refine At.next ?_
     refine At.to [(0, _), (1, _), (4, _), (6, _), (7, _)] [(0, _), (1, _), (4, _), (6, _), (7, _)] (AllL.cons_ (rfl) (AllL.cons_ (rfl) (AllL.cons_ (rfl) (AllL.cons_ (rfl) (AllL.cons_ (rfl) trivial))))) (AllL.cons_ (rfl) (AllL.cons_ (rfl) (AllL.cons_ (rfl) (AllL.cons_ (rfl) (AllL.cons_ (rfl) trivial))))) ?_
     exact hKb _ _ ⟨b6, b7, rfl, rfl⟩
   ·
    refine At.anyS (S_makeN (some 20) 7 (n := 64) (cs := (List.replicate (64) 0#8).map u8V) rfl Try.underlying22 sz5 by5 ze5 rfl rfl (by omega) (by omega) (by omega) (by omega) ((made_one (n := 64) (by omega)).trans (by rw [List.map_replicate]; rfl)) (fun b7 => ?_))
    refine At.anyStep [0] (by kernel_rfl) (by simp) ?_
    refine At.anyS (S_makeN (some 19) 6 (n := 64) (cs := (List.replicate (64) 0#8).map u8V) rfl Try.underlying22 sz5 by5 ze5 rfl rfl (by omega) (by omega) (by omega) (by omega) ((made_one (n := 64) (by omega)).trans (by rw [List.map_replicate]; rfl)) (fun b6 => ?_))
    refine At.anyStep [2] (by kernel_rfl) (by simp) ?_
    refine At.anyP (some 6) (P_assign rfl rfl) ?_
    refine At.anyStep [3] (by kernel_rfl) (by simp) ?_
    refine At.anyP (some 7) (P_assign rfl rfl) ?_
    refine At.anyEnd (by kernel_rfl) ?_
    refine At.next ?_
    refine At.to [(0, _), (1, _), (4, _), (6, _), (7, _)] [(0, _), (1, _), (4, _), (6, _), (7, _)] (AllL.cons_ (rfl) (AllL.cons_ (rfl) (AllL.cons_ (rfl) (AllL.cons_ (rfl) (AllL.cons_ (rfl) trivial))))) (AllL.cons_ (rfl) (AllL.cons_ (rfl) (AllL.cons_ (rfl) (AllL.cons_ (rfl) (AllL.cons_ (rfl) trivial))))) ?_
    exact hKb _ _ ⟨b6, b7, rfl, rfl⟩
  ·
   rintro fr H ⟨b6, b7, rfl, rfl⟩
   refine At.next ?_
   refine At.seq ?_
   refine At.seq ?_
   refine At.region ?_
   refine At.p (some 8) (P_assign rfl rfl) ?_
   refine At.nil ?_
   refine At.next ?_
   refine At.block ?_
   refine At.loopx (I := fun m fr H => ∃ i, m = 64 - i ∧ fr = frOf [(0, .slice A key.length ca), (1, .slice A2 b.length cb), (4, ptr b4 0), (6, .slice (some ⟨b6, 0, none⟩) 64 64), (7, .slice (some ⟨b7, 0, none⟩) 64 64), (8, iV (i : Int))] ∧ H = hOf [(0, pRow bq q key), (1, pRow br r b), (4, ⟨true, b4, 0, 23, (List.replicate 32 0#8).map u8V, 0⟩), (6, ⟨true, b6, 0, 5, (yTo key 54#8 i).map u8V, 0⟩), (7, ⟨true, b7, 0, 5, (yTo key 92#8 i).map u8V, 0⟩)] ∧ i ≤ 64) ?_ ?_
   ·
    intro Kc0 hKc0
    refine At.to [(0, _), (1, _), (4, _), (6, _), (7, _), (8, _)] [(0, _), (1, _), (4, _), (6, ⟨true, b6, 0, 5, (yTo key 54#8 0).map u8V, 0⟩), (7, ⟨true, b7, 0, 5, (yTo key 92#8 0).map u8V, 0⟩)] (AllL.cons_ (rfl) (AllL.cons_ (rfl) (AllL.cons_ (rfl) (AllL.cons_ (rfl) (AllL.cons_ (rfl) (AllL.cons_ (rfl) trivial)))))) (AllL.cons_ (rfl) (AllL.cons_ (rfl) (AllL.cons_ (rfl) (AllL.cons_ (rfl) (AllL.cons_ (rfl) trivial))))) ?_
    exact hKc0 _ _ _ ⟨0, rfl, rfl, rfl, by omega⟩
   ·
    rintro m fr H ⟨i, rfl, rfl, rfl, hi⟩ Kc0 hKc0
    refine At.seq ?_
    refine At.seq ?_
    refine At.region ?_
    refine At.p (some 21) (P_move rfl rfl) ?_
    refine At.p (some 22) (P_cmp rfl rfl rfl rfl rfl rfl) ?_
    refine At.nil ?_
    refine At.next ?_
    refine At.cond rfl (fun h22 => ?_) (fun h22 => ?_)
    · -- cond 22 t
     have hlt : i < 64 := by simp at h22; omega
     have hy6 := fun K x => yTo_len K x hi
     have y1 := hy6 key 54#8
     have y2 := hy6 key 92#8
     have y3 := hy6 (sumS key) 54#8
     have y4 := hy6 (sumS key) 92#8
     refine At.skip ?_
     refine At.next ?_
     refine At.seq ?_
     refine At.block ?_
     refine At.seq ?_
     refine At.region ?_
     refine At.p (some 9) (P_assign rfl rfl) ?_
     refine At.nil ?_
     refine At.next ?_
     refine At.seq ?_
     refine At.seq ?_
     refine At.region ?_
     refine At.p (some 25) (P_move rfl rfl) ?_
     refine At.p (some 26) (P_move rfl rfl) ?_
     refine At.p (some 27) (P_len_sl rfl rfl ⟨_, Try.underlying22⟩ rfl) ?_
     refine At.p (some 28) (P_cmp rfl rfl rfl rfl rfl rfl) ?_
     refine At.nil ?_
     refine At.next ?_
     refine At.cond rfl (fun h28 => ?_) (fun h28 => ?_)
     · -- cond 28 t
      have hki : i < key.length := by simpa using h28
      have hkb := (keyB_at key i).trans (if_pos hki)
      refine At.region ?_
      refine At.p (some 29) (P_move rfl rfl) ?_
      refine At.p (some 30) (P_move rfl rfl) ?_
      refine At.p (some 31) (P_indexAddr_sl1 rfl Try.underlying22 sz5 rfl (hA (by omega)) rfl rfl (by omega)) ?_
      refine At.q (some 32) (Q_loadR (l := key) (k := 0) (j := i) (0#8) rfl rfl Try.underlying5 rfl rfl rfl (by omega)) ?_
      refine At.p (some 9) (P_assign rfl rfl) ?_
      refine At.nil ?_
      refine At.next ?_
      refine At.region ?_
      refine At.p (some 33) (P_move rfl rfl) ?_
      refine At.p (some 34) (P_move rfl rfl) ?_
      refine At.p (some 35) (P_move rfl rfl) ?_
      refine At.p (some 36) (P_move rfl rfl) ?_
      refine At.p (some 37) (P_move rfl rfl) ?_
      refine At.p (some 38) (P_xor_w UK.u8 (b := 54#8) rfl rfl rfl) ?_
      refine At.p (some 39) (P_move rfl rfl) ?_
      refine At.p (some 40) (P_xor_w UK.u8 (b := 92#8) rfl rfl rfl) ?_
      refine At.p (some 41) (P_indexAddr_slz rfl Try.underlying22 sz5 rfl rfl rfl rfl (by omega)) ?_
      refine At.s (S_storeM none (f := u8V) (k := 6) rfl rfl rfl sz5 rfl rfl rfl WD ?_)
      refine At.p (some 42) (P_indexAddr_slz rfl Try.underlying22 sz5 rfl rfl rfl rfl (by omega)) ?_
      refine At.s (S_storeM none (f := u8V) (k := 7) rfl rfl rfl sz5 rfl rfl rfl WD ?_)
      refine At.nil ?_
      refine At.inb_n ?_
      refine At.next ?_
      refine At.region ?_
      refine At.p (some 23) (P_move rfl rfl) ?_
      refine At.p (some 24) (P_add_i rfl rfl rfl (by omega)) ?_
      refine At.p (some 8) (P_assign rfl rfl) ?_
      refine At.nil ?_
      refine At.next ?_
      refine At.to [(0, _), (1, _), (4, _), (6, _), (7, _), (8, _)] [(0, _), (1, _), (4, _), (6, ⟨true, b6, 0, 5, (yTo key 54#8 (i + 1)).map u8V, 0⟩), (7, ⟨true, b7, 0, 5, (yTo key 92#8 (i + 1)).map u8V, 0⟩)] (AllL.cons_ (rfl) (AllL.cons_ (rfl) (AllL.cons_ (rfl) (AllL.cons_ (rfl) (AllL.cons_ (rfl) (AllL.cons_ (rfl) trivial)))))) (AllL.cons_ (rfl) (AllL.cons_ (rfl) (AllL.cons_ (rfl) (AllL.cons_ (congrArg (fun z => some (⟨true, b6, 0, 5, List.map u8V z, 0⟩ : Row)) (by rw [← yTo_set _ _ hlt, hkb])) (AllL.cons_ (congrArg (fun z => some (⟨true, b7, 0, 5, List.map u8V z, 0⟩ : Row)) (by rw [← yTo_set _ _ hlt, hkb])) trivial))))) ?_
      exact hKc0 _ _ _ (by omega) ⟨i + 1, rfl, rfl, rfl, by omega⟩
     · -- cond 28 f
      have hki : ¬ i < key.length := by simpa using h28
      have hkb := (keyB_at key i).trans (if_neg hki)
      refine At.skip ?_
      refine At.next ?_
      refine At.region ?_
      refine At.p (some 33) (P_move rfl rfl) ?_
      refine At.p (some 34) (P_move rfl rfl) ?_
      refine At.p (some 35) (P_move rfl rfl) ?_
      refine At.p (some 36) (P_move rfl rfl) ?_
      refine At.p (some 37) (P_move rfl rfl) ?_
      refine At.p (some 38) (P_xor_w UK.u8 (a := 0#8) (b := 54#8) rfl rfl rfl) ?_
      refine At.p (some 39) (P_move rfl rfl) ?_
      refine At.p (some 40) (P_xor_w UK.u8 (a := 0#8) (b := 92#8) rfl rfl rfl) ?_
      refine At.p (some 41) (P_indexAddr_slz rfl Try.underlying22 sz5 rfl rfl rfl rfl (by omega)) ?_
      refine At.s (S_storeM none (f := u8V) (k := 6) rfl rfl rfl sz5 rfl rfl rfl WD ?_)
      refine At.p (some 42) (P_indexAddr_slz rfl Try.underlying22 sz5 rfl rfl rfl rfl (by omega)) ?_
      refine At.s (S_storeM none (f := u8V) (k := 7) rfl rfl rfl sz5 rfl rfl rfl WD ?_)
      refine At.nil ?_
      refine At.inb_n ?_
      refine At.next ?_
      refine At.region ?_
      refine At.p (some 23) (P_move rfl rfl) ?_
      refine At.p (some 24) (P_add_i rfl rfl rfl (by omega)) ?_
      refine At.p (some 8) (P_assign rfl rfl) ?_
      refine At.nil ?_
      refine At.next ?_
      refine At.to [(0, _), (1, _), (4, _), (6, _), (7, _), (8, _)] [(0, _), (1, _), (4, _), (6, ⟨true, b6, 0, 5, (yTo key 54#8 (i + 1)).map u8V, 0⟩), (7, ⟨true, b7, 0, 5, (yTo key 92#8 (i + 1)).map u8V, 0⟩)] (AllL.cons_ (rfl) (AllL.cons_ (rfl) (AllL.cons_ (rfl) (AllL.cons_ (rfl) (AllL.cons_ (rfl) (AllL.cons_ (rfl) trivial)))))) (AllL.cons_ (rfl) (AllL.cons_ (rfl) (AllL.cons_ (rfl) (AllL.cons_ (congrArg (fun z => some (⟨true, b6, 0, 5, List.map u8V z, 0⟩ : Row)) (by rw [← yTo_set _ _ hlt, hkb])) (AllL.cons_ (congrArg (fun z => some (⟨true, b7, 0, 5, List.map u8V z, 0⟩ : Row)) (by rw [← yTo_set _ _ hlt, hkb])) trivial))))) ?_
      exact hKc0 _ _ _ (by omega) ⟨i + 1, rfl, rfl, rfl, by omega⟩
    · -- cond 22 f
     obtain rfl : i = 64 := by simp at h22; omega
     refine At.exit ?_
     refine At.thn_e ?_
     refine At.thn_e ?_
     refine At.inb_hit ?_
     refine At.next ?_
     refine At.seq ?_
     have hs2 := sumS_len (keyedS key 54#8 ++ b)
     have hs3 := sumS_len (keyedS key 92#8 ++ sumS (keyedS key 54#8 ++ b))
     refine At.region ?_
     refine At.p (some 43) (P_move rfl rfl) ?_
     refine At.p (some 44) (P_move rfl rfl) ?_
     refine At.s (S_appendM (some 45) 6 (keyedS key 54#8 ++ b) (f := u8V) (l := keyedS key 54#8) (L := b) rfl Try.underlying22 Try.underlying22 (.inr ⟨_, rfl⟩) sz5 by5 ze5 rfl rfl (fun h => ⟨rfl, by rw [← yTo_64]; rfl⟩) (keyedS_len _ _) rfl (Src.row (k := 1) (j := 0) rfl hB (fun _ => ⟨rfl, rfl, rfl⟩) (by simp [pRow, List.take_of_length_le]) (by simp)) (fun _ => rfl) (by omega) (by omega) rfl rfl ?_)
     intro A45 b45 c45 g45a g45b
     refine At.s (S_callV (some 46) [(6, _)] [] (vs := [_]) rfl en56 rfl (VN (by simp) rfl View.all V0) (by simp) (r_SumN (l := keyedS key 54#8 ++ b) (n := (keyedS key 54#8 ++ b).length) rfl (fun h => g45a (by omega)) (by simp [keyedS_len]; omega)) (by rintro _ _ ⟨rfl, rfl⟩; rfl) ?_)
     rintro _ _ ⟨rfl, rfl⟩
     refine At.s (S_alloc (some 10) 10 (zs := (List.replicate 32 0#8).map u8V) rfl ze23 rfl (fun b10 => ?_))
     refine At.s (S_storeA none (k := 10) (vs := _) rfl rfl rfl (by first | (rw [sz23]; simp <;> omega) | exact sz23) rfl WA WB rfl WC ?_)
     refine At.nil ?_
     refine At.next ?_
     refine At.seq ?_
     refine At.region ?_
     refine At.p (some 47) (P_move rfl rfl) ?_
     refine At.p (some 48) (P_slice_arr1 rfl Try.underlying23 sz5 rfl rfl rfl rfl (by omega) (by omega) (by omega) (by omega)) ?_
     refine At.s (S_appendM (some 49) 7 (keyedS key 92#8 ++ sumS (keyedS key 54#8 ++ b)) (f := u8V) (l := keyedS key 92#8) (L := sumS (keyedS key 54#8 ++ b)) rfl Try.underlying22 Try.underlying22 (.inr ⟨_, rfl⟩) sz5 by5 ze5 rfl rfl (fun h => ⟨rfl, by rw [← yTo_64]; rfl⟩) (keyedS_len _ _) rfl (Src.row (k := 10) (j := 0) rfl (fun _ => rfl) (fun _ => ⟨rfl, rfl, rfl⟩) (by simp [List.take_of_length_le, sumS_len]) (by simp [sumS_len])) (fun _ => rfl) (by omega) (by omega) rfl (sumS_len _) ?_)
     intro A49 b49 c49 g49a g49b
     refine At.s (S_callV (some 50) [(7, _)] [] (vs := [_]) rfl en56 rfl (VN (by simp) rfl View.all V0) (by simp) (r_SumN (l := keyedS key 92#8 ++ sumS (keyedS key 54#8 ++ b)) (n := (keyedS key 92#8 ++ sumS (keyedS key 54#8 ++ b)).length) rfl (fun h => g49a (by omega)) (by simp [keyedS_len, sumS_len])) (by rintro _ _ ⟨rfl, rfl⟩; rfl) ?_)
     rintro _ _ ⟨rfl, rfl⟩
     refine At.s (S_storeA none (k := 4) (vs := _) rfl rfl rfl (by first | (rw [sz23]; simp <;> omega) | exact sz23) rfl WA WB rfl WC ?_)
     refine At.nil ?_
     refine At.next ?_
     refine At.ret ?_
     refine At.giveV (.inl rfl) [] (rows' := []) (ResV.cellA (k := 4) rfl rfl Try.underlying23 rfl sz23 (by rw [List.length_map, sumS_len]) rfl) rfl (by simp) (by simp) ?_
     exact ⟨by rw [macS, hke]; rfl, rfl⟩

theorem c_MacN {A A2 : Option Addr} {key b : List (BitVec 8)} {n nb ca cb bq q br r : Nat} (hn : key.length = n) (hnb : b.length = nb) (hA : 0 < n → A = some ⟨bq, q, none⟩) (hB : 0 < nb → A2 = some ⟨br, r, none⟩) (hl : n ≤ 1000000) (hlb : nb ≤ 900000) :
  Con Try.prog 64 [.slice A n ca, .slice A2 nb cb] [pRow bq q key, pRow br r b] (fun v rs => v = aggK (macS key b) ∧ rs = []) := by
 subst hn hnb
 exact c_Mac A A2 key b ca cb bq q br r hA hB hl hlb
theorem r_MacN {A A2 : Option Addr} {key b : List (BitVec 8)} {n nb ca cb bq q br r : Nat} (hn : key.length = n) (hnb : b.length = nb) (hA : 0 < n → A = some ⟨bq, q, none⟩) (hB : 0 < nb → A2 = some ⟨br, r, none⟩) (hl : n ≤ 1000000) (hlb : nb ≤ 900000) :
  Con Try.prog 60 [.slice A n ca, .slice A2 nb cb] [pRow bq q key, pRow br r b] (fun v rs => v = aggK (macS key b) ∧ rs = []) := by
 subst hn hnb
 exact r_Mac A A2 key b ca cb bq q br r hA hB hl hlb

end Go.Proofs.Ytihciioopdalnaa

