import Derived.Test.YtcjfkmhijfcciaaXP1
import Derived.Test.YtcjfkmhijfcciaaSE33
namespace Go.Proofs.Ytcjfkmhijfcciaa
set_option maxRecDepth 20000
set_option linter.unusedVariables false
set_option linter.unusedSimpArgs false
open Go.SE Go.RowKit
/-- The number of bytes, the lowest first. -/
def leN : List (BitVec 8) → Nat
 | [] => 0
 | x :: l => x.toNat + 256 * leN l
theorem leN_lt : ∀ l : List (BitVec 8), leN l < 256 ^ l.length
 | [] => by simp [leN]
 | x :: l => by
  have := leN_lt l
  have := x.isLt
  simp only [leN, List.length_cons, Nat.pow_succ]
  omega
theorem leN_app : ∀ a b : List (BitVec 8), leN (a ++ b) = leN a + 256 ^ a.length * leN b
 | [], b => by simp [leN]
 | x :: a, b => by
  rw [List.cons_append, leN, leN, leN_app a b, List.length_cons, Nat.pow_succ, Nat.mul_add, Nat.mul_comm (256 ^ a.length) 256, Nat.mul_assoc]
  omega
theorem leN_take (l : List (BitVec 8)) (n : Nat) (h : n < l.length) : leN (l.take (n + 1)) = leN (l.take n) + 256 ^ n * (l.getD n 0#8).toNat := by
 have e : l.take (n + 1) = l.take n ++ [l.getD n 0#8] := by
  rw [List.take_succ_eq_append_getElem h, List.getD_eq_getElem?_getD, List.getElem?_eq_getElem h]
  rfl
 rw [e, leN_app, List.length_take, Nat.min_eq_left (by omega), leN, leN]
 simp
theorem p256 (n : Nat) : 2 ^ (8 * n) = 256 ^ n := by rw [Nat.pow_mul]
theorem le64_nat (l : List (BitVec 8)) : ∀ n, n ≤ 8 → n ≤ l.length → (le64 l 0 n).toNat = leN (l.take n)
 | 0, _, _ => by simp [le64, leN]
 | n + 1, h, hl => by
  have ih := le64_nat l n (by omega) (by omega)
  have hlt := leN_lt (l.take n)
  rw [List.length_take, Nat.min_eq_left (by omega)] at hlt
  have hb := (l.getD n 0#8).isLt
  rw [le64, leN_take l n (by omega), BitVec.toNat_or, BitVec.toNat_shiftLeft, ih, BitVec.toNat_setWidth, Nat.mod_eq_of_lt (show (l.getD (0 + n) 0#8).toNat < 2 ^ 64 from Nat.lt_trans (l.getD (0 + n) 0#8).isLt (by decide)), Nat.zero_add, Nat.shiftLeft_eq, p256]
  have hm : (l.getD n 0#8).toNat * 256 ^ n < 2 ^ 64 := by
   have : 256 ^ n ≤ 256 ^ 7 := Nat.pow_le_pow_right (by decide) (by omega)
   have h2 : (l.getD n 0#8).toNat * 256 ^ n ≤ 255 * 256 ^ 7 := Nat.mul_le_mul (by omega) this
   exact Nat.lt_of_le_of_lt h2 (by decide)
  rw [Nat.mod_eq_of_lt hm, Nat.mul_comm, Nat.or_comm, ← p256 n]
  have := Nat.two_pow_add_eq_or_of_lt (i := 8 * n) (b := leN (l.take n)) (by rw [p256]; exact hlt) (l.getD n 0#8).toNat
  rw [← this]
  omega
/-- Three words as a number. -/
def V3 (h : List (BitVec 64)) : Nat := (g3 h 0).toNat + 18446744073709551616 * (g3 h 1).toNat + 340282366920938463463374607431768211456 * (g3 h 2).toNat
theorem V3_plus (h x : List (BitVec 64)) (hv : V3 h + V3 x < 2 ^ 192) : V3 (plusS h x) = V3 h + V3 x := by
 unfold V3 at *
 have e0 : g3 (plusS h x) 0 = g3 h 0 + g3 x 0 + 0#64 := rfl
 have e1 : g3 (plusS h x) 1 = g3 h 1 + g3 x 1 + cy (g3 h 0) (g3 x 0) 0#64 := rfl
 have e2 : g3 (plusS h x) 2 = g3 h 2 + g3 x 2 + cy (g3 h 1) (g3 x 1) (cy (g3 h 0) (g3 x 0) 0#64) := rfl
 rw [e0, e1, e2]
 have c0 := cy_nat (a := g3 h 0) (b := g3 x 0) (c := 0#64) (by decide)
 have c1 := cy_nat (a := g3 h 1) (b := g3 x 1) (c := cy (g3 h 0) (g3 x 0) 0#64) (cy_le (by decide))
 have z : (0#64).toNat = 0 := rfl
 simp only [BitVec.toNat_add, c1, c0, z] at *
 have a0 := (g3 h 0).isLt
 have a1 := (g3 h 1).isLt
 have a2 := (g3 h 2).isLt
 have b0 := (g3 x 0).isLt
 have b1 := (g3 x 1).isLt
 have b2 := (g3 x 2).isLt
 generalize (g3 h 0).toNat = p0 at *
 generalize (g3 h 1).toNat = p1 at *
 generalize (g3 h 2).toNat = p2 at *
 generalize (g3 x 0).toNat = q0 at *
 generalize (g3 x 1).toNat = q1 at *
 generalize (g3 x 2).toNat = q2 at *
 omega
theorem or_bit (x : BitVec 64) (k : Nat) (hk : k < 64) (hx : x.toNat < 2 ^ k) : (x ||| 1#64 <<< k).toNat = x.toNat + 2 ^ k := by
 rw [BitVec.toNat_or, BitVec.toNat_shiftLeft, show (1#64).toNat = 1 from rfl, Nat.shiftLeft_eq, Nat.one_mul, Nat.mod_eq_of_lt (Nat.pow_lt_pow_right (by decide) hk), Nat.or_comm]
 have := Nat.two_pow_add_eq_or_of_lt (i := k) (b := x.toNat) hx 1
 rw [Nat.mul_one] at this
 rw [← this]
 omega
/-- A part's number. -/
theorem V3_part (l : List (BitVec 8)) (h : l.length ≤ 16) : V3 (partS l) = leN l + 256 ^ l.length := by
 by_cases h1 : l.length < 8
 ·
  have hlt := leN_lt l
  have e := le64_nat l l.length (by omega) (by omega)
  rw [List.take_length] at e
  have p0 : part0 l = [le64 l 0 l.length, 0#64, 0#64] := by rw [part0, if_neg (by omega), Nat.min_eq_left (by omega)]
  have d : l.length / 8 = 0 := by omega
  have m : l.length % 8 = l.length := by omega
  have e0 : partS l = [le64 l 0 l.length ||| 1#64 <<< (8 * l.length), 0#64, 0#64] := by rw [partS, p0, d, m]; rfl
  have e1 := or_bit (le64 l 0 l.length) (8 * l.length) (by omega) (by rw [e, p256]; exact hlt)
  rw [e0]
  show (le64 l 0 l.length ||| 1#64 <<< (8 * l.length)).toNat + 18446744073709551616 * 0 + 340282366920938463463374607431768211456 * 0 = _
  rw [e1, e, p256]
  omega
 ·
  have e := le64_nat l 8 (by omega) (by omega)
  have f := le64_nat (l.drop 8) (l.length - 8) (by omega) (by simp)
  have hlt := leN_lt (l.drop 8)
  rw [List.length_drop] at hlt
  rw [List.take_of_length_le (by simp)] at f
  have sp : leN l = leN (l.take 8) + 256 ^ 8 * leN (l.drop 8) := by
   have := leN_app (l.take 8) (l.drop 8)
   rwa [List.take_append_drop, List.length_take, Nat.min_eq_left (by omega)] at this
  have hh : (if 8 < l.length then le64 (l.drop 8) 0 (min (l.length - 8) 8) else 0#64) = le64 (l.drop 8) 0 (l.length - 8) := by
   by_cases h8 : 8 < l.length
   · rw [if_pos h8, Nat.min_eq_left (by omega)]
   · rw [if_neg h8, show l.length - 8 = 0 by omega]; rfl
  have p0 : part0 l = [le64 l 0 8, le64 (l.drop 8) 0 (l.length - 8), 0#64] := by rw [part0, hh, Nat.min_eq_right (by omega)]
  by_cases h2 : l.length < 16
  ·
   have d : l.length / 8 = 1 := by omega
   have m : l.length % 8 = l.length - 8 := by omega
   have e0 : partS l = [le64 l 0 8, le64 (l.drop 8) 0 (l.length - 8) ||| 1#64 <<< (8 * (l.length - 8)), 0#64] := by rw [partS, p0, d, m]; rfl
   have e1 := or_bit (le64 (l.drop 8) 0 (l.length - 8)) (8 * (l.length - 8)) (by omega) (by rw [f, p256]; exact hlt)
   rw [e0]
   show (le64 l 0 8).toNat + 18446744073709551616 * (le64 (l.drop 8) 0 (l.length - 8) ||| 1#64 <<< (8 * (l.length - 8))).toNat + 340282366920938463463374607431768211456 * 0 = _
   obtain ⟨k, hk⟩ : ∃ k, l.length = 8 + k := ⟨l.length - 8, by omega⟩
   rw [e1, e, f, p256, sp, hk, Nat.pow_add, show 8 + k - 8 = k by omega]
   generalize leN (l.take 8) = a
   generalize leN (l.drop 8) = b
   generalize (256 : Nat) ^ k = c
   first | done | omega
  ·
   have h16 : l.length = 16 := by omega
   rw [h16] at f hlt hh p0
   have e0 : partS l = [le64 l 0 8, le64 (l.drop 8) 0 8, 0#64 ||| 1#64 <<< 0] := by rw [partS, p0, h16]; rfl
   rw [e0]
   show (le64 l 0 8).toNat + 18446744073709551616 * (le64 (l.drop 8) 0 8).toNat + 340282366920938463463374607431768211456 * 1 = _
   rw [e, f, sp, h16]
theorem mulH_nat (a b : BitVec 64) : 18446744073709551616 * (mulH a b).toNat + (a * b).toNat = a.toNat * b.toNat := by
 have h : a.toNat * b.toNat / 18446744073709551616 < 18446744073709551616 := by
  rw [Nat.div_lt_iff_lt_mul (by decide)]
  exact Nat.mul_lt_mul'' a.isLt b.isLt
 rw [mulH, BitVec.toNat_ofNat, Nat.mod_eq_of_lt h, BitVec.toNat_mul]
 omega
theorem wide_nat (hi lo a b : BitVec 64) (h : hi.toNat * 18446744073709551616 + lo.toNat + a.toNat * b.toNat < 2 ^ 128) : 18446744073709551616 * (wideH hi lo a b).toNat + (wideL lo a b).toNat = hi.toNat * 18446744073709551616 + lo.toNat + a.toNat * b.toNat := by
 have m := mulH_nat a b
 have c0 := cy_nat (a := lo) (b := a * b) (c := 0#64) (by decide)
 have z : (0#64).toNat = 0 := rfl
 have i1 := hi.isLt
 have i2 := lo.isLt
 have i3 := (mulH a b).isLt
 have i4 := (a * b).isLt
 unfold wideH wideL
 rw [BitVec.toNat_add, BitVec.toNat_add, BitVec.toNat_add, BitVec.toNat_add, c0, z]
 rw [z] at *
 generalize a.toNat * b.toNat = p at *
 generalize (mulH a b).toNat = mh at *
 generalize (a * b).toNat = ml at *
 omega
theorem and3 (t : BitVec 64) : (t &&& 3#64).toNat = t.toNat % 4 := by
 rw [BitVec.toNat_and]
 exact Nat.and_two_pow_sub_one_eq_mod t.toNat 2
theorem andn3 (t : BitVec 64) : (t &&& ~~~ 3#64).toNat = t.toNat - t.toNat % 4 := by
 have e : (t &&& ~~~ 3#64) + (t &&& 3#64) = t := by
  rw [BitVec.add_eq_or_of_and_eq_zero]
  ·
   rw [← BitVec.and_or_distrib_left]
   rw [show (~~~ 3#64 ||| 3#64 : BitVec 64) = BitVec.allOnes 64 by decide, BitVec.and_allOnes]
  · rw [BitVec.and_assoc, ← BitVec.and_assoc (~~~ 3#64) t, BitVec.and_comm (~~~ 3#64) t, BitVec.and_assoc, show (~~~ 3#64 &&& 3#64 : BitVec 64) = 0#64 by decide, BitVec.and_zero, BitVec.and_zero]
 have a := and3 t
 have le : (t &&& ~~~ 3#64).toNat ≤ t.toNat := by
  rw [BitVec.toNat_and]
  exact Nat.and_le_left
 have f := congrArg BitVec.toNat e
 rw [BitVec.toNat_add, a] at f
 have := t.isLt
 omega
theorem quart (t2 t3 : BitVec 64) : ((t2 &&& ~~~ 3#64) >>> 2 ||| t3 <<< 62).toNat = t2.toNat / 4 + 4611686018427387904 * (t3.toNat % 4) := by
 have h2 := t2.isLt
 have h3 := t3.isLt
 rw [BitVec.toNat_or, BitVec.toNat_ushiftRight, andn3, BitVec.toNat_shiftLeft, Nat.shiftRight_eq_div_pow, Nat.shiftLeft_eq, Nat.or_comm]
 rw [show t3.toNat * 2 ^ 62 % 2 ^ 64 = 2 ^ 62 * (t3.toNat % 4) by omega, show (t2.toNat - t2.toNat % 4) / 2 ^ 2 = t2.toNat / 4 by omega]
 rw [← Nat.two_pow_add_eq_or_of_lt (i := 62) (b := t2.toNat / 4) (by omega)]
 omega
/-- What times leaves: the low 130 bits, and five times the rest. -/
theorem V3_times' (h : List (BitVec 64)) (r0 r1 : BitVec 64) (hh : V3 h < 2 ^ 131) (h0 : r0.toNat < 2 ^ 60) (h1 : r1.toNat < 2 ^ 60) (X : Nat) (hX : X = V3 h * (r0.toNat + 18446744073709551616 * r1.toNat)) :
  V3 (timesS h r0 r1) = X % 2 ^ 130 + 5 * (X / 2 ^ 130) := by
 have hx : X < 2 ^ 255 := by
  rw [hX]
  have : r0.toNat + 18446744073709551616 * r1.toNat < 2 ^ 124 := by omega
  exact Nat.lt_of_lt_of_le (Nat.mul_lt_mul'' hh this) (by decide)
 have i0 := (g3 h 0).isLt
 have i1 := (g3 h 1).isLt
 have i2 : (g3 h 2).toNat < 8 := by unfold V3 at hh; omega
 have eV : V3 h * (r0.toNat + 18446744073709551616 * r1.toNat) = (g3 h 0).toNat * r0.toNat + 18446744073709551616 * ((g3 h 0).toNat * r1.toNat + (g3 h 1).toNat * r0.toNat) + 340282366920938463463374607431768211456 * ((g3 h 1).toNat * r1.toNat + (g3 h 2).toNat * r0.toNat) + 340282366920938463463374607431768211456 * 18446744073709551616 * ((g3 h 2).toNat * r1.toNat) := by
  unfold V3
  generalize (g3 h 0).toNat = a
  generalize (g3 h 1).toNat = b
  generalize (g3 h 2).toNat = c
  generalize r0.toNat = x
  generalize r1.toNat = y
  simp only [Nat.add_mul, Nat.mul_add]
  rw [Nat.mul_left_comm a, Nat.mul_assoc _ b x, Nat.mul_assoc _ c x, Nat.mul_assoc _ b, Nat.mul_left_comm b, Nat.mul_assoc _ c, Nat.mul_left_comm c, Nat.mul_assoc 340282366920938463463374607431768211456]
  omega
 have p00 : (g3 h 0).toNat * r0.toNat < 2 ^ 124 := Nat.lt_of_lt_of_le (Nat.mul_lt_mul'' i0 h0) (by decide)
 have p01 : (g3 h 0).toNat * r1.toNat < 2 ^ 124 := Nat.lt_of_lt_of_le (Nat.mul_lt_mul'' i0 h1) (by decide)
 have p10 : (g3 h 1).toNat * r0.toNat < 2 ^ 124 := Nat.lt_of_lt_of_le (Nat.mul_lt_mul'' i1 h0) (by decide)
 have p11 : (g3 h 1).toNat * r1.toNat < 2 ^ 124 := Nat.lt_of_lt_of_le (Nat.mul_lt_mul'' i1 h1) (by decide)
 have p20 : (g3 h 2).toNat * r0.toNat < 2 ^ 63 := Nat.lt_of_lt_of_le (Nat.mul_lt_mul'' i2 h0) (by decide)
 have p21 : (g3 h 2).toNat * r1.toNat < 2 ^ 63 := Nat.lt_of_lt_of_le (Nat.mul_lt_mul'' i2 h1) (by decide)
 have z : (0#64).toNat = 0 := rfl
 have m0 := mulH_nat (g3 h 0) r0
 have w1 := wide_nat 0#64 0#64 (g3 h 0) r1 (by rw [z]; omega)
 have w1' := wide_nat (wideH 0#64 0#64 (g3 h 0) r1) (wideL 0#64 (g3 h 0) r1) (g3 h 1) r0 (by rw [z] at w1; omega)
 have w2 := wide_nat 0#64 0#64 (g3 h 1) r1 (by rw [z]; omega)
 have w2' := wide_nat (wideH 0#64 0#64 (g3 h 1) r1) (wideL 0#64 (g3 h 1) r1) (g3 h 2) r0 (by rw [z] at w2; omega)
 have m3 : (g3 h 2 * r1).toNat = (g3 h 2).toNat * r1.toNat := by
  rw [BitVec.toNat_mul]
  exact Nat.mod_eq_of_lt (by omega)
 rw [z] at w1 w2
 rw [← m3] at eV p21
 replace eV := hX.trans eV
 clear hX
 have eT : timesS h r0 r1 = plusS (plusS [g3 h 0 * r0, wideL (wideL 0#64 (g3 h 0) r1) (g3 h 1) r0 + mulH (g3 h 0) r0 + 0#64, (wideL (wideL 0#64 (g3 h 1) r1) (g3 h 2) r0 + wideH (wideH 0#64 0#64 (g3 h 0) r1) (wideL 0#64 (g3 h 0) r1) (g3 h 1) r0 + cy (wideL (wideL 0#64 (g3 h 0) r1) (g3 h 1) r0) (mulH (g3 h 0) r0) 0#64) &&& 3#64]
   [(wideL (wideL 0#64 (g3 h 1) r1) (g3 h 2) r0 + wideH (wideH 0#64 0#64 (g3 h 0) r1) (wideL 0#64 (g3 h 0) r1) (g3 h 1) r0 + cy (wideL (wideL 0#64 (g3 h 0) r1) (g3 h 1) r0) (mulH (g3 h 0) r0) 0#64) &&& ~~~ 3#64, g3 h 2 * r1 + wideH (wideH 0#64 0#64 (g3 h 1) r1) (wideL 0#64 (g3 h 1) r1) (g3 h 2) r0 + cy (wideL (wideL 0#64 (g3 h 1) r1) (g3 h 2) r0) (wideH (wideH 0#64 0#64 (g3 h 0) r1) (wideL 0#64 (g3 h 0) r1) (g3 h 1) r0) (cy (wideL (wideL 0#64 (g3 h 0) r1) (g3 h 1) r0) (mulH (g3 h 0) r0) 0#64), 0#64])
   [((wideL (wideL 0#64 (g3 h 1) r1) (g3 h 2) r0 + wideH (wideH 0#64 0#64 (g3 h 0) r1) (wideL 0#64 (g3 h 0) r1) (g3 h 1) r0 + cy (wideL (wideL 0#64 (g3 h 0) r1) (g3 h 1) r0) (mulH (g3 h 0) r0) 0#64) &&& ~~~ 3#64) >>> 2 ||| (g3 h 2 * r1 + wideH (wideH 0#64 0#64 (g3 h 1) r1) (wideL 0#64 (g3 h 1) r1) (g3 h 2) r0 + cy (wideL (wideL 0#64 (g3 h 1) r1) (g3 h 2) r0) (wideH (wideH 0#64 0#64 (g3 h 0) r1) (wideL 0#64 (g3 h 0) r1) (g3 h 1) r0) (cy (wideL (wideL 0#64 (g3 h 0) r1) (g3 h 1) r0) (mulH (g3 h 0) r0) 0#64)) <<< 62, (g3 h 2 * r1 + wideH (wideH 0#64 0#64 (g3 h 1) r1) (wideL 0#64 (g3 h 1) r1) (g3 h 2) r0 + cy (wideL (wideL 0#64 (g3 h 1) r1) (g3 h 2) r0) (wideH (wideH 0#64 0#64 (g3 h 0) r1) (wideL 0#64 (g3 h 0) r1) (g3 h 1) r0) (cy (wideL (wideL 0#64 (g3 h 0) r1) (g3 h 1) r0) (mulH (g3 h 0) r0) 0#64)) >>> 2, 0#64] := rfl
 rw [eT]
 generalize wideH (wideH 0#64 0#64 (g3 h 0) r1) (wideL 0#64 (g3 h 0) r1) (g3 h 1) r0 = H1 at *
 generalize wideL (wideL 0#64 (g3 h 0) r1) (g3 h 1) r0 = L1 at *
 generalize wideH (wideH 0#64 0#64 (g3 h 1) r1) (wideL 0#64 (g3 h 1) r1) (g3 h 2) r0 = H2 at *
 generalize wideL (wideL 0#64 (g3 h 1) r1) (g3 h 2) r0 = L2 at *
 generalize mulH (g3 h 0) r0 = H0 at *
 obtain ⟨L0, hL0⟩ : ∃ z, z = g3 h 0 * r0 := ⟨_, rfl⟩
 obtain ⟨L3, hL3⟩ : ∃ z, z = g3 h 2 * r1 := ⟨_, rfl⟩
 simp only [← hL0, ← hL3] at *
 have c1 := cy_nat (a := L1) (b := H0) (c := 0#64) (by decide)
 have c2 := cy_nat (a := L2) (b := H1) (c := cy L1 H0 0#64) (cy_le (by decide))
 rw [z] at c1
 have t1 : (L1 + H0 + 0#64).toNat = (L1.toNat + H0.toNat) % 18446744073709551616 := by
  rw [BitVec.toNat_add, BitVec.toNat_add, z]
  omega
 have t2 : (L2 + H1 + cy L1 H0 0#64).toNat = (L2.toNat + H1.toNat + (cy L1 H0 0#64).toNat) % 18446744073709551616 := by
  rw [BitVec.toNat_add, BitVec.toNat_add]
  omega
 have t3 : (L3 + H2 + cy L2 H1 (cy L1 H0 0#64)).toNat = (L3.toNat + H2.toNat + (cy L2 H1 (cy L1 H0 0#64)).toNat) % 18446744073709551616 := by
  rw [BitVec.toNat_add, BitVec.toNat_add]
  omega
 obtain ⟨T1, hT1⟩ : ∃ z, z = L1 + H0 + 0#64 := ⟨_, rfl⟩
 obtain ⟨T2, hT2⟩ : ∃ z, z = L2 + H1 + cy L1 H0 0#64 := ⟨_, rfl⟩
 obtain ⟨T3, hT3⟩ : ∃ z, z = L3 + H2 + cy L2 H1 (cy L1 H0 0#64) := ⟨_, rfl⟩
 rw [← hT1] at t1
 rw [← hT2] at t2
 rw [← hT3] at t3
 simp only [← hT1, ← hT2, ← hT3]
 have j0 := L0.isLt
 have j1 := L1.isLt
 have j2 := L2.isLt
 have j3 := H0.isLt
 have j4 := H1.isLt
 have j5 := H2.isLt
 have j6 := L3.isLt
 have k3 : (T3 >>> 2).toNat = T3.toNat / 4 := by rw [BitVec.toNat_ushiftRight, Nat.shiftRight_eq_div_pow]
 have vo : V3 [L0, T1, T2 &&& 3#64] = L0.toNat + 18446744073709551616 * T1.toNat + 340282366920938463463374607431768211456 * (T2.toNat % 4) := by
  rw [← and3]; rfl
 have vv : V3 [T2 &&& ~~~ 3#64, T3, 0#64] = (T2.toNat - T2.toNat % 4) + 18446744073709551616 * T3.toNat := by
  rw [← andn3]; rfl
 have vq : V3 [(T2 &&& ~~~ 3#64) >>> 2 ||| T3 <<< 62, T3 >>> 2, 0#64] = T2.toNat / 4 + 4611686018427387904 * (T3.toNat % 4) + 18446744073709551616 * (T3.toNat / 4) := by
  rw [← k3, ← quart]; rfl
 have T1lt := T1.isLt
 have T2lt := T2.isLt
 have T3lt := T3.isLt
 have s1 := V3_plus [L0, T1, T2 &&& 3#64] [T2 &&& ~~~ 3#64, T3, 0#64] (by rw [vo, vv]; omega)
 rw [V3_plus _ _ (by rw [s1, vo, vv, vq]; omega), s1, vo, vv, vq]
 rw [c2] at t3
 rw [c1] at t2 t3
 generalize (cy L1 H0 0#64).toNat = C1 at *
 generalize (wideH 0#64 0#64 (g3 h 0) r1).toNat = x1 at *
 generalize (wideL 0#64 (g3 h 0) r1).toNat = x2 at *
 generalize (wideH 0#64 0#64 (g3 h 1) r1).toNat = x3 at *
 generalize (wideL 0#64 (g3 h 1) r1).toNat = x4 at *
 clear eT vo vv vq s1 k3 hT1 hT2 hT3 m3 hL0 hL3
 generalize L0.toNat = l0 at *
 generalize L1.toNat = l1 at *
 generalize L2.toNat = l2 at *
 generalize L3.toNat = l3 at *
 generalize H0.toNat = u0 at *
 generalize H1.toNat = u1 at *
 generalize H2.toNat = u2 at *
 generalize T1.toNat = v1 at *
 generalize T2.toNat = v2 at *
 generalize T3.toNat = v3 at *
 omega
theorem V3_times (h : List (BitVec 64)) (r0 r1 : BitVec 64) (hh : V3 h < 2 ^ 131) (h0 : r0.toNat < 2 ^ 60) (h1 : r1.toNat < 2 ^ 60) :
  V3 (timesS h r0 r1) = (V3 h * (r0.toNat + 18446744073709551616 * r1.toNat)) % 2 ^ 130 + 5 * ((V3 h * (r0.toNat + 18446744073709551616 * r1.toNat)) / 2 ^ 130) := V3_times' h r0 r1 hh h0 h1 _ rfl
def PN : Nat := 2 ^ 130 - 5
theorem redStep_val (h : List (BitVec 64)) (h3 : h.length = 3) (hv : V3 h < 2 ^ 132) : V3 (redStep h) = V3 h % 2 ^ 130 + 5 * (V3 h / 2 ^ 130) := by
 obtain ⟨a, b, c, rfl⟩ : ∃ a b c, h = [a, b, c] := by
  match h, h3 with
  | [a, b, c], _ => exact ⟨a, b, c, rfl⟩
 have ev : V3 [a, b, c] = a.toNat + 18446744073709551616 * b.toNat + 340282366920938463463374607431768211456 * c.toNat := rfl
 have ha := a.isLt
 have hb := b.isLt
 rw [ev] at hv
 have e5 : (5#64 * c >>> 2).toNat = 5 * (c.toNat / 4) := by
  rw [BitVec.toNat_mul, BitVec.toNat_ushiftRight, Nat.shiftRight_eq_div_pow, show (5#64).toNat = 5 from rfl]
  omega
 have v1 : V3 ([a, b, c &&& 3#64]) = a.toNat + 18446744073709551616 * b.toNat + 340282366920938463463374607431768211456 * (c.toNat % 4) := by rw [← and3]; rfl
 have v2 : V3 [5#64 * c >>> 2, 0#64, 0#64] = 5 * (c.toNat / 4) := by rw [← e5]; rfl
 have e : redStep [a, b, c] = plusS [a, b, c &&& 3#64] [5#64 * c >>> 2, 0#64, 0#64] := rfl
 rw [e, V3_plus _ _ (by rw [v1, v2]; omega), v1, v2, ev]
 omega
theorem redS_val (h : List (BitVec 64)) (h3 : h.length = 3) (hv : V3 h < 2 ^ 131) : V3 (redS h) = V3 h % PN := by
 have e1 := redStep_val h h3 (by omega)
 have l1 : (redStep h).length = 3 := rfl
 have e2 := redStep_val (redStep h) l1 (by omega)
 have en : redN h 2 = redStep (redStep h) := rfl
 rw [← en] at e2
 have hb : V3 (redN h 2) < 2 ^ 130 := by omega
 have hm : V3 (redN h 2) = V3 h % PN ∨ V3 (redN h 2) = V3 h % PN + PN := by
  unfold PN
  omega
 have hl : (redN h 2).length = 3 := rfl
 have v5 : V3 [5#64, 0#64, 0#64] = 5 := rfl
 have ep := V3_plus (redN h 2) [5#64, 0#64, 0#64] (by rw [v5]; omega)
 rw [v5] at ep
 have lp : (plusS (redN h 2) [5#64, 0#64, 0#64]).length = 3 := rfl
 unfold redS
 generalize plusS (redN h 2) [5#64, 0#64, 0#64] = q at *
 obtain ⟨a, b, c, rfl⟩ : ∃ a b c, q = [a, b, c] := by
  match q, lp with
  | [a, b, c], _ => exact ⟨a, b, c, rfl⟩
 have ev : V3 [a, b, c] = a.toNat + 18446744073709551616 * b.toNat + 340282366920938463463374607431768211456 * c.toNat := rfl
 have ha := a.isLt
 have hbb := b.isLt
 rw [ev] at ep
 have ec : (c >>> 2).toNat = c.toNat / 4 := by rw [BitVec.toNat_ushiftRight, Nat.shiftRight_eq_div_pow]
 by_cases hc : c >>> 2 ≠ 0#64
 ·
  have h4 : 4 ≤ c.toNat := by
   have : (c >>> 2).toNat ≠ 0 := fun hh => hc (BitVec.eq_of_toNat_eq hh)
   omega
  have v1 : V3 ([a, b, c].set 2 (g3 [a, b, c] 2 &&& 3#64)) = a.toNat + 18446744073709551616 * b.toNat + 340282366920938463463374607431768211456 * (c.toNat % 4) := by rw [← and3]; rfl
  rw [if_pos (show g3 [a, b, c] 2 >>> 2 ≠ 0#64 from hc), v1]
  unfold PN at *
  omega
 ·
  have h4 : c.toNat < 4 := by
   have : (c >>> 2).toNat = 0 := by rw [Decidable.not_not.1 hc]; rfl
   omega
  rw [if_neg (show ¬ g3 [a, b, c] 2 >>> 2 ≠ 0#64 from hc)]
  unfold PN at *
  omega
/-- What the document says: the number behind n parts. -/
def polyN (r : Nat) (l : List (BitVec 8)) : Nat → Nat
 | 0 => 0
 | n + 1 => ((polyN r l n + (leN (blkQ l n) + 256 ^ (blkQ l n).length)) * r) % PN
theorem blk_len (l : List (BitVec 8)) (n : Nat) : (blkQ l n).length ≤ 16 := by simp [blkQ]; omega
theorem part_lt (l : List (BitVec 8)) (h : l.length ≤ 16) : leN l + 256 ^ l.length < 2 ^ 129 := by
 have h1 := leN_lt l
 have h2 : 256 ^ l.length ≤ 256 ^ 16 := Nat.pow_le_pow_right (by decide) h
 omega
theorem hTo_val (key l : List (BitVec 8)) (h0 : (rLo key).toNat < 2 ^ 60) (h1 : (rHi key).toNat < 2 ^ 60) (n : Nat) :
  V3 (pTo key l n) < 2 ^ 130 + 2 ^ 129 ∧ V3 (pTo key l n) % PN = polyN ((rLo key).toNat + 18446744073709551616 * (rHi key).toNat) l n := by
 induction n with
 | zero => exact ⟨show V3 [0#64, 0#64, 0#64] < 2 ^ 130 + 2 ^ 129 by decide, rfl⟩
 | succ n ih =>
  obtain ⟨i1, i2⟩ := ih
  have hp := part_lt (blkQ l n) (blk_len l n)
  have ep := V3_part (blkQ l n) (blk_len l n)
  have e1 := V3_plus (pTo key l n) (partS (blkQ l n)) (by rw [ep]; omega)
  rw [ep] at e1
  have e2 := V3_times (plusS (pTo key l n) (partS (blkQ l n))) (rLo key) (rHi key) (by rw [e1]; omega) h0 h1
  have hr : (rLo key).toNat + 18446744073709551616 * (rHi key).toNat < 2 ^ 124 := by omega
  have hlt : V3 (plusS (pTo key l n) (partS (blkQ l n))) * ((rLo key).toNat + 18446744073709551616 * (rHi key).toNat) < 2 ^ 255 := Nat.lt_of_lt_of_le (Nat.mul_lt_mul'' (show _ < 2 ^ 131 by rw [e1]; omega) hr) (by decide)
  rw [pTo, e2]
  refine ⟨by omega, ?_⟩
  rw [polyN, ← i2]
  rw [e1] at hlt ⊢
  generalize (rLo key).toNat + 18446744073709551616 * (rHi key).toNat = r at *
  generalize leN (blkQ l n) + 256 ^ (blkQ l n).length = pt at *
  have m : (V3 (pTo key l n) % PN + pt) * r % PN = (V3 (pTo key l n) + pt) * r % PN := by
   rw [Nat.mul_mod, Nat.mod_add_mod, ← Nat.mul_mod]
  rw [m]
  generalize (V3 (pTo key l n) + pt) * r = x at *
  unfold PN
  omega
/-- Sixteen bytes of a number. -/
def by16 (x : Nat) : List (BitVec 8) := (List.range 16).map fun i => BitVec.ofNat 8 (x / 256 ^ i)
theorem tagAt_val (a b c : BitVec 64) (i : Nat) (hi : i < 16) : tagAt [a, b, c] i = BitVec.ofNat 8 (V3 [a, b, c] / 256 ^ i) := by
 have ev : V3 [a, b, c] = a.toNat + 18446744073709551616 * b.toNat + 340282366920938463463374607431768211456 * c.toNat := rfl
 have ha := a.isLt
 have hb := b.isLt
 apply BitVec.eq_of_toNat_eq
 rw [tagAt, BitVec.toNat_setWidth, BitVec.toNat_ushiftRight, Nat.shiftRight_eq_div_pow, BitVec.toNat_ofNat, ev, p256]
 have : i = 0 ∨ i = 1 ∨ i = 2 ∨ i = 3 ∨ i = 4 ∨ i = 5 ∨ i = 6 ∨ i = 7 ∨ i = 8 ∨ i = 9 ∨ i = 10 ∨ i = 11 ∨ i = 12 ∨ i = 13 ∨ i = 14 ∨ i = 15 := by omega
 rcases this with rfl | rfl | rfl | rfl | rfl | rfl | rfl | rfl | rfl | rfl | rfl | rfl | rfl | rfl | rfl | rfl
 all_goals first
  | (simp [g3]; omega)
  | (simp [g3]; done)
def rNum (key : List (BitVec 8)) : Nat := (rLo key).toNat + 18446744073709551616 * (rHi key).toNat
def sNum (key : List (BitVec 8)) : Nat := leN ((key.drop 16).take 16)
theorem r_lt (key : List (BitVec 8)) : (rLo key).toNat < 2 ^ 60 ∧ (rHi key).toNat < 2 ^ 60 := by
 constructor
 ·
  rw [rLo, BitVec.toNat_and]
  exact Nat.lt_of_le_of_lt Nat.and_le_right (by decide)
 ·
  rw [rHi, BitVec.toNat_and]
  exact Nat.lt_of_le_of_lt Nat.and_le_right (by decide)
theorem polyN_lt (r : Nat) (l : List (BitVec 8)) (n : Nat) : polyN r l n < PN := by
 cases n with
 | zero => exact (show 0 < PN by decide)
 | succ n => exact Nat.mod_lt _ (by decide)
/-- The tag, as the document's numbers tell it. -/
theorem tagS_val (key l : List (BitVec 8)) (hk : key.length = 32) : tagS key l = by16 (polyN (rNum key) l (nBlk l) + sNum key) := by
 obtain ⟨r0, r1⟩ := r_lt key
 obtain ⟨h1, h2⟩ := hTo_val key l r0 r1 (nBlk l)
 have e1 := redS_val (pTo key l (nBlk l)) (hTo_lenQ _ _ _) (by omega)
 change _ = polyN (rNum key) l (nBlk l) at h2
 rw [h2] at e1
 have pl := polyN_lt (rNum key) l (nBlk l)
 have es : V3 [le64 ((key.drop 16).take 8) 0 8, le64 ((key.drop 24).take 8) 0 8, 0#64] = sNum key := by
  have a := le64_nat ((key.drop 16).take 8) 8 (by decide) (by simp; omega)
  have b := le64_nat ((key.drop 24).take 8) 8 (by decide) (by simp; omega)
  rw [List.take_of_length_le (l := (key.drop 16).take 8) (by simp; omega)] at a
  rw [List.take_of_length_le (l := (key.drop 24).take 8) (by simp; omega)] at b
  have sp : (key.drop 16).take 16 = (key.drop 16).take 8 ++ (key.drop 24).take 8 := by
   rw [show (16 : Nat) = 8 + 8 from rfl, List.take_add, List.drop_drop]
  show (le64 ((key.drop 16).take 8) 0 8).toNat + 18446744073709551616 * (le64 ((key.drop 24).take 8) 0 8).toNat + 340282366920938463463374607431768211456 * 0 = _
  rw [sNum, sp, leN_app, a, b, List.length_take, List.length_drop, Nat.min_eq_left (by omega)]
  omega
 have sl : sNum key < 2 ^ 128 := by
  have := leN_lt ((key.drop 16).take 16)
  have hl : ((key.drop 16).take 16).length = 16 := by simp; omega
  rw [hl] at this
  exact this
 have et : V3 (tagW key l) = polyN (rNum key) l (nBlk l) + sNum key := by
  rw [tagW, V3_plus _ _ (by rw [e1, es]; unfold PN at pl; omega), e1, es]
 rw [tagS, by16, ← et]
 apply List.map_congr_left
 intro i hi
 have hw : (tagW key l).length = 3 := rfl
 generalize tagW key l = w at *
 match w, hw with
 | [a, b, c], _ => exact tagAt_val a b c i (List.mem_range.1 hi)

theorem leN_and : ∀ (a m : List (BitVec 8)), a.length = m.length → leN (List.zipWith (· &&& ·) a m) = leN a &&& leN m
 | [], [], _ => rfl
 | x :: a, y :: m, h => by
  have ih := leN_and a m (by simpa using h)
  rw [List.zipWith_cons_cons, leN, leN, leN, ih]
  have hx := x.isLt
  have hy := y.isLt
  have e1 : ((x.toNat + 256 * leN a) &&& (y.toNat + 256 * leN m)) / 2 ^ 8 = leN a &&& leN m := by
   rw [Nat.and_div_two_pow]
   congr 1 <;> omega
  have e2 : ((x.toNat + 256 * leN a) &&& (y.toNat + 256 * leN m)) % 2 ^ 8 = (x &&& y).toNat := by
   rw [Nat.and_mod_two_pow, BitVec.toNat_and]
   congr 1 <;> omega
  rw [← e1, ← e2]
  omega
def maskB : List (BitVec 8) := [255#8, 255#8, 255#8, 15#8, 252#8, 255#8, 255#8, 15#8, 252#8, 255#8, 255#8, 15#8, 252#8, 255#8, 255#8, 15#8]
def rB (key : List (BitVec 8)) : List (BitVec 8) := List.zipWith (· &&& ·) (key.take 16) maskB
theorem rNum_leN (key : List (BitVec 8)) (hk : key.length = 32) : rNum key = leN (rB key) := by
 have a := le64_nat (key.take 8) 8 (by decide) (by simp; omega)
 have b := le64_nat ((key.drop 8).take 8) 8 (by decide) (by simp; omega)
 rw [List.take_of_length_le (l := key.take 8) (by simp; omega)] at a
 rw [List.take_of_length_le (l := (key.drop 8).take 8) (by simp; omega)] at b
 have sp : key.take 16 = key.take 8 ++ (key.drop 8).take 8 := by rw [show (16 : Nat) = 8 + 8 from rfl, List.take_add]
 have hl : (key.take 8).length = 8 := by simp; omega
 have hl2 : ((key.drop 8).take 8).length = 8 := by simp; omega
 have e : rB key = List.zipWith (· &&& ·) (key.take 8) (maskB.take 8) ++ List.zipWith (· &&& ·) ((key.drop 8).take 8) (maskB.drop 8) := by
  rw [rB, sp]
  exact List.zipWith_append (f := (· &&& ·)) (l₁ := key.take 8) (l₁' := (key.drop 8).take 8) (l₂ := maskB.take 8) (l₂' := maskB.drop 8) (by rw [hl]; rfl)
 rw [e, leN_app, leN_and (key.take 8) (maskB.take 8) (by rw [hl]; rfl), leN_and ((key.drop 8).take 8) (maskB.drop 8) (by rw [hl2]; rfl), List.length_zipWith, hl]
 rw [rNum, rLo, rHi, BitVec.toNat_and, BitVec.toNat_and, a, b]
 rfl
def natI (l : List (BitVec 8)) : List Int := l.map fun x => (x.toNat : Int)
theorem valI_natI (l : List (BitVec 8)) : valI (natI l) = leN l := by
 induction l with
 | nil => rfl
 | cons x l ih =>
  show (x.toNat : Int) + 256 * valI (natI l) = _
  rw [ih, leN]
  omega
/-- A place of r, as the document cuts it. -/
def rD (key : List (BitVec 8)) (i : Nat) : Int := if i % 4 = 3 then ((key.getD i 0#8).toNat : Int) % 16 else if i % 4 = 0 ∧ 0 < i then ((key.getD i 0#8).toNat : Int) / 4 * 4 else (key.getD i 0#8).toNat
def rI (key : List (BitVec 8)) : List Int := (List.range 16).map (rD key)
def rToQ (key : List (BitVec 8)) (k : Nat) : List Int := (List.range k).map (rD key) ++ List.replicate (16 - k) 0
theorem rTo_len (key : List (BitVec 8)) {k : Nat} (h : k ≤ 16) : (rToQ key k).length = 16 := by simp [rToQ]; omega
theorem rTo_set (key : List (BitVec 8)) {k : Nat} (h : k < 16) : (rToQ key k).set k (rD key k) = rToQ key (k + 1) := fill_set (rD key) 0 h
theorem and252 (x : BitVec 8) : (x &&& 252#8).toNat = x.toNat / 4 * 4 := by
 have : ∀ i : Fin 256, (BitVec.ofFin (w := 8) i &&& 252#8).toNat = i.1 / 4 * 4 := by decide
 exact this x.toFin
theorem and15n (x : BitVec 8) : x.toNat &&& 15 = x.toNat % 16 := Nat.and_two_pow_sub_one_eq_mod x.toNat 4
theorem and252n (x : BitVec 8) : x.toNat &&& 252 = x.toNat / 4 * 4 := by rw [← and252]; rfl
theorem and255 (x : BitVec 8) : x &&& 255#8 = x := BitVec.and_allOnes
theorem rI_eq (key : List (BitVec 8)) (hk : key.length = 32) : rI key = natI (rB key) := by
 apply List.ext_getElem
 · simp [rI, natI, rB, maskB]; omega
 ·
  intro i h1 h2
  have hi : i < 16 := by simpa [rI] using h1
  have e : (natI (rB key))[i] = (((key.getD i 0#8) &&& maskB.getD i 0#8).toNat : Int) := by
   have hm : maskB.length = 16 := rfl
   simp [natI, rB, List.getD_eq_getElem?_getD, List.getElem?_eq_getElem (show i < key.length by omega), List.getElem?_eq_getElem (show i < maskB.length by omega)]
  rw [e]
  simp only [rI, List.getElem_map, List.getElem_range]
  have : i = 0 ∨ i = 1 ∨ i = 2 ∨ i = 3 ∨ i = 4 ∨ i = 5 ∨ i = 6 ∨ i = 7 ∨ i = 8 ∨ i = 9 ∨ i = 10 ∨ i = 11 ∨ i = 12 ∨ i = 13 ∨ i = 14 ∨ i = 15 := by omega
  rcases this with rfl | rfl | rfl | rfl | rfl | rfl | rfl | rfl | rfl | rfl | rfl | rfl | rfl | rfl | rfl | rfl
  all_goals simp [rD, maskB, and15n, and252n, and255]
theorem r_val (key : List (BitVec 8)) (hk : key.length = 32) : valI (rI key) = rNum key := by rw [rI_eq key hk, valI_natI, rNum_leN key hk]
theorem rD_le (key : List (BitVec 8)) (i : Nat) : 0 ≤ rD key i ∧ rD key i ≤ 255 := by
 have := (key.getD i 0#8).isLt
 unfold rD
 split
 · omega
 · split <;> omega
theorem rI_getD (key : List (BitVec 8)) {i : Nat} (h : i < 16) : (rI key).getD i 0 = rD key i := by
 simp [rI, List.getD_eq_getElem?_getD, h]
theorem rTo_16 (key : List (BitVec 8)) : rToQ key 16 = rI key := by simp [rToQ, rI]
/-- A part is added, up to place i. -/
structure AddI (h : List Int) (b : List (BitVec 8)) (g : List Int) (i : Nat) : Prop where
 len : g.length = 17
 val : valI g = valI h + leN (b.take i)
 same : ∀ j, i ≤ j → g.getD j 0 = h.getD j 0
 le : ∀ j, 0 ≤ g.getD j 0 ∧ g.getD j 0 ≤ 510
theorem AddI.init {h : List Int} {b : List (BitVec 8)} {V : Int} (hh : OutI V h) : AddI h b h 0 :=
 ⟨hh.1, by simp [leN], fun _ _ => rfl, fun j => by have := hh.2.1 j; omega⟩
theorem AddI.step {h g : List Int} {b : List (BitVec 8)} {V : Int} {i : Nat} (hh : OutI V h) (a : AddI h b g i) (hi : i < b.length) (h17 : i < 17) (x : BitVec 8) (hx : b.getD i 0#8 = x) : AddI h b (g.set i (g.getD i 0 + (x.toNat : Int))) (i + 1) := by
 obtain ⟨a1, a2, a3, a4⟩ := a
 have hb := x.isLt
 have e := a3 i (by omega)
 have e2 := hh.2.1 i
 refine ⟨by simp [a1], ?_, fun j hj => ?_, fun j => ?_⟩
 ·
  rw [valI_set _ _ _ (by omega), leN_take b i hi, hx, a2, show g.getD i 0 + (x.toNat : Int) - g.getD i 0 = (x.toNat : Int) by omega, Int.natCast_add, Int.natCast_mul, Int.natCast_pow, Int.mul_comm]
  show valI h + ↑(leN (b.take i)) + 256 ^ i * (x.toNat : Int) = _
  exact Int.add_assoc ..
 ·
  rw [getD_set, if_neg (by omega)]
  exact a3 j (by omega)
 ·
  rw [getD_set]
  have := a4 j
  split
  · omega
  · exact this
/-- A part and the one behind it are added. -/
structure GgI (V : Int) (g : List Int) : Prop where
 len : g.length = 17
 val : valI g = V
 le : ∀ j, 0 ≤ g.getD j 0 ∧ g.getD j 0 ≤ 511
theorem AddI.fin {h g : List Int} {b : List (BitVec 8)} {V : Int} (hh : OutI V h) (a : AddI h b g b.length) (hb : b.length ≤ 16) : GgI (V + leN b + 256 ^ b.length) (g.set b.length (g.getD b.length 0 + 1)) := by
 obtain ⟨a1, a2, a3, a4⟩ := a
 refine ⟨by simp [a1], ?_, fun j => ?_⟩
 · rw [valI_set _ _ _ (by omega), a2, List.take_length, hh.2.2, show g.getD b.length 0 + 1 - g.getD b.length 0 = 1 by omega, Int.one_mul]
 ·
  rw [getD_set]
  have := a4 j
  have := a4 b.length
  split <;> omega
/-- The product, up to places i and j. -/
structure MulI (g r t : List Int) (i j : Nat) : Prop where
 len : t.length = 40
 val : valI t = valI (g.take i) * valI r + g.getD i 0 * 256 ^ i * valI (r.take j)
 le : ∀ k, 0 ≤ t.getD k 0 ∧ t.getD k 0 ≤ (16 * (i : Int) + j) * 130305
theorem MulI.init (g r : List Int) : MulI g r (List.replicate 40 0) 0 0 :=
 ⟨by simp, by rw [valI_rep]; simp [valI], fun k => by rw [getD_rep]; omega⟩
theorem mul_le {x y : Int} (hx : 0 ≤ x ∧ x ≤ 511) (hy : 0 ≤ y ∧ y ≤ 255) : 0 ≤ x * y ∧ x * y ≤ 130305 :=
 ⟨Int.mul_nonneg hx.1 hy.1, Int.mul_le_mul hx.2 hy.2 hy.1 (by decide)⟩
theorem MulI.step {g r t : List Int} {i j : Nat} {V : Int} (h : MulI g r t i j) (hg : GgI V g) (hr : r.length = 16) (hi : i < 17) (hj : j < 16) (hrj : 0 ≤ r.getD j 0 ∧ r.getD j 0 ≤ 255) :
  MulI g r (t.set (i + j) (t.getD (i + j) 0 + g.getD i 0 * r.getD j 0)) i (j + 1) := by
 obtain ⟨a1, a2, a3⟩ := h
 have m := mul_le (hg.le i) hrj
 refine ⟨by simp [a1], ?_, fun k => ?_⟩
 ·
  rw [valI_set _ _ _ (by omega), a2, valI_take r j (by omega), show t.getD (i + j) 0 + g.getD i 0 * r.getD j 0 - t.getD (i + j) 0 = g.getD i 0 * r.getD j 0 by omega, Int.pow_add, Int.mul_add, Int.add_assoc]
  congr 2
  simp only [Int.mul_assoc, Int.mul_left_comm, Int.mul_comm]
 ·
  rw [getD_set]
  have := a3 k
  have := a3 (i + j)
  split
  ·
   generalize g.getD i 0 * r.getD j 0 = z at *
   omega
  · omega
theorem MulI.next {g r t : List Int} {i : Nat} {V : Int} (h : MulI g r t i 16) (hg : GgI V g) (hr : r.length = 16) (hi : i < 17) : MulI g r t (i + 1) 0 := by
 obtain ⟨a1, a2, a3⟩ := h
 refine ⟨a1, ?_, fun k => ?_⟩
 · rw [a2, List.take_of_length_le (l := r) (by omega), valI_take g i (by have := hg.len; omega), List.take_zero, valI, Int.mul_zero, Int.add_zero, Int.add_mul]
 ·
  have := a3 k
  omega
theorem MulI.fin {g r t : List Int} {V : Int} (h : MulI g r t 17 0) (hg : GgI V g) : valI t = V * valI r := by
 rw [h.val, List.take_of_length_le (by have := hg.len; omega), hg.val, List.take_zero, valI, Int.mul_zero, Int.add_zero]
theorem poly_step {r : Nat} {l : List (BitVec 8)} {n : Nat} {t O : List Int} (ht : valI t = ((polyN r l n : Nat) + leN (blkQ l n) + 256 ^ (blkQ l n).length) * (r : Int)) (hO : OutI (valI t % P130) O) : OutI ((polyN r l (n + 1) : Nat) : Int) O := by
 have e : ((polyN r l (n + 1) : Nat) : Int) = valI t % P130 := by
  rw [ht, polyN, Int.natCast_emod, Int.natCast_mul, Int.natCast_add, Int.natCast_add, Int.natCast_pow, ← Int.add_assoc]
  rfl
 rw [e]
 exact hO
theorem mul_lt272 {r : Nat} {l : List (BitVec 8)} {n : Nat} (hr : r < 2 ^ 124) : ((polyN r l n : Nat) + leN (blkQ l n) + 256 ^ (blkQ l n).length) * (r : Int) < big := by
 have h1 := polyN_lt r l n
 have h2 := part_lt (blkQ l n) (blk_len l n)
 have h3 : (polyN r l n + (leN (blkQ l n) + 256 ^ (blkQ l n).length)) * r < 2 ^ 131 * 2 ^ 124 := Nat.mul_lt_mul'' (by unfold PN at h1; omega) hr
 have e : ((polyN r l n : Nat) + leN (blkQ l n) + 256 ^ (blkQ l n).length) * (r : Int) = (((polyN r l n + (leN (blkQ l n) + 256 ^ (blkQ l n).length)) * r : Nat) : Int) := by
  rw [Int.natCast_mul, Int.natCast_add, Int.natCast_add, Int.natCast_pow, ← Int.add_assoc]
  rfl
 rw [e]
 exact Int.lt_trans (Int.ofNat_lt.2 h3) (by rw [← Nat.pow_add]; unfold big; decide)
theorem rNum_lt (key : List (BitVec 8)) : rNum key < 2 ^ 124 := by
 have := r_lt key
 unfold rNum
 omega
def byTo (X k : Nat) : List (BitVec 8) := (List.range k).map (fun i => BitVec.ofNat 8 (X / 256 ^ i)) ++ List.replicate (16 - k) 0#8
theorem byTo_len (X : Nat) {k : Nat} (h : k ≤ 16) : (byTo X k).length = 16 := by simp [byTo]; omega
theorem byTo_set (X : Nat) {k : Nat} (h : k < 16) : (byTo X k).set k (BitVec.ofNat 8 (X / 256 ^ k)) = byTo X (k + 1) := fill_set (fun i => BitVec.ofNat 8 (X / 256 ^ i)) 0#8 h
theorem byTo_16 (X : Nat) : byTo X 16 = by16 X := by simp [byTo, by16]
/-- The sum's carry, up to place i. -/
def SmI (X : Nat) (h : List Int) (s : List (BitVec 8)) (i : Nat) (c : Int) : Prop := 0 ≤ c ∧ c ≤ 1 ∧ ((X / 256 ^ i : Nat) : Int) = c + valI (h.drop i) + leN (s.drop i)
theorem SmI.init {V : Nat} {h : List Int} {s : List (BitVec 8)} (hh : OutI (V : Int) h) : SmI (V + leN s) h s 0 0 := by
 refine ⟨by decide, by decide, ?_⟩
 rw [Nat.pow_zero, Nat.div_one, List.drop_zero, List.drop_zero, hh.2.2]
 omega
theorem SmI.step {X : Nat} {h : List Int} {s : List (BitVec 8)} {i : Nat} {c V : Int} (a : SmI X h s i c) (hh : OutI V h) (hs : i < s.length) (hi : i < 17) (x : BitVec 8) (hx : s.getD i 0#8 = x) :
  SmI X h s (i + 1) ((h.getD i 0 + (x.toNat : Int) + c) / 256) ∧ ((X / 256 ^ i % 256 : Nat) : Int) = (h.getD i 0 + (x.toNat : Int) + c) % 256 := by
 obtain ⟨a1, a2, a3⟩ := a
 have hb := x.isLt
 have hd := hh.2.1 i
 have e1 : h.drop i = h.getD i 0 :: h.drop (i + 1) := by
  rw [List.getD_eq_getElem?_getD, List.getElem?_eq_getElem (by have := hh.1; omega)]
  exact List.drop_eq_getElem_cons _
 have e2 : s.drop i = x :: s.drop (i + 1) := by
  rw [← hx, List.getD_eq_getElem?_getD, List.getElem?_eq_getElem hs]
  exact List.drop_eq_getElem_cons _
 rw [e1, e2, valI, leN] at a3
 have e3 : X / 256 ^ (i + 1) = X / 256 ^ i / 256 := by rw [Nat.pow_succ, Nat.div_div_eq_div_mul]
 unfold SmI
 rw [e3]
 generalize X / 256 ^ i = y at *
 refine ⟨⟨by omega, by omega, ?_⟩, by omega⟩
 omega



end Go.Proofs.Ytcjfkmhijfcciaa

