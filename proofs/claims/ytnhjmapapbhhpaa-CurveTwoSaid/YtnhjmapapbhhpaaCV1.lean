import Derived.Test.YtnhjmapapbhhpaaSE29
import Derived.Test.YtnhjmapapbhhpaaSE13
import Derived.Lib.Mul64
namespace Go.Proofs.Ytnhjmapapbhhpaa
set_option maxRecDepth 20000
set_option linter.unusedVariables false
set_option linter.unusedSimpArgs false
open Go.SE Go.RowKit
/-! numbers of five words of 51 bits -/
def pN : Nat := 57896044618658097711785492504343953926634992332820282019728792003956564819949
theorem pN_eq : pN = 57896044618658097711785492504343953926634992332820282019728792003956564819949 := rfl
def valN : List Nat → Nat
  | [] => 0
  | x :: l => x + 2251799813685248 * valN l
theorem valN_app : ∀ (l m : List Nat), valN (l ++ m) = valN l + 2251799813685248 ^ l.length * valN m
  | [], m => by simp [valN]
  | a :: l, m => by
    rw [List.cons_append, valN, valN, valN_app l m, List.length_cons, Nat.pow_succ, Nat.mul_add, Nat.mul_comm (2251799813685248 ^ l.length) 2251799813685248, Nat.mul_assoc]
    omega
def psum (t : List Nat) (i : Nat) : Nat := valN (t.take i)
theorem psum_zero (t : List Nat) : psum t 0 = 0 := by simp [psum, valN]
theorem psum_succ {t : List Nat} {i : Nat} (h : i < t.length) : psum t (i + 1) = psum t i + t.getD i 0 * 2251799813685248 ^ i := by
  unfold psum
  rw [List.take_succ_eq_append_getElem h, valN_app, List.length_take, Nat.min_eq_left (by omega), Nat.mul_comm]
  simp [valN, List.getD_eq_getElem?_getD, h]
theorem psum_all {t : List Nat} : psum t t.length = valN t := by simp [psum]
def dg (V j : Nat) : Nat := V / 2251799813685248 ^ j % 2251799813685248
theorem dg_lt (V j : Nat) : dg V j < 2251799813685248 := Nat.mod_lt _ (by decide)
theorem bpow_pos (j : Nat) : 0 < 2251799813685248 ^ j := Nat.pow_pos (by decide)
theorem dg_low {V x i j : Nat} (h : j < i) : dg (V + x * 2251799813685248 ^ i) j = dg V j := by
  obtain ⟨k, rfl⟩ : ∃ k, i = j + (k + 1) := ⟨i - j - 1, by omega⟩
  have e : x * 2251799813685248 ^ (j + (k + 1)) = 2251799813685248 ^ j * (2251799813685248 * (x * 2251799813685248 ^ k)) := by
    rw [Nat.pow_add, Nat.pow_succ, Nat.mul_comm (2251799813685248 ^ k) 2251799813685248, Nat.mul_left_comm x, Nat.mul_left_comm x]
  unfold dg
  rw [e, Nat.add_mul_div_left _ _ (bpow_pos j), Nat.add_mul_mod_self_left]
theorem dg_top (V x i : Nat) : dg (V + x * 2251799813685248 ^ i) i = (V / 2251799813685248 ^ i + x) % 2251799813685248 := by
  unfold dg
  rw [Nat.mul_comm, Nat.add_mul_div_left _ _ (bpow_pos i)]
theorem div_top (V x i : Nat) : (V + x * 2251799813685248 ^ i) / 2251799813685248 ^ (i + 1) = (V / 2251799813685248 ^ i + x) / 2251799813685248 := by
  rw [Nat.pow_succ, ← Nat.div_div_eq_div_mul, Nat.mul_comm x, Nat.add_mul_div_left _ _ (bpow_pos i)]
def dgs (V i : Nat) : List (BitVec 64) := (List.range i).map fun j => BitVec.ofNat 64 (dg V j)
theorem dgs_len (V i : Nat) : (dgs V i).length = i := by simp [dgs]
theorem dgs_succ (V x i : Nat) : dgs (V + x * 2251799813685248 ^ i) (i + 1) = dgs V i ++ [BitVec.ofNat 64 ((V / 2251799813685248 ^ i + x) % 2251799813685248)] := by
  unfold dgs
  rw [List.range_succ, List.map_append, List.map_cons, List.map_nil, dg_top]
  congr 1
  refine List.map_congr_left fun j hj => ?_
  rw [dg_low (List.mem_range.1 hj)]
/-- where a carry stands: digits ahead, the rest as it was -/
def cst (t : List Nat) (a : List (BitVec 64)) (i : Nat) : List (BitVec 64) := dgs (psum t i) i ++ a.drop i
def ccy (t : List Nat) (i : Nat) : Nat := psum t i / 2251799813685248 ^ i
theorem cst_zero (t : List Nat) (a : List (BitVec 64)) : cst t a 0 = a := by simp [cst, dgs]
theorem cst_len {t : List Nat} {a : List (BitVec 64)} {i : Nat} (h : i ≤ a.length) : (cst t a i).length = a.length := by
  simp [cst, dgs_len]; omega
theorem cst_get {t : List Nat} {a : List (BitVec 64)} {i : Nat} (h : i < a.length) : (cst t a i).getD i 0#64 = a.getD i 0#64 := by
  simp [cst, List.getD_eq_getElem?_getD, List.getElem?_append_right, dgs_len]
theorem ccy_zero (t : List Nat) : ccy t 0 = 0 := by simp [ccy, psum_zero]
theorem ccy_succ {t : List Nat} {i : Nat} (h : i < t.length) : ccy t (i + 1) = (ccy t i + t.getD i 0) / 2251799813685248 := by
  unfold ccy
  rw [psum_succ h, div_top]
theorem cst_succ {t : List Nat} {a : List (BitVec 64)} {i : Nat} (h : i < t.length) (h2 : i < a.length) {v : BitVec 64} (hv : v = BitVec.ofNat 64 ((ccy t i + t.getD i 0) % 2251799813685248)) : (cst t a i).set i v = cst t a (i + 1) := by
  unfold cst
  rw [psum_succ h, dgs_succ, List.set_append_right _ _ (by simp [dgs_len]), dgs_len, Nat.sub_self, List.drop_eq_getElem_cons h2, List.set_cons_zero, hv, List.append_assoc, ccy]
  rfl
theorem cst_all {t : List Nat} {a : List (BitVec 64)} {n : Nat} (h : t.length = n) (h2 : a.length = n) : cst t a n = dgs (valN t) n := by
  subst h
  simp [cst, psum_all, List.drop_eq_nil_of_le (Nat.le_of_eq h2)]
/-- a number's words, its carry folded -/
def carN (V : Nat) : List (BitVec 64) := (dgs V 5).set 0 (BitVec.ofNat 64 (dg V 0) + 19#64 * BitVec.ofNat 64 (V / 57896044618658097711785492504343953926634992332820282019728792003956564819968))
theorem carN_len (V : Nat) : (carN V).length = 5 := by simp [carN, dgs_len]
def nv (a : List (BitVec 64)) : Nat := valN (a.map BitVec.toNat)
/-- words with room -/
def Bnd (a : List (BitVec 64)) : Prop := a.length = 5 ∧ ∀ w ∈ a, w.toNat < 4503599627370496
theorem and_mask (x : BitVec 64) : x &&& 2251799813685247#64 = BitVec.ofNat 64 (x.toNat % 2251799813685248) := by
  apply BitVec.eq_of_toNat_eq
  rw [BitVec.toNat_and, BitVec.toNat_ofNat, BitVec.toNat_ofNat]
  rw [show 2251799813685247 % 2 ^ 64 = 2 ^ 51 - 1 from rfl, Nat.and_two_pow_sub_one_eq_mod]
  omega
theorem shr51 (x : BitVec 64) : x >>> 51 = BitVec.ofNat 64 (x.toNat / 2251799813685248) := by
  apply BitVec.eq_of_toNat_eq
  rw [BitVec.toNat_ushiftRight, BitVec.toNat_ofNat, Nat.shiftRight_eq_div_pow]
  have := x.isLt
  omega
theorem list5 {α : Type} (l : List α) (h : l.length = 5) : ∃ a b c d e, l = [a, b, c, d, e] := by
  match l, h with
  | [a, b, c, d, e], _ => exact ⟨a, b, c, d, e, rfl⟩
theorem dgs5 (V : Nat) : dgs V 5 = [BitVec.ofNat 64 (dg V 0), BitVec.ofNat 64 (dg V 1), BitVec.ofNat 64 (dg V 2), BitVec.ofNat 64 (dg V 3), BitVec.ofNat 64 (dg V 4)] := rfl
theorem ofN {n : Nat} (h : n < 18446744073709551616) : (BitVec.ofNat 64 n).toNat = n := by
  rw [BitVec.toNat_ofNat]; exact Nat.mod_eq_of_lt h
theorem digits5 (V : Nat) : V = dg V 0 + 2251799813685248 * (dg V 1 + 2251799813685248 * (dg V 2 + 2251799813685248 * (dg V 3 + 2251799813685248 * dg V 4))) + 57896044618658097711785492504343953926634992332820282019728792003956564819968 * (V / 57896044618658097711785492504343953926634992332820282019728792003956564819968) := by
  unfold dg
  have p1 : 2251799813685248 ^ 1 = 2251799813685248 := rfl
  simp only [Nat.pow_zero, Nat.div_one, p1, show 2251799813685248 ^ 2 = 2251799813685248 * 2251799813685248 from rfl, show 2251799813685248 ^ 3 = 2251799813685248 * 2251799813685248 * 2251799813685248 from rfl, show 2251799813685248 ^ 4 = 2251799813685248 * 2251799813685248 * 2251799813685248 * 2251799813685248 from rfl, show 57896044618658097711785492504343953926634992332820282019728792003956564819968 = 2251799813685248 * 2251799813685248 * 2251799813685248 * 2251799813685248 * 2251799813685248 from rfl, ← Nat.div_div_eq_div_mul]
  omega
def carV (V : Nat) : Nat := V % 57896044618658097711785492504343953926634992332820282019728792003956564819968 + 19 * (V / 57896044618658097711785492504343953926634992332820282019728792003956564819968)
theorem carV_mod (V : Nat) : carV V % pN = V % pN := by
  have := Nat.div_add_mod V 57896044618658097711785492504343953926634992332820282019728792003956564819968
  have e : V = carV V + pN * (V / 57896044618658097711785492504343953926634992332820282019728792003956564819968) := by
    unfold carV; rw [pN_eq]; omega
  conv => rhs; rw [e, Nat.add_mul_mod_self_left]
/-- up to 2 to the power of 55 beyond: no word runs over -/
theorem carN_val {V : Nat} (h : V / 57896044618658097711785492504343953926634992332820282019728792003956564819968 ≤ 576460752303423488) : nv (carN V) = carV V := by
  have d := digits5 V
  have h0 := dg_lt V 0
  have e : 19#64 * BitVec.ofNat 64 (V / 57896044618658097711785492504343953926634992332820282019728792003956564819968) = BitVec.ofNat 64 (19 * (V / 57896044618658097711785492504343953926634992332820282019728792003956564819968)) := by
    apply BitVec.eq_of_toNat_eq
    rw [BitVec.toNat_mul, ofN (by omega), ofN (by omega)]; simp
  unfold nv carN carV
  rw [e, dgs5, ← BitVec.ofNat_add]
  simp only [List.set_cons_zero, List.map_cons, List.map_nil, valN]
  rw [ofN (by omega), ofN (by have := dg_lt V 1; omega), ofN (by have := dg_lt V 2; omega), ofN (by have := dg_lt V 3; omega), ofN (by have := dg_lt V 4; omega)]
  have h1 := dg_lt V 1; have h2 := dg_lt V 2; have h3 := dg_lt V 3; have h4 := dg_lt V 4
  have m := Nat.mod_lt V (show 57896044618658097711785492504343953926634992332820282019728792003956564819968 > 0 by decide)
  have d2 := Nat.div_add_mod V 57896044618658097711785492504343953926634992332820282019728792003956564819968
  omega
theorem carN_bnd {V : Nat} (h : V / 57896044618658097711785492504343953926634992332820282019728792003956564819968 ≤ 100000000000000) : Bnd (carN V) := by
  refine ⟨carN_len V, ?_⟩
  have h0 := dg_lt V 0; have h1 := dg_lt V 1; have h2 := dg_lt V 2; have h3 := dg_lt V 3; have h4 := dg_lt V 4
  have e : 19#64 * BitVec.ofNat 64 (V / 57896044618658097711785492504343953926634992332820282019728792003956564819968) = BitVec.ofNat 64 (19 * (V / 57896044618658097711785492504343953926634992332820282019728792003956564819968)) := by
    apply BitVec.eq_of_toNat_eq
    rw [BitVec.toNat_mul, ofN (by omega), ofN (by omega)]; simp
  unfold carN
  rw [e, dgs5, ← BitVec.ofNat_add]
  simp only [List.set_cons_zero, List.mem_cons, List.not_mem_nil, or_false]
  rintro w (rfl | rfl | rfl | rfl | rfl) <;> rw [ofN (by omega)] <;> omega
/-! add, sub -/
def zadd : List (BitVec 64) → List (BitVec 64) → List (BitVec 64)
  | x :: a, y :: b => (x + y) :: zadd a b
  | _, _ => []
def subC0 (a b : List (BitVec 64)) : List (BitVec 64) := zadd a [36028797018963664#64 - b.getD 0 0#64, 36028797018963952#64 - b.getD 1 0#64, 36028797018963952#64 - b.getD 2 0#64, 36028797018963952#64 - b.getD 3 0#64, 36028797018963952#64 - b.getD 4 0#64]
def addC (a b : List (BitVec 64)) : List (BitVec 64) := carN (nv (zadd a b))
def subC (a b : List (BitVec 64)) : List (BitVec 64) := carN (nv (subC0 a b))
theorem nv5 (a b c d e : BitVec 64) : nv [a, b, c, d, e] = a.toNat + 2251799813685248 * (b.toNat + 2251799813685248 * (c.toNat + 2251799813685248 * (d.toNat + 2251799813685248 * e.toNat))) := by
  simp [nv, valN]
theorem Bnd.lt {a : List (BitVec 64)} (h : Bnd a) : nv a < 115792089237316195423570985008687907853269984665640564039457584007913129639936 + 115792089237316195423570985008687907853269984665640564039457584007913129639936 := by
  obtain ⟨h1, h2⟩ := h
  obtain ⟨a, b, c, d, e, rfl⟩ := list5 a h1
  simp only [List.mem_cons, List.not_mem_nil, or_false, forall_eq_or_imp, forall_eq] at h2
  rw [nv5]; omega
theorem nv_add {a b : List (BitVec 64)} (ha : Bnd a) (hb : Bnd b) : nv (zadd a b) = nv a + nv b := by
  obtain ⟨h1, h2⟩ := ha
  obtain ⟨h3, h4⟩ := hb
  obtain ⟨a0, a1, a2, a3, a4, rfl⟩ := list5 a h1
  obtain ⟨b0, b1, b2, b3, b4, rfl⟩ := list5 b h3
  simp only [List.mem_cons, List.not_mem_nil, or_false, forall_eq_or_imp, forall_eq] at h2 h4
  simp only [zadd, nv5, BitVec.toNat_add]
  omega
theorem sub_word {x y m : BitVec 64} (hx : x.toNat < 4503599627370496) (hy : y.toNat < 4503599627370496) (h1 : 4503599627370496 ≤ m.toNat) (h2 : m.toNat < 9007199254740992 * 4 + 9) : (x + (m - y)).toNat + y.toNat = x.toNat + m.toNat := by
  rw [BitVec.toNat_add, BitVec.toNat_sub]
  omega
theorem nv_sub {a b : List (BitVec 64)} (ha : Bnd a) (hb : Bnd b) : nv (subC0 a b) + nv b = nv a + 16 * pN := by
  obtain ⟨h1, h2⟩ := ha
  obtain ⟨h3, h4⟩ := hb
  obtain ⟨a0, a1, a2, a3, a4, rfl⟩ := list5 a h1
  obtain ⟨b0, b1, b2, b3, b4, rfl⟩ := list5 b h3
  simp only [List.mem_cons, List.not_mem_nil, or_false, forall_eq_or_imp, forall_eq] at h2 h4
  obtain ⟨x0, x1, x2, x3, x4⟩ := h2
  obtain ⟨y0, y1, y2, y3, y4⟩ := h4
  have e0 := sub_word (m := 36028797018963664#64) x0 y0 (by decide) (by decide)
  have e1 := sub_word (m := 36028797018963952#64) x1 y1 (by decide) (by decide)
  have e2 := sub_word (m := 36028797018963952#64) x2 y2 (by decide) (by decide)
  have e3 := sub_word (m := 36028797018963952#64) x3 y3 (by decide) (by decide)
  have e4 := sub_word (m := 36028797018963952#64) x4 y4 (by decide) (by decide)
  rw [pN_eq]
  simp only [subC0, zadd, nv5, List.getD_cons_zero, List.getD_cons_succ] at *
  rw [show (36028797018963664#64).toNat = 36028797018963664 from rfl] at e0
  rw [show (36028797018963952#64).toNat = 36028797018963952 from rfl] at e1 e2 e3 e4
  generalize (a0 + (36028797018963664#64 - b0)).toNat = s0 at *
  generalize (a1 + (36028797018963952#64 - b1)).toNat = s1 at *
  generalize (a2 + (36028797018963952#64 - b2)).toNat = s2 at *
  generalize (a3 + (36028797018963952#64 - b3)).toNat = s3 at *
  generalize (a4 + (36028797018963952#64 - b4)).toNat = s4 at *
  omega
theorem addC_len (a b : List (BitVec 64)) : (addC a b).length = 5 := carN_len _
theorem subC_len (a b : List (BitVec 64)) : (subC a b).length = 5 := carN_len _
theorem bnd_add {a b : List (BitVec 64)} (ha : Bnd a) (hb : Bnd b) : Bnd (addC a b) := by
  refine carN_bnd ?_
  have := nv_add ha hb; have := ha.lt; have := hb.lt
  omega
theorem bnd_sub {a b : List (BitVec 64)} (ha : Bnd a) (hb : Bnd b) : Bnd (subC a b) := by
  refine carN_bnd ?_
  have := nv_sub ha hb; have := ha.lt; have := hb.lt; have := pN_eq
  omega
theorem addC_mod {a b : List (BitVec 64)} (ha : Bnd a) (hb : Bnd b) : nv (addC a b) % pN = (nv a % pN + nv b % pN) % pN := by
  have h := nv_add ha hb; have := ha.lt; have := hb.lt
  rw [addC, carN_val (by omega), carV_mod, h, Nat.add_mod]
theorem subC_mod {a b : List (BitVec 64)} (ha : Bnd a) (hb : Bnd b) : nv (subC a b) % pN = (nv a % pN + (pN - nv b % pN)) % pN := by
  have h := nv_sub ha hb; have := ha.lt; have := hb.lt; have hp := pN_eq
  rw [subC, carN_val (by omega), carV_mod]
  have e1 := Nat.div_add_mod (nv a) pN; have e2 := Nat.div_add_mod (nv b) pN
  have m1 := Nat.mod_lt (nv a) (show pN > 0 by decide); have m2 := Nat.mod_lt (nv b) (show pN > 0 by decide)
  have e3 : nv (subC0 a b) + pN * (nv b / pN) = (nv a % pN + (pN - nv b % pN)) + pN * (nv a / pN + 15) := by
    rw [Nat.mul_add]; omega
  calc nv (subC0 a b) % pN = (nv (subC0 a b) + pN * (nv b / pN)) % pN := by rw [Nat.add_mul_mod_self_left]
    _ = _ := by rw [e3, Nat.add_mul_mod_self_left]
/-- a carry's end: with the words as they were -/
theorem carN_end {t : List Nat} {a : List (BitVec 64)} (ht : t.length = 5) (ha : a.length = 5) {v : BitVec 64} (hv : v = (cst t a 5).getD 0 0#64 + 19#64 * BitVec.ofNat 64 (ccy t 5)) : (cst t a 5).set 0 v = carN (valN t) := by
  subst hv
  rw [cst_all ht ha]
  have e : ccy t 5 = valN t / 57896044618658097711785492504343953926634992332820282019728792003956564819968 := by
    rw [ccy, show psum t 5 = valN t by rw [← ht, psum_all]]
  rw [e]
  rfl
/-! products -/
def wtN (l : List (BitVec 64)) : Nat := (l.getD 0 0#64).toNat * 18446744073709551616 + (l.getD 1 0#64).toNat
def wd (n : Nat) : List (BitVec 64) := [BitVec.ofNat 64 (n / 18446744073709551616), BitVec.ofNat 64 n]
def plusW (w : List (BitVec 64)) (a b : BitVec 64) : List (BitVec 64) := wd (wtN w + a.toNat * b.toNat)
theorem wtN_wd {n : Nat} (h : n < 340282366920938463463374607431768211456) : wtN (wd n) = n := by
  simp only [wtN, wd, List.getD_cons_zero, List.getD_cons_succ, BitVec.toNat_ofNat]
  omega
def wcs (t : List Nat) : List (BitVec 64) := (t.map wd).flatten
theorem wcs_len : ∀ (t : List Nat), (wcs t).length = 2 * t.length
  | [] => rfl
  | x :: t => by
    have := wcs_len t
    simp only [wcs, List.map_cons, List.flatten_cons, List.length_append, List.length_cons] at this ⊢
    simp only [wd, List.length_cons, List.length_nil]
    omega
theorem wcs_at : ∀ (t : List Nat) (k : Nat), k < t.length → ((wcs t).drop (k * 2)).take 2 = wd (t.getD k 0)
  | [], k, h => by simp at h
  | x :: t, 0, _ => by simp [wcs, wd]
  | x :: t, k + 1, h => by
    have ih := wcs_at t k (by simpa using h)
    simp only [wcs, List.map_cons, List.flatten_cons, List.getD_cons_succ] at ih ⊢
    rw [show (k + 1) * 2 = 2 + k * 2 by omega, ← List.drop_drop, ← ih]
    rfl
theorem wcs_set : ∀ (t : List Nat) (k n : Nat), k < t.length → splice (wcs t) (k * 2) (wd n) = wcs (t.set k n)
  | [], k, _, h => by simp at h
  | x :: t, 0, n, _ => by simp [wcs, wd, splice]
  | x :: t, k + 1, n, h => by
    have ih := wcs_set t k n (by simpa using h)
    simp only [wcs, List.map_cons, List.flatten_cons, List.set_cons_succ] at ih ⊢
    rw [← ih]
    simp [splice, wd, show (k + 1) * 2 = k * 2 + 2 by omega, Nat.add_right_comm]
def mTerm (a b : List (BitVec 64)) (i j : Nat) : Nat := (a.getD i 0#64).toNat * (if 5 ≤ i + j then b.getD j 0#64 * 19#64 else b.getD j 0#64).toNat
def mIdx (i j : Nat) : Nat := if 5 ≤ i + j then i + j - 5 else i + j
def mR (a b : List (BitVec 64)) (i : Nat) (t : List Nat) : Nat → List Nat
  | 0 => t
  | j + 1 => (mR a b i t j).set (mIdx i j) ((mR a b i t j).getD (mIdx i j) 0 + mTerm a b i j)
def mT (a b : List (BitVec 64)) : Nat → List Nat
  | 0 => [0, 0, 0, 0, 0]
  | i + 1 => mR a b i (mT a b i) 5
theorem mR_len (a b : List (BitVec 64)) (i : Nat) (t : List Nat) : ∀ j, (mR a b i t j).length = t.length
  | 0 => rfl
  | j + 1 => by simp [mR, mR_len a b i t j]
theorem mT_len (a b : List (BitVec 64)) : ∀ i, (mT a b i).length = 5
  | 0 => rfl
  | i + 1 => by rw [mT, mR_len, mT_len a b i]
theorem mem_get {a : List (BitVec 64)} {P : BitVec 64 → Prop} (h : ∀ w ∈ a, P w) (h0 : P 0#64) (i : Nat) : P (a.getD i 0#64) := by
  rw [List.getD_eq_getElem?_getD]
  cases e : a[i]? with
  | none => exact h0
  | some x => exact h x (List.mem_of_getElem? e)
theorem mTerm_le {a b : List (BitVec 64)} (ha : Bnd a) (hb : Bnd b) (i j : Nat) : mTerm a b i j ≤ 385365782469381738054997774434304 := by
  have h1 := mem_get (P := fun w => w.toNat < 4503599627370496) ha.2 (by decide) i
  have h2 := mem_get (P := fun w => w.toNat < 4503599627370496) hb.2 (by decide) j
  have h3 : (if 5 ≤ i + j then b.getD j 0#64 * 19#64 else b.getD j 0#64).toNat ≤ 85568392920039424 := by
    split
    · rw [BitVec.toNat_mul]; refine Nat.le_trans (Nat.mod_le _ _) ?_; simp only [show (19#64).toNat = 19 from rfl]; omega
    · omega
  exact Nat.le_trans (Nat.mul_le_mul (Nat.le_of_lt h1) h3) (by decide)
theorem set_le {t : List Nat} {n m k x : Nat} (h : ∀ y ∈ t, y ≤ n) (hx : x ≤ m) : ∀ y ∈ t.set k (t.getD k 0 + x), y ≤ n + m := by
  intro y hy
  rcases List.mem_or_eq_of_mem_set hy with h2 | rfl
  · have := h y h2; omega
  · rw [List.getD_eq_getElem?_getD]
    cases e : t[k]? with
    | none => simp; omega
    | some z => have := h z (List.mem_of_getElem? e); simp; omega
theorem mR_le {a b : List (BitVec 64)} (ha : Bnd a) (hb : Bnd b) (i : Nat) {t : List Nat} {n : Nat} (h : ∀ y ∈ t, y ≤ n) : ∀ j, ∀ y ∈ mR a b i t j, y ≤ n + j * 385365782469381738054997774434304
  | 0 => by simpa [mR] using h
  | j + 1 => by
    have := set_le (k := mIdx i j) (mR_le ha hb i h j) (mTerm_le ha hb i j)
    intro y hy
    have := this y hy
    omega
theorem mT_le {a b : List (BitVec 64)} (ha : Bnd a) (hb : Bnd b) : ∀ i, ∀ y ∈ mT a b i, y ≤ i * 1926828912346908690274988872171520
  | 0 => by simp [mT]
  | i + 1 => by
    have := mR_le ha hb i (mT_le ha hb i) 5
    intro y hy
    have := this y hy
    omega
theorem getD_le {t : List Nat} {n : Nat} (h : ∀ y ∈ t, y ≤ n) (k : Nat) : t.getD k 0 ≤ n := by
  rw [List.getD_eq_getElem?_getD]
  cases e : t[k]? with
  | none => simp
  | some z => have := h z (List.mem_of_getElem? e); simpa
theorem mIdx_lt {i j : Nat} (hi : i < 5) (hj : j < 5) : mIdx i j < 5 := by unfold mIdx; split <;> omega
/-- one product more -/
theorem mul_step {a b : List (BitVec 64)} (ha : Bnd a) (hb : Bnd b) {i j : Nat} (hi : i < 5) (hj : j < 5) :
    splice (wcs (mR a b i (mT a b i) j)) (mIdx i j * 2) (plusW (((wcs (mR a b i (mT a b i) j)).drop (mIdx i j * 2)).take 2) (a.getD i 0#64) (if 5 ≤ i + j then b.getD j 0#64 * 19#64 else b.getD j 0#64)) = wcs (mR a b i (mT a b i) (j + 1)) := by
  have hl : mIdx i j < (mR a b i (mT a b i) j).length := by rw [mR_len, mT_len]; exact mIdx_lt hi hj
  have hb2 := getD_le (mR_le ha hb i (mT_le ha hb i) j) (mIdx i j)
  have : i * 1926828912346908690274988872171520 ≤ 5 * 1926828912346908690274988872171520 := Nat.mul_le_mul_right _ (by omega)
  have : j * 385365782469381738054997774434304 ≤ 5 * 385365782469381738054997774434304 := Nat.mul_le_mul_right _ (by omega)
  rw [wcs_at _ _ hl, plusW, wtN_wd (by omega), wcs_set _ _ _ hl]
  rfl
/-- the second loop's carry -/
theorem cy2_lo {n c : Nat} (hc : c < 18446744073709551616) : (BitVec.ofNat 64 n + BitVec.ofNat 64 c) &&& 2251799813685247#64 = BitVec.ofNat 64 ((c + n) % 2251799813685248) := by
  rw [and_mask, BitVec.toNat_add, BitVec.toNat_ofNat, BitVec.toNat_ofNat]
  congr 1
  omega
theorem or_add {x y : BitVec 64} {r : Nat} (hr : r ≤ 64) (hx : x.toNat % 2 ^ r = 0) (hy : y.toNat < 2 ^ r) : (x ||| y).toNat = x.toNat + y.toNat := by
  rw [BitVec.toNat_or]
  have e := Nat.div_add_mod x.toNat (2 ^ r)
  rw [hx, Nat.add_zero] at e
  rw [← e, ← Nat.two_pow_add_eq_or_of_lt hy]
theorem cy2_hi {n c : Nat} (hn : n < 20769187434139310514121985316880384) (hc : c < 18446744073709551616) :
    ((BitVec.ofNat 64 (n / 18446744073709551616) + BitVec.ofNat 64 (((BitVec.ofNat 64 n).toNat + (BitVec.ofNat 64 c).toNat) / 18446744073709551616)) <<< 13) ||| ((BitVec.ofNat 64 n + BitVec.ofNat 64 c) >>> 51) = BitVec.ofNat 64 ((c + n) / 2251799813685248) := by
  apply BitVec.eq_of_toNat_eq
  have e1 : (BitVec.ofNat 64 (n / 18446744073709551616) + BitVec.ofNat 64 (((BitVec.ofNat 64 n).toNat + (BitVec.ofNat 64 c).toNat) / 18446744073709551616)).toNat = (c + n) / 18446744073709551616 := by
    rw [BitVec.toNat_add]
    simp only [BitVec.toNat_ofNat]
    omega
  have e2 : ((BitVec.ofNat 64 (n / 18446744073709551616) + BitVec.ofNat 64 (((BitVec.ofNat 64 n).toNat + (BitVec.ofNat 64 c).toNat) / 18446744073709551616)) <<< 13).toNat = (c + n) / 18446744073709551616 * 8192 := by
    rw [BitVec.toNat_shiftLeft, e1, Nat.shiftLeft_eq]
    omega
  have e3 : ((BitVec.ofNat 64 n + BitVec.ofNat 64 c) >>> 51).toNat = (c + n) % 18446744073709551616 / 2251799813685248 := by
    rw [BitVec.toNat_ushiftRight, Nat.shiftRight_eq_div_pow, BitVec.toNat_add]
    simp only [BitVec.toNat_ofNat]
    omega
  rw [or_add (r := 13) (by decide) (by rw [e2]; omega) (by rw [e3]; omega), e2, e3, BitVec.toNat_ofNat]
  omega
theorem ccy_lt {t : List Nat} (h : ∀ y ∈ t, y ≤ 9634144561734543451374944360857600) : ∀ i, i ≤ t.length → ccy t i < 18446744073709551616
  | 0, _ => by rw [ccy_zero]; decide
  | i + 1, hi => by
    have := ccy_lt h i (by omega)
    have := getD_le h i
    rw [ccy_succ (by omega)]
    omega
def mulC (a b : List (BitVec 64)) : List (BitVec 64) := carN (nv (carN (valN (mT a b 5))))
theorem mulC_len (a b : List (BitVec 64)) : (mulC a b).length = 5 := carN_len _
theorem mul5 (x y0 y1 y2 y3 y4 : Nat) : x * (y0 + 2251799813685248 * (y1 + 2251799813685248 * (y2 + 2251799813685248 * (y3 + 2251799813685248 * y4)))) = x * y0 + 2251799813685248 * (x * y1 + 2251799813685248 * (x * y2 + 2251799813685248 * (x * y3 + 2251799813685248 * (x * y4)))) := by
  simp only [Nat.mul_add, Nat.mul_left_comm]
theorem mul19 {b : BitVec 64} (h : b.toNat < 4503599627370496) (x : Nat) : x * (b * 19#64).toNat = 19 * (x * b.toNat) := by
  rw [BitVec.toNat_mul, show (19#64).toNat = 19 from rfl, Nat.mod_eq_of_lt (by omega), ← Nat.mul_assoc, Nat.mul_comm]
theorem mul_le52 {x y : Nat} (hx : x < 4503599627370496) (hy : y < 4503599627370496) : x * y ≤ 20282409603651670423947251286016 :=
  Nat.le_trans (Nat.mul_le_mul (Nat.le_of_lt hx) (Nat.le_of_lt hy)) (by decide)
theorem mul_lin (p00 p01 p02 p03 p04 p10 p11 p12 p13 p14 p20 p21 p22 p23 p24 p30 p31 p32 p33 p34 p40 p41 p42 p43 p44 : Nat) : (p00 + 2251799813685248 * (p01 + 2251799813685248 * (p02 + 2251799813685248 * (p03 + 2251799813685248 * p04)))) + 2251799813685248 * ((p10 + 2251799813685248 * (p11 + 2251799813685248 * (p12 + 2251799813685248 * (p13 + 2251799813685248 * p14)))) + 2251799813685248 * ((p20 + 2251799813685248 * (p21 + 2251799813685248 * (p22 + 2251799813685248 * (p23 + 2251799813685248 * p24)))) + 2251799813685248 * ((p30 + 2251799813685248 * (p31 + 2251799813685248 * (p32 + 2251799813685248 * (p33 + 2251799813685248 * p34)))) + 2251799813685248 * (p40 + 2251799813685248 * (p41 + 2251799813685248 * (p42 + 2251799813685248 * (p43 + 2251799813685248 * p44))))))) = (p00 + 19 * p14 + 19 * p23 + 19 * p32 + 19 * p41) + 2251799813685248 * ((p01 + p10 + 19 * p24 + 19 * p33 + 19 * p42) + 2251799813685248 * ((p02 + p11 + p20 + 19 * p34 + 19 * p43) + 2251799813685248 * ((p03 + p12 + p21 + p30 + 19 * p44) + 2251799813685248 * ((p04 + p13 + p22 + p31 + p40) + 2251799813685248 * 0)))) + 57896044618658097711785492504343953926634992332820282019728792003956564819949 * ((p14 + p23 + p32 + p41) + 2251799813685248 * ((p24 + p33 + p42) + 2251799813685248 * ((p34 + p43) + 2251799813685248 * p44))) := by
  omega
theorem mul_lin2 {M p00 p01 p02 p03 p04 p10 p11 p12 p13 p14 p20 p21 p22 p23 p24 p30 p31 p32 p33 p34 p40 p41 p42 p43 p44 : Nat} (hM : M = 20282409603651670423947251286016) (h00 : p00 ≤ M) (h01 : p01 ≤ M) (h02 : p02 ≤ M) (h03 : p03 ≤ M) (h04 : p04 ≤ M) (h10 : p10 ≤ M) (h11 : p11 ≤ M) (h12 : p12 ≤ M) (h13 : p13 ≤ M) (h14 : p14 ≤ M) (h20 : p20 ≤ M) (h21 : p21 ≤ M) (h22 : p22 ≤ M) (h23 : p23 ≤ M) (h24 : p24 ≤ M) (h30 : p30 ≤ M) (h31 : p31 ≤ M) (h32 : p32 ≤ M) (h33 : p33 ≤ M) (h34 : p34 ≤ M) (h40 : p40 ≤ M) (h41 : p41 ≤ M) (h42 : p42 ≤ M) (h43 : p43 ≤ M) (h44 : p44 ≤ M) : ((p00 + 19 * p14 + 19 * p23 + 19 * p32 + 19 * p41) + 2251799813685248 * ((p01 + p10 + 19 * p24 + 19 * p33 + 19 * p42) + 2251799813685248 * ((p02 + p11 + p20 + 19 * p34 + 19 * p43) + 2251799813685248 * ((p03 + p12 + p21 + p30 + 19 * p44) + 2251799813685248 * ((p04 + p13 + p22 + p31 + p40) + 2251799813685248 * 0))))) / 57896044618658097711785492504343953926634992332820282019728792003956564819968 ≤ 288230376151711744 := by
  subst hM
  omega
theorem mulA (x y Y : Nat) : (x + 2251799813685248 * y) * Y = x * Y + 2251799813685248 * (y * Y) := by rw [Nat.add_mul, Nat.mul_assoc]
theorem valN5 (a b c d e : Nat) : valN [a, b, c, d, e] = a + 2251799813685248 * (b + 2251799813685248 * (c + 2251799813685248 * (d + 2251799813685248 * (e + 2251799813685248 * 0)))) := rfl
theorem mT_val {a b : List (BitVec 64)} (ha : Bnd a) (hb : Bnd b) : (∃ h, nv a * nv b = valN (mT a b 5) + pN * h) ∧ valN (mT a b 5) / 57896044618658097711785492504343953926634992332820282019728792003956564819968 ≤ 288230376151711744 := by
  obtain ⟨h1, h2⟩ := ha
  obtain ⟨h3, h4⟩ := hb
  obtain ⟨a0, a1, a2, a3, a4, rfl⟩ := list5 a h1
  obtain ⟨b0, b1, b2, b3, b4, rfl⟩ := list5 b h3
  simp only [List.mem_cons, List.not_mem_nil, or_false, forall_eq_or_imp, forall_eq] at h2 h4
  obtain ⟨x0, x1, x2, x3, x4⟩ := h2
  obtain ⟨y0, y1, y2, y3, y4⟩ := h4
  have e : valN (mT [a0, a1, a2, a3, a4] [b0, b1, b2, b3, b4] 5) = ((a0.toNat * b0.toNat) + 19 * (a1.toNat * b4.toNat) + 19 * (a2.toNat * b3.toNat) + 19 * (a3.toNat * b2.toNat) + 19 * (a4.toNat * b1.toNat)) + 2251799813685248 * (((a0.toNat * b1.toNat) + (a1.toNat * b0.toNat) + 19 * (a2.toNat * b4.toNat) + 19 * (a3.toNat * b3.toNat) + 19 * (a4.toNat * b2.toNat)) + 2251799813685248 * (((a0.toNat * b2.toNat) + (a1.toNat * b1.toNat) + (a2.toNat * b0.toNat) + 19 * (a3.toNat * b4.toNat) + 19 * (a4.toNat * b3.toNat)) + 2251799813685248 * (((a0.toNat * b3.toNat) + (a1.toNat * b2.toNat) + (a2.toNat * b1.toNat) + (a3.toNat * b0.toNat) + 19 * (a4.toNat * b4.toNat)) + 2251799813685248 * (((a0.toNat * b4.toNat) + (a1.toNat * b3.toNat) + (a2.toNat * b2.toNat) + (a3.toNat * b1.toNat) + (a4.toNat * b0.toNat)) + 2251799813685248 * 0)))) := by
    have e0 : mT [a0, a1, a2, a3, a4] [b0, b1, b2, b3, b4] 5 = [a0.toNat * b0.toNat + a1.toNat * (b4 * 19#64).toNat + a2.toNat * (b3 * 19#64).toNat + a3.toNat * (b2 * 19#64).toNat + a4.toNat * (b1 * 19#64).toNat, a0.toNat * b1.toNat + a1.toNat * b0.toNat + a2.toNat * (b4 * 19#64).toNat + a3.toNat * (b3 * 19#64).toNat + a4.toNat * (b2 * 19#64).toNat, a0.toNat * b2.toNat + a1.toNat * b1.toNat + a2.toNat * b0.toNat + a3.toNat * (b4 * 19#64).toNat + a4.toNat * (b3 * 19#64).toNat, a0.toNat * b3.toNat + a1.toNat * b2.toNat + a2.toNat * b1.toNat + a3.toNat * b0.toNat + a4.toNat * (b4 * 19#64).toNat, a0.toNat * b4.toNat + a1.toNat * b3.toNat + a2.toNat * b2.toNat + a3.toNat * b1.toNat + a4.toNat * b0.toNat] := by
      simp [mT, mR, mIdx, mTerm, -BitVec.toNat_mul]
    rw [e0, valN5, mul19 y4 a1.toNat, mul19 y3 a2.toNat, mul19 y2 a3.toNat, mul19 y1 a4.toNat, mul19 y4 a2.toNat, mul19 y3 a3.toNat, mul19 y2 a4.toNat, mul19 y4 a3.toNat, mul19 y3 a4.toNat, mul19 y4 a4.toNat]
  rw [e]
  refine ⟨⟨((a1.toNat * b4.toNat) + (a2.toNat * b3.toNat) + (a3.toNat * b2.toNat) + (a4.toNat * b1.toNat)) + 2251799813685248 * (((a2.toNat * b4.toNat) + (a3.toNat * b3.toNat) + (a4.toNat * b2.toNat)) + 2251799813685248 * (((a3.toNat * b4.toNat) + (a4.toNat * b3.toNat)) + 2251799813685248 * (a4.toNat * b4.toNat))), ?_⟩, mul_lin2 rfl (mul_le52 x0 y0) (mul_le52 x0 y1) (mul_le52 x0 y2) (mul_le52 x0 y3) (mul_le52 x0 y4) (mul_le52 x1 y0) (mul_le52 x1 y1) (mul_le52 x1 y2) (mul_le52 x1 y3) (mul_le52 x1 y4) (mul_le52 x2 y0) (mul_le52 x2 y1) (mul_le52 x2 y2) (mul_le52 x2 y3) (mul_le52 x2 y4) (mul_le52 x3 y0) (mul_le52 x3 y1) (mul_le52 x3 y2) (mul_le52 x3 y3) (mul_le52 x3 y4) (mul_le52 x4 y0) (mul_le52 x4 y1) (mul_le52 x4 y2) (mul_le52 x4 y3) (mul_le52 x4 y4)⟩
  rw [pN_eq, ← mul_lin, nv5, nv5, mulA, mulA, mulA, mulA, mul5, mul5, mul5, mul5, mul5]
theorem mT_val2 {a b : List (BitVec 64)} (ha : Bnd a) (hb : Bnd b) : valN (mT a b 5) / 57896044618658097711785492504343953926634992332820282019728792003956564819968 ≤ 288230376151711744 := (mT_val ha hb).2
theorem bnd_mul {a b : List (BitVec 64)} (ha : Bnd a) (hb : Bnd b) : Bnd (mulC a b) := by
  have h : valN (mT a b 5) / 57896044618658097711785492504343953926634992332820282019728792003956564819968 ≤ 576460752303423488 := Nat.le_trans (mT_val2 ha hb) (by decide)
  refine carN_bnd ?_
  rw [carN_val h, carV]
  have := Nat.mod_lt (valN (mT a b 5)) (show 57896044618658097711785492504343953926634992332820282019728792003956564819968 > 0 by decide)
  omega
theorem mulC_mod {a b : List (BitVec 64)} (ha : Bnd a) (hb : Bnd b) : nv (mulC a b) % pN = (nv a % pN) * (nv b % pN) % pN := by
  obtain ⟨⟨q, e⟩, h⟩ := mT_val ha hb
  have h : valN (mT a b 5) / 57896044618658097711785492504343953926634992332820282019728792003956564819968 ≤ 576460752303423488 := Nat.le_trans h (by decide)
  have h5 : nv (carN (valN (mT a b 5))) / 57896044618658097711785492504343953926634992332820282019728792003956564819968 ≤ 576460752303423488 := by
    rw [carN_val h, carV]
    have := Nat.mod_lt (valN (mT a b 5)) (show 57896044618658097711785492504343953926634992332820282019728792003956564819968 > 0 by decide)
    omega
  rw [mulC, carN_val h5, carV_mod, carN_val h, carV_mod, ← Nat.mul_mod, e, Nat.add_mul_mod_self_left]
/-! bits -/
def gd (w m V n : Nat) : List (BitVec m) := (List.range n).map fun j => BitVec.ofNat m (V / 2 ^ (w * j) % 2 ^ w)
theorem gd_len (w m V n : Nat) : (gd w m V n).length = n := by simp [gd]
theorem gd_dgs (V n : Nat) : gd 51 64 V n = dgs V n := by
  unfold gd dgs dg
  refine List.map_congr_left fun j _ => ?_
  rw [Nat.pow_mul]
theorem gd_get {w m V n j : Nat} (h : j < n) : (gd w m V n).getD j 0#m = BitVec.ofNat m (V / 2 ^ (w * j) % 2 ^ w) := by
  simp [gd, List.getD_eq_getElem?_getD, h]
theorem two_pos (n : Nat) : 0 < 2 ^ n := Nat.pow_pos (by decide)
theorem or_bit {m w r x bit : Nat} (hr : r < w) (hw : w ≤ m) (hx : x < 2 ^ r) (hb : bit < 2) : BitVec.ofNat m x ||| (BitVec.ofNat m bit <<< r) = BitVec.ofNat m (x + 2 ^ r * bit) := by
  have p1 : 2 ^ r * 2 ≤ 2 ^ m := by rw [← Nat.pow_succ]; exact Nat.pow_le_pow_right (by decide) (by omega)
  have p2 : 2 ^ r * bit ≤ 2 ^ r * 1 := Nat.mul_le_mul_left _ (by omega)
  have p3 : 2 ≤ 2 ^ m := Nat.le_trans (by have := two_pos r; omega) p1
  apply BitVec.eq_of_toNat_eq
  rw [BitVec.toNat_or, BitVec.toNat_shiftLeft, BitVec.toNat_ofNat, BitVec.toNat_ofNat, BitVec.toNat_ofNat, Nat.shiftLeft_eq, Nat.mod_eq_of_lt (show x < 2 ^ m by omega), Nat.mod_eq_of_lt (show bit < 2 ^ m by omega), Nat.mul_comm bit, Nat.mod_eq_of_lt (show 2 ^ r * bit < 2 ^ m by omega), Nat.or_comm, ← Nat.two_pow_add_eq_or_of_lt hx, Nat.mod_eq_of_lt (by omega)]
  omega
theorem bit_step {w m V n i bit : Nat} (hw : 0 < w) (hm : w ≤ m) (hV : V < 2 ^ i) (hb : bit < 2) (hi : i < w * n) :
    (gd w m V n).set (i / w) ((gd w m V n).getD (i / w) 0#m ||| (BitVec.ofNat m bit <<< (i % w))) = gd w m (V + 2 ^ i * bit) n := by
  have hq : i / w < n := Nat.div_lt_of_lt_mul hi
  have hr : i % w < w := Nat.mod_lt _ hw
  have hi2 : 2 ^ i = 2 ^ (w * (i / w)) * 2 ^ (i % w) := by rw [← Nat.pow_add, Nat.div_add_mod]
  have hlow : V / 2 ^ (w * (i / w)) < 2 ^ (i % w) := by
    refine Nat.div_lt_of_lt_mul ?_
    rw [← hi2]; exact hV
  have hpw : 2 ^ (i % w) * 2 ≤ 2 ^ w := by rw [← Nat.pow_succ]; exact Nat.pow_le_pow_right (by decide) (by omega)
  have hbb : 2 ^ (i % w) * bit ≤ 2 ^ (i % w) * 1 := Nat.mul_le_mul_left _ (by omega)
  rw [gd_get hq, Nat.mod_eq_of_lt (show V / 2 ^ (w * (i / w)) < 2 ^ w by omega), or_bit hr hm hlow hb]
  refine List.ext_getElem (by simp [gd]) fun j h1 h2 => ?_
  have hj : j < n := by simpa [gd] using h1
  rw [List.getElem_set]
  split
  · next h =>
    subst h
    simp only [gd, List.getElem_map, List.getElem_range]
    have hs : V / 2 ^ (w * (i / w)) + 2 ^ (i % w) * bit < 2 ^ w := by
      generalize 2 ^ (i % w) * bit = X at *
      generalize 2 ^ (i % w) = Y at *
      generalize V / 2 ^ (w * (i / w)) = Z at *
      omega
    rw [hi2, Nat.mul_assoc, Nat.add_mul_div_left _ _ (two_pos _), Nat.mod_eq_of_lt hs]
  · next h =>
    simp only [gd, List.getElem_map, List.getElem_range]
    congr 1
    rcases Nat.lt_or_gt_of_ne h with h3 | h3
    · -- beyond: nought
      have h4 : w * (i / w) + w ≤ w * j := by
        have := Nat.mul_le_mul_left w (show i / w + 1 ≤ j from h3)
        rw [Nat.mul_add, Nat.mul_one] at this; exact this
      have h5 : 2 ^ i * 2 ≤ 2 ^ (w * j) := by
        rw [← Nat.pow_succ]
        refine Nat.pow_le_pow_right (by decide) ?_
        have := Nat.div_add_mod i w
        omega
      have h6 : 2 ^ i * bit ≤ 2 ^ i * 1 := Nat.mul_le_mul_left _ (by omega)
      rw [Nat.div_eq_of_lt (show V < 2 ^ (w * j) by omega), Nat.div_eq_of_lt (show V + 2 ^ i * bit < 2 ^ (w * j) by omega)]
    · obtain ⟨k, hk⟩ : ∃ k, i / w = j + (k + 1) := ⟨i / w - j - 1, by omega⟩
      have e : 2 ^ i * bit = 2 ^ (w * j) * (2 ^ w * (2 ^ (w * k) * 2 ^ (i % w) * bit)) := by
        rw [hi2, hk, Nat.mul_add, Nat.mul_add, Nat.mul_one, Nat.pow_add, Nat.pow_add]
        simp only [Nat.mul_assoc, Nat.mul_left_comm]
      rw [e, Nat.add_mul_div_left _ _ (two_pos _), Nat.add_mul_mod_self_left]
theorem mod_bit (B i : Nat) : B % 2 ^ (i + 1) = B % 2 ^ i + 2 ^ i * (B / 2 ^ i % 2) := Nat.mod_pow_succ
theorem gd_zero (w m n : Nat) : gd w m 0 n = List.replicate n 0#m := by
  refine List.ext_getElem (by simp [gd]) fun j h1 h2 => ?_
  simp [gd]
theorem bit_of {w V i : Nat} (hw : 0 < w) : V / 2 ^ (w * (i / w)) % 2 ^ w / 2 ^ (i % w) % 2 = V / 2 ^ i % 2 := by
  have hr : i % w < w := Nat.mod_lt _ hw
  have h : (V / 2 ^ (w * (i / w)) % 2 ^ w).testBit (i % w) = V.testBit i := by
    rw [Nat.testBit_mod_two_pow, Nat.testBit_div_two_pow, Nat.add_comm, Nat.div_add_mod]
    simp [hr]
  rw [Nat.testBit_eq_decide_div_mod_eq, Nat.testBit_eq_decide_div_mod_eq] at h
  have h2 := decide_eq_decide.1 h
  have a := Nat.mod_lt (V / 2 ^ (w * (i / w)) % 2 ^ w / 2 ^ (i % w)) (show 2 > 0 by decide)
  have b := Nat.mod_lt (V / 2 ^ i) (show 2 > 0 by decide)
  omega
theorem and_one {m : Nat} (hm : 0 < m) (x : BitVec m) : x &&& 1#m = BitVec.ofNat m (x.toNat % 2) := by
  apply BitVec.eq_of_toNat_eq
  have p : 2 ≤ 2 ^ m := by
    have := Nat.pow_le_pow_right (show 2 > 0 by decide) (show 1 ≤ m by omega)
    simpa using this
  rw [BitVec.toNat_and, BitVec.toNat_ofNat, BitVec.toNat_ofNat, Nat.mod_eq_of_lt (show 1 < 2 ^ m by omega)]
  rw [show (1 : Nat) = 2 ^ 1 - 1 from rfl, Nat.and_two_pow_sub_one_eq_mod, Nat.mod_eq_of_lt (show x.toNat % 2 ^ 1 < 2 ^ m by omega)]
theorem gd_bit {w m V n i : Nat} (hw : 0 < w) (hm : w ≤ m) (hi : i < w * n) : ((gd w m V n).getD (i / w) 0#m >>> (i % w)) &&& 1#m = BitVec.ofNat m (V / 2 ^ i % 2) := by
  have hq : i / w < n := Nat.div_lt_of_lt_mul hi
  have p := Nat.pow_le_pow_right (show 2 > 0 by decide) hm
  have q := Nat.mod_lt (V / 2 ^ (w * (i / w))) (two_pos w)
  rw [and_one (by omega), gd_get hq, BitVec.toNat_ushiftRight, BitVec.toNat_ofNat, Nat.mod_eq_of_lt (Nat.lt_of_lt_of_le q p), Nat.shiftRight_eq_div_pow, bit_of hw]
/-! bytes, the lowest first -/
def leN : List (BitVec 8) → Nat
  | [] => 0
  | x :: l => x.toNat + 256 * leN l
theorem gd8_succ (V n : Nat) : gd 8 8 V (n + 1) = BitVec.ofNat 8 (V % 256) :: gd 8 8 (V / 256) n := by
  unfold gd
  rw [List.range_succ_eq_map, List.map_cons, List.map_map]
  congr 1
  · simp
  · refine List.map_congr_left fun j _ => ?_
    simp only [Function.comp_apply, Nat.mul_succ, Nat.add_comm (8 * j) 8, Nat.pow_add, ← Nat.div_div_eq_div_mul]
theorem le_gd : ∀ (b : List (BitVec 8)), gd 8 8 (leN b) b.length = b
  | [] => rfl
  | x :: l => by
    have hx := x.isLt
    rw [List.length_cons, gd8_succ, leN, show (x.toNat + 256 * leN l) / 256 = leN l by omega, le_gd l, show (x.toNat + 256 * leN l) % 256 = x.toNat by omega, BitVec.ofNat_toNat, BitVec.setWidth_eq]
theorem leN_gd : ∀ (n V : Nat), leN (gd 8 8 V n) = V % 256 ^ n
  | 0, V => by simp [gd, leN, Nat.mod_one]
  | n + 1, V => by
    rw [gd8_succ, leN, leN_gd n, BitVec.toNat_ofNat, show 256 ^ (n + 1) = 256 * 256 ^ n by rw [Nat.pow_succ, Nat.mul_comm], Nat.mod_mul, show (2 : Nat) ^ 8 = 256 from rfl, Nat.mod_mod]
theorem leN_lt : ∀ (b : List (BitVec 8)), leN b < 256 ^ b.length
  | [] => by simp [leN]
  | x :: l => by
    have := leN_lt l; have := x.isLt
    rw [leN, List.length_cons, Nat.pow_succ]
    omega
theorem gd_inj {V W n : Nat} (hV : V < 256 ^ n) (hW : W < 256 ^ n) (h : gd 8 8 V n = gd 8 8 W n) : V = W := by
  have := congrArg leN h
  rwa [leN_gd, leN_gd, Nat.mod_eq_of_lt hV, Nat.mod_eq_of_lt hW] at this
/-- a bit of bytes -/
theorem byte_bit {b : List (BitVec 8)} {i : Nat} (h : b.length = 32) (hi : i < 256) : (b.getD (i / 8) 0#8 >>> (i % 8)) &&& 1#8 = BitVec.ofNat 8 (leN b / 2 ^ i % 2) := by
  have := gd_bit (w := 8) (m := 8) (V := leN b) (n := 32) (i := i) (by decide) (by decide) (by omega)
  rwa [← h, le_gd] at this
/-! the ladder, whatever the numbers are -/
def fadd (x y : Nat) : Nat := (x + y) % pN
def fsub (x y : Nat) : Nat := (x + (pN - y)) % pN
def fmul (x y : Nat) : Nat := x * y % pN
structure S4 (α : Type) where
  x2 : α
  z2 : α
  x3 : α
  z3 : α
def swapS {α : Type} (b : Bool) (s : S4 α) : S4 α := if b then ⟨s.x3, s.z3, s.x2, s.z2⟩ else s
def stepG {α : Type} (add sub mul : α → α → α) (c x1 : α) (s : S4 α) : S4 α :=
  ⟨mul (mul (add s.x2 s.z2) (add s.x2 s.z2)) (mul (sub s.x2 s.z2) (sub s.x2 s.z2)),
   mul (sub (mul (add s.x2 s.z2) (add s.x2 s.z2)) (mul (sub s.x2 s.z2) (sub s.x2 s.z2))) (add (mul (add s.x2 s.z2) (add s.x2 s.z2)) (mul c (sub (mul (add s.x2 s.z2) (add s.x2 s.z2)) (mul (sub s.x2 s.z2) (sub s.x2 s.z2))))),
   mul (add (mul (sub s.x3 s.z3) (add s.x2 s.z2)) (mul (add s.x3 s.z3) (sub s.x2 s.z2))) (add (mul (sub s.x3 s.z3) (add s.x2 s.z2)) (mul (add s.x3 s.z3) (sub s.x2 s.z2))),
   mul x1 (mul (sub (mul (sub s.x3 s.z3) (add s.x2 s.z2)) (mul (add s.x3 s.z3) (sub s.x2 s.z2))) (sub (mul (sub s.x3 s.z3) (add s.x2 s.z2)) (mul (add s.x3 s.z3) (sub s.x2 s.z2))))⟩
def ladG {α : Type} (add sub mul : α → α → α) (c one zero x1 : α) (k : Nat) : Nat → S4 α
  | 0 => ⟨one, zero, x1, one⟩
  | n + 1 => swapS (k.testBit (254 - n)) (stepG add sub mul c x1 (swapS (k.testBit (254 - n)) (ladG add sub mul c one zero x1 k n)))
def invG {α : Type} (mul : α → α → α) (a : α) : Nat → α
  | 0 => a
  | n + 1 => if n = 251 ∨ n = 249 then mul (invG mul a n) (invG mul a n) else mul (mul (invG mul a n) (invG mul a n)) a
def outG {α : Type} (mul : α → α → α) (s : S4 α) : α := mul s.x2 (invG mul s.z2 254)
/-- what is shared, as a number -/
def xN (k u : Nat) : Nat := outG fmul (ladG fadd fsub fmul 121665 1 0 u k 255)
def Rel4 {α : Type} (R : α → Nat → Prop) (s : S4 α) (t : S4 Nat) : Prop := R s.x2 t.x2 ∧ R s.z2 t.z2 ∧ R s.x3 t.x3 ∧ R s.z3 t.z3
theorem swap_rel {α : Type} {R : α → Nat → Prop} {s : S4 α} {t : S4 Nat} (b : Bool) (h : Rel4 R s t) : Rel4 R (swapS b s) (swapS b t) := by
  cases b
  · exact h
  · exact ⟨h.2.2.1, h.2.2.2, h.1, h.2.1⟩
structure Hom {α : Type} (add sub mul : α → α → α) (R R' : α → Nat → Prop) : Prop where
  ha : ∀ a b x y, R a x → R b y → R' (add a b) (fadd x y)
  hs : ∀ a b x y, R a x → R b y → R' (sub a b) (fsub x y)
  hm : ∀ a b x y, R' a x → R' b y → R (mul a b) (fmul x y)
  hu : ∀ a x, R a x → R' a x
section rel
variable {α : Type} {add sub mul : α → α → α} {R R' : α → Nat → Prop}
theorem step_rel (H : Hom add sub mul R R') {c x1 : α} {d y1 : Nat} {s : S4 α} {t : S4 Nat} (hc : R c d) (h1 : R x1 y1) (h : Rel4 R s t) : Rel4 R (stepG add sub mul c x1 s) (stepG fadd fsub fmul d y1 t) := by
  obtain ⟨a, b, c, d⟩ := h
  have A := H.ha _ _ _ _ a b; have B := H.hs _ _ _ _ a b; have C := H.ha _ _ _ _ c d; have D := H.hs _ _ _ _ c d
  have DA := H.hm _ _ _ _ D A; have CB := H.hm _ _ _ _ C B; have AA := H.hm _ _ _ _ A A; have BB := H.hm _ _ _ _ B B
  have E := H.hs _ _ _ _ AA BB; have S := H.ha _ _ _ _ DA CB; have T := H.hs _ _ _ _ DA CB
  exact ⟨H.hm _ _ _ _ (H.hu _ _ AA) (H.hu _ _ BB), H.hm _ _ _ _ E (H.ha _ _ _ _ AA (H.hm _ _ _ _ (H.hu _ _ hc) E)), H.hm _ _ _ _ S S, H.hm _ _ _ _ (H.hu _ _ h1) (H.hu _ _ (H.hm _ _ _ _ T T))⟩
theorem lad_rel (H : Hom add sub mul R R') {c one zero x1 : α} {u k : Nat} (hc : R c 121665) (h0 : R one 1) (hz : R zero 0) (h1 : R x1 u) : ∀ n, Rel4 R (ladG add sub mul c one zero x1 k n) (ladG fadd fsub fmul 121665 1 0 u k n)
  | 0 => ⟨h0, hz, h1, h0⟩
  | n + 1 => swap_rel _ (step_rel H hc h1 (swap_rel _ (lad_rel H hc h0 hz h1 n)))
theorem inv_rel (H : Hom add sub mul R R') {a : α} {x : Nat} (h : R a x) : ∀ n, R (invG mul a n) (invG fmul x n)
  | 0 => h
  | n + 1 => by
    have ih := inv_rel H h n
    unfold invG
    split
    · exact H.hm _ _ _ _ (H.hu _ _ ih) (H.hu _ _ ih)
    · exact H.hm _ _ _ _ (H.hu _ _ (H.hm _ _ _ _ (H.hu _ _ ih) (H.hu _ _ ih))) (H.hu _ _ h)
theorem out_rel (H : Hom add sub mul R R') {c one zero x1 : α} {u k : Nat} (hc : R c 121665) (h0 : R one 1) (hz : R zero 0) (h1 : R x1 u) : R (outG mul (ladG add sub mul c one zero x1 k 255)) (xN k u) := by
  have h := lad_rel (k := k) H hc h0 hz h1 255
  exact H.hm _ _ _ _ (H.hu _ _ h.1) (H.hu _ _ (inv_rel H h.2.1 254))
end rel
theorem pN_pos : 0 < pN := by decide
theorem fmul_lt (x y : Nat) : fmul x y < pN := Nat.mod_lt _ pN_pos
theorem xN_lt (k u : Nat) : xN k u < pN := fmul_lt _ _
/-- the code's numbers -/
def RelC (a : List (BitVec 64)) (x : Nat) : Prop := Bnd a ∧ nv a % pN = x
theorem relC_add {a b : List (BitVec 64)} {x y : Nat} (h : RelC a x) (g : RelC b y) : RelC (addC a b) (fadd x y) := by
  obtain ⟨h1, rfl⟩ := h; obtain ⟨g1, rfl⟩ := g
  exact ⟨bnd_add h1 g1, addC_mod h1 g1⟩
theorem relC_sub {a b : List (BitVec 64)} {x y : Nat} (h : RelC a x) (g : RelC b y) : RelC (subC a b) (fsub x y) := by
  obtain ⟨h1, rfl⟩ := h; obtain ⟨g1, rfl⟩ := g
  exact ⟨bnd_sub h1 g1, subC_mod h1 g1⟩
theorem relC_mul {a b : List (BitVec 64)} {x y : Nat} (h : RelC a x) (g : RelC b y) : RelC (mulC a b) (fmul x y) := by
  obtain ⟨h1, rfl⟩ := h; obtain ⟨g1, rfl⟩ := g
  exact ⟨bnd_mul h1 g1, mulC_mod h1 g1⟩
theorem homC : Hom addC subC mulC RelC RelC := ⟨fun _ _ _ _ => relC_add, fun _ _ _ _ => relC_sub, fun _ _ _ _ => relC_mul, fun _ _ h => h⟩
theorem relC_lit {n : Nat} (h : n < 2251799813685248) : RelC [BitVec.ofNat 64 n, 0#64, 0#64, 0#64, 0#64] n := by
  refine ⟨⟨rfl, ?_⟩, ?_⟩
  · simp only [List.mem_cons, List.not_mem_nil, or_false]
    rintro w (rfl | rfl | rfl | rfl | rfl)
    · rw [ofN (by omega)]; omega
    all_goals decide
  · rw [nv5, ofN (by omega)]
    simp only [show (0#64).toNat = 0 from rfl, Nat.mul_zero, Nat.add_zero]
    have := pN_eq
    exact Nat.mod_eq_of_lt (by omega)
theorem dgs_bnd (V : Nat) : Bnd (dgs V 5) := by
  refine ⟨dgs_len _ _, fun w hw => ?_⟩
  obtain ⟨j, _, rfl⟩ := List.mem_map.1 hw
  have := dg_lt V j
  rw [ofN (by omega)]; omega
theorem nv_dgs {V : Nat} (h : V < 57896044618658097711785492504343953926634992332820282019728792003956564819968) : nv (dgs V 5) = V := by
  have d := digits5 V
  rw [Nat.div_eq_of_lt h] at d
  rw [dgs5, nv5]
  rw [ofN (by have := dg_lt V 0; omega), ofN (by have := dg_lt V 1; omega), ofN (by have := dg_lt V 2; omega), ofN (by have := dg_lt V 3; omega), ofN (by have := dg_lt V 4; omega)]
  omega
theorem relC_dgs {V : Nat} (h : V < 57896044618658097711785492504343953926634992332820282019728792003956564819968) : RelC (dgs V 5) (V % pN) := ⟨dgs_bnd V, by rw [nv_dgs h]⟩
def one5 : List (BitVec 64) := [1#64, 0#64, 0#64, 0#64, 0#64]
def zero5 : List (BitVec 64) := [0#64, 0#64, 0#64, 0#64, 0#64]
def num5 : List (BitVec 64) := [121665#64, 0#64, 0#64, 0#64, 0#64]
def ladC (u : List (BitVec 64)) (k n : Nat) : S4 (List (BitVec 64)) := ladG addC subC mulC num5 one5 zero5 u k n
theorem ladC_rel {u : List (BitVec 64)} {x : Nat} (h : RelC u x) (k n : Nat) : Rel4 RelC (ladC u k n) (ladG fadd fsub fmul 121665 1 0 x k n) :=
  lad_rel homC (relC_lit (n := 121665) (by decide)) (relC_lit (n := 1) (by decide)) (relC_lit (n := 0) (by decide)) h n
theorem outC_rel {u : List (BitVec 64)} {x : Nat} (h : RelC u x) (k : Nat) : RelC (outG mulC (ladC u k 255)) (xN k x) :=
  out_rel homC (relC_lit (n := 121665) (by decide)) (relC_lit (n := 1) (by decide)) (relC_lit (n := 0) (by decide)) h
/-! the bytes of a number, the least one -/
def packN (V : Nat) : List (BitVec 8) := gd 8 8 (V % pN) 32
theorem packN_len (V : Nat) : (packN V).length = 32 := gd_len _ _ _ _
def p1C (a : List (BitVec 64)) : List (BitVec 64) := carN (nv a)
theorem pack_two {a : List (BitVec 64)} (h : Bnd a) : ∃ V, V < 57896044618658097711785492504343953926634992332820282019728792003956564819968 ∧ carN (nv (carN (nv a))) = dgs V 5 ∧ V % pN = nv a % pN := by
  have l := h.lt
  have e1 : nv (carN (nv a)) = carV (nv a) := carN_val (by omega)
  have e2 := carV_mod (nv a)
  rw [e1]
  have c1 : carV (nv a) < 57896044618658097711785492504343953926634992332820282019728792003956564819968 + 76 := by
    unfold carV; omega
  generalize carV (nv a) = W at *
  refine ⟨carV W, ?_, ?_, by rw [carV_mod, e2]⟩
  · unfold carV; omega
  · unfold carN
    by_cases hW : W < 57896044618658097711785492504343953926634992332820282019728792003956564819968
    · have e : carV W = W := by unfold carV; omega
      rw [e, Nat.div_eq_of_lt hW, dgs5]
      simp
    · obtain ⟨d, rfl⟩ : ∃ d, W = 57896044618658097711785492504343953926634992332820282019728792003956564819968 + d := ⟨W - 57896044618658097711785492504343953926634992332820282019728792003956564819968, by omega⟩
      have hd : d < 76 := by omega
      have e : carV (57896044618658097711785492504343953926634992332820282019728792003956564819968 + d) = d + 19 := by unfold carV; omega
      rw [e]
      have q : (57896044618658097711785492504343953926634992332820282019728792003956564819968 + d) / 57896044618658097711785492504343953926634992332820282019728792003956564819968 = 1 := by omega
      have g : ∀ n, n < 2251799813685248 → dgs n 5 = [BitVec.ofNat 64 n, 0#64, 0#64, 0#64, 0#64] := by
        intro n hn
        rw [dgs5]
        simp only [dg, Nat.pow_zero, Nat.div_one, Nat.mod_eq_of_lt hn]
        rw [Nat.div_eq_of_lt (show n < 2251799813685248 ^ 1 by omega), Nat.div_eq_of_lt (show n < 2251799813685248 ^ 2 by omega), Nat.div_eq_of_lt (show n < 2251799813685248 ^ 3 by omega), Nat.div_eq_of_lt (show n < 2251799813685248 ^ 4 by omega)]
      have g2 : dgs (57896044618658097711785492504343953926634992332820282019728792003956564819968 + d) 5 = dgs d 5 := by
        have h := fun j (hj : j < 5) => dg_low (V := d) (x := 1) (i := 5) (j := j) hj
        rw [dgs5, dgs5]
        rw [show 57896044618658097711785492504343953926634992332820282019728792003956564819968 + d = d + 1 * 2251799813685248 ^ 5 by omega, h 0 (by decide), h 1 (by decide), h 2 (by decide), h 3 (by decide), h 4 (by decide)]
      have g3 : dg (57896044618658097711785492504343953926634992332820282019728792003956564819968 + d) 0 = d := by
        unfold dg; simp only [Nat.pow_zero, Nat.div_one]; omega
      have g4 : BitVec.ofNat 64 d + 19#64 * BitVec.ofNat 64 1 = BitVec.ofNat 64 (d + 19) := by rw [BitVec.ofNat_add]; rfl
      rw [g2, g3, q, g d (by omega), g (d + 19) (by omega), List.set_cons_zero, g4]
/-- with 19 more: beyond 2 to the power of 255? -/
theorem pack_less {V : Nat} (h : V < 57896044618658097711785492504343953926634992332820282019728792003956564819968) : V % pN = if (V + 19) / 57896044618658097711785492504343953926634992332820282019728792003956564819968 = 0 then V else (V + 19) % 57896044618658097711785492504343953926634992332820282019728792003956564819968 := by
  have := pN_eq
  split
  · rw [Nat.mod_eq_of_lt (by omega)]
  · rw [Nat.mod_eq_sub_mod (by omega), Nat.mod_eq_of_lt (by omega)]; omega
/-! rows that are written from the left on -/
section tk
variable {α : Type} {s a : List α} {i n : Nat}
theorem tk_zero : s.take 0 ++ a.drop 0 = a := by simp
theorem tk_all (hs : s.length = n) (ha : a.length = n) : s.take n ++ a.drop n = s := by
  rw [List.take_of_length_le (Nat.le_of_eq hs), List.drop_eq_nil_of_le (Nat.le_of_eq ha), List.append_nil]
theorem tk_len (hs : s.length = n) (ha : a.length = n) (hi : i ≤ n) : (s.take i ++ a.drop i).length = n := by simp; omega
theorem tk_get {d : α} (hs : s.length = n) (hi : i < n) : (s.take i ++ a.drop i).getD i d = a.getD i d := by
  have : (s.take i).length = i := by simp; omega
  rw [List.getD_eq_getElem?_getD, List.getD_eq_getElem?_getD, List.getElem?_append_right (by omega), this, Nat.sub_self, List.getElem?_drop, Nat.add_zero]
theorem tk_set {d v : α} (hs : s.length = n) (ha : a.length = n) (hi : i < n) (hv : v = s.getD i d) : (s.take i ++ a.drop i).set i v = s.take (i + 1) ++ a.drop (i + 1) := by
  have h1 : (s.take i).length = i := by simp; omega
  have h2 : s.getD i d = s[i] := by simp [List.getD_eq_getElem?_getD, hs, hi]
  rw [List.set_append_right _ _ (by omega), h1, Nat.sub_self, List.drop_eq_getElem_cons (by omega), List.set_cons_zero, List.take_succ_eq_append_getElem (by omega), hv, h2, List.append_assoc]
  rfl
end tk
theorem plus_eq {w : List (BitVec 64)} {a b : BitVec 64} : [w.getD 0 0#64 + BitVec.ofNat 64 (a.toNat * b.toNat / 18446744073709551616) + cy (w.getD 1 0#64) (a * b) 0#64, w.getD 1 0#64 + a * b + 0#64] = plusW w a b := by
  have l0 := (w.getD 0 0#64).isLt
  have l1 := (w.getD 1 0#64).isLt
  have e0 : w.getD 0 0#64 + BitVec.ofNat 64 (a.toNat * b.toNat / 18446744073709551616) + cy (w.getD 1 0#64) (a * b) 0#64 = BitVec.ofNat 64 ((wtN w + a.toNat * b.toNat) / 18446744073709551616) := by
    apply BitVec.eq_of_toNat_eq
    simp only [cy, wtN, BitVec.toNat_add, BitVec.toNat_mul, BitVec.toNat_ofNat]
    generalize a.toNat * b.toNat = X
    omega
  have e1 : w.getD 1 0#64 + a * b + 0#64 = BitVec.ofNat 64 (wtN w + a.toNat * b.toNat) := by
    apply BitVec.eq_of_toNat_eq
    simp only [wtN, BitVec.toNat_add, BitVec.toNat_mul, BitVec.toNat_ofNat]
    generalize a.toNat * b.toNat = X
    omega
  rw [e0, e1]
  rfl
theorem zadd_len {a b : List (BitVec 64)} (ha : a.length = 5) (hb : b.length = 5) : (zadd a b).length = 5 := by
  obtain ⟨a0, a1, a2, a3, a4, rfl⟩ := list5 a ha
  obtain ⟨b0, b1, b2, b3, b4, rfl⟩ := list5 b hb
  rfl
theorem five {i : Nat} (h : i < 5) : i = 0 ∨ i = 1 ∨ i = 2 ∨ i = 3 ∨ i = 4 := by omega
theorem zadd_get {a b : List (BitVec 64)} (ha : a.length = 5) (hb : b.length = 5) {i : Nat} (hi : i < 5) : a.getD i 0#64 + b.getD i 0#64 = (zadd a b).getD i 0#64 := by
  obtain ⟨a0, a1, a2, a3, a4, rfl⟩ := list5 a ha
  obtain ⟨b0, b1, b2, b3, b4, rfl⟩ := list5 b hb
  rcases five hi with rfl | rfl | rfl | rfl | rfl <;> rfl
theorem subC0_len {a b : List (BitVec 64)} (ha : a.length = 5) : (subC0 a b).length = 5 := zadd_len ha rfl
theorem subC0_get0 {a b : List (BitVec 64)} (ha : a.length = 5) : a.getD 0 0#64 + (36028797018963664#64 - b.getD 0 0#64) = (subC0 a b).getD 0 0#64 := by
  rw [subC0, ← zadd_get ha rfl (by decide)]; rfl
theorem subC0_get {a b : List (BitVec 64)} (ha : a.length = 5) {i : Nat} (hi : i < 5) (h0 : i ≠ 0) : a.getD i 0#64 + (36028797018963952#64 - b.getD i 0#64) = (subC0 a b).getD i 0#64 := by
  rw [subC0, ← zadd_get ha rfl hi]
  rcases five hi with rfl | rfl | rfl | rfl | rfl
  · exact absurd rfl h0
  all_goals rfl
def LtA (a : List (BitVec 64)) : Prop := ∀ w ∈ a, w.toNat < 9223372036854775808
theorem zadd_lt {a b : List (BitVec 64)} (ha : Bnd a) (hb : Bnd b) : LtA (zadd a b) := by
  obtain ⟨h1, h2⟩ := ha; obtain ⟨h3, h4⟩ := hb
  obtain ⟨a0, a1, a2, a3, a4, rfl⟩ := list5 a h1
  obtain ⟨b0, b1, b2, b3, b4, rfl⟩ := list5 b h3
  simp only [List.mem_cons, List.not_mem_nil, or_false, forall_eq_or_imp, forall_eq, LtA, zadd, BitVec.toNat_add] at *
  omega
theorem subC0_lt {a b : List (BitVec 64)} (ha : Bnd a) (hb : Bnd b) : LtA (subC0 a b) := by
  obtain ⟨h1, h2⟩ := ha; obtain ⟨h3, h4⟩ := hb
  obtain ⟨a0, a1, a2, a3, a4, rfl⟩ := list5 a h1
  obtain ⟨b0, b1, b2, b3, b4, rfl⟩ := list5 b h3
  simp only [List.mem_cons, List.not_mem_nil, or_false, forall_eq_or_imp, forall_eq] at h2 h4
  obtain ⟨x0, x1, x2, x3, x4⟩ := h2
  obtain ⟨y0, y1, y2, y3, y4⟩ := h4
  have e0 := sub_word (m := 36028797018963664#64) x0 y0 (by decide) (by decide)
  have e1 := sub_word (m := 36028797018963952#64) x1 y1 (by decide) (by decide)
  have e2 := sub_word (m := 36028797018963952#64) x2 y2 (by decide) (by decide)
  have e3 := sub_word (m := 36028797018963952#64) x3 y3 (by decide) (by decide)
  have e4 := sub_word (m := 36028797018963952#64) x4 y4 (by decide) (by decide)
  rw [show (36028797018963664#64).toNat = 36028797018963664 from rfl] at e0
  rw [show (36028797018963952#64).toNat = 36028797018963952 from rfl] at e1 e2 e3 e4
  simp only [LtA, subC0, zadd, List.getD_cons_zero, List.getD_cons_succ, List.mem_cons, List.not_mem_nil, or_false, forall_eq_or_imp, forall_eq]
  generalize (a0 + (36028797018963664#64 - b0)).toNat = s0 at *
  generalize (a1 + (36028797018963952#64 - b1)).toNat = s1 at *
  generalize (a2 + (36028797018963952#64 - b2)).toNat = s2 at *
  generalize (a3 + (36028797018963952#64 - b3)).toNat = s3 at *
  generalize (a4 + (36028797018963952#64 - b4)).toNat = s4 at *
  omega
theorem LtA.of_bnd {a : List (BitVec 64)} (h : Bnd a) : LtA a := fun w hw => by have := h.2 w hw; omega
theorem carN_lt {V : Nat} (h : V / 57896044618658097711785492504343953926634992332820282019728792003956564819968 ≤ 288230376151711744) : LtA (carN V) := by
  have h0 := dg_lt V 0; have h1 := dg_lt V 1; have h2 := dg_lt V 2; have h3 := dg_lt V 3; have h4 := dg_lt V 4
  have e : 19#64 * BitVec.ofNat 64 (V / 57896044618658097711785492504343953926634992332820282019728792003956564819968) = BitVec.ofNat 64 (19 * (V / 57896044618658097711785492504343953926634992332820282019728792003956564819968)) := by
    apply BitVec.eq_of_toNat_eq
    rw [BitVec.toNat_mul, ofN (by omega), ofN (by omega)]; simp
  unfold carN LtA
  rw [e, dgs5, ← BitVec.ofNat_add]
  simp only [List.set_cons_zero, List.mem_cons, List.not_mem_nil, or_false]
  rintro w (rfl | rfl | rfl | rfl | rfl) <;> rw [ofN (by omega)] <;> omega
/-! a carry's loop -/
theorem nats_get {a : List (BitVec 64)} {i : Nat} : (a.map BitVec.toNat).getD i 0 = (a.getD i 0#64).toNat := by
  simp only [List.getD_eq_getElem?_getD, List.getElem?_map]
  cases a[i]? <;> rfl
theorem car_cy {a : List (BitVec 64)} (hb : LtA a) : ∀ i, i ≤ a.length → ccy (a.map BitVec.toNat) i ≤ 4096
  | 0, _ => by rw [ccy_zero]; decide
  | i + 1, hi => by
    have h1 := car_cy hb i (by omega)
    have h2 := mem_get (P := fun w => w.toNat < 9223372036854775808) hb (by decide) i
    rw [ccy_succ (by simp; omega), nats_get]
    omega
theorem car_lo {a : List (BitVec 64)} (hb : LtA a) {i : Nat} (hi : i < a.length) : (a.getD i 0#64 + BitVec.ofNat 64 (ccy (a.map BitVec.toNat) i)) &&& 2251799813685247#64 = BitVec.ofNat 64 ((ccy (a.map BitVec.toNat) i + (a.map BitVec.toNat).getD i 0) % 2251799813685248) := by
  have h1 := car_cy hb i (by omega)
  have h2 := mem_get (P := fun w => w.toNat < 9223372036854775808) hb (by decide) i
  rw [and_mask, BitVec.toNat_add, BitVec.toNat_ofNat, nats_get]
  congr 1
  omega
theorem car_hi {a : List (BitVec 64)} (hb : LtA a) {i : Nat} (hi : i < a.length) : (a.getD i 0#64 + BitVec.ofNat 64 (ccy (a.map BitVec.toNat) i)) >>> 51 = BitVec.ofNat 64 (ccy (a.map BitVec.toNat) (i + 1)) := by
  have h1 := car_cy hb i (by omega)
  have h2 := mem_get (P := fun w => w.toNat < 9223372036854775808) hb (by decide) i
  rw [shr51, BitVec.toNat_add, BitVec.toNat_ofNat, ccy_succ (by simp; omega), nats_get]
  congr 1
  omega
theorem car_step {a : List (BitVec 64)} (hb : LtA a) {i : Nat} (hi : i < a.length) : (cst (a.map BitVec.toNat) a i).set i ((a.getD i 0#64 + BitVec.ofNat 64 (ccy (a.map BitVec.toNat) i)) &&& 2251799813685247#64) = cst (a.map BitVec.toNat) a (i + 1) :=
  cst_succ (by simpa using hi) hi (car_lo hb hi)
/-! unpack, pack -/
theorem unpack_step {b : List (BitVec 8)} (h : b.length = 32) {i : Nat} (hi : i < 255) : (dgs (leN b % 2 ^ i) 5).set (i / 51) ((dgs (leN b % 2 ^ i) 5).getD (i / 51) 0#64 ||| ((b.getD (i / 8) 0#8 >>> (i % 8) &&& 1#8).setWidth 64 <<< (i % 51))) = dgs (leN b % 2 ^ (i + 1)) 5 := by
  have p : leN b / 2 ^ i % 2 < 2 := Nat.mod_lt _ (by decide)
  have s := bit_step (w := 51) (m := 64) (V := leN b % 2 ^ i) (n := 5) (i := i) (bit := leN b / 2 ^ i % 2) (by decide) (by decide) (Nat.mod_lt _ (two_pos _)) p (by omega)
  rw [gd_dgs, gd_dgs, ← mod_bit] at s
  rw [byte_bit h (by omega), ← s]
  congr 2
  congr 1
  apply BitVec.eq_of_toNat_eq
  simp only [BitVec.toNat_setWidth, BitVec.toNat_ofNat]
  omega
theorem pack_step {W i : Nat} (hi : i < 255) : (gd 8 8 (W % 2 ^ i) 32).set (i / 8) ((gd 8 8 (W % 2 ^ i) 32).getD (i / 8) 0#8 ||| (((dgs W 5).getD (i / 51) 0#64 >>> (i % 51) &&& 1#64).setWidth 8 <<< (i % 8))) = gd 8 8 (W % 2 ^ (i + 1)) 32 := by
  have p : W / 2 ^ i % 2 < 2 := Nat.mod_lt _ (by decide)
  have s := bit_step (w := 8) (m := 8) (V := W % 2 ^ i) (n := 32) (i := i) (bit := W / 2 ^ i % 2) (by decide) (by decide) (Nat.mod_lt _ (two_pos _)) p (by omega)
  rw [← mod_bit] at s
  rw [← gd_dgs, gd_bit (by decide) (by decide) (by omega), ← s]
  congr 2
  congr 1
  apply BitVec.eq_of_toNat_eq
  simp only [BitVec.toNat_setWidth, BitVec.toNat_ofNat]
  omega
theorem dgs_mod {V W : Nat} (h : V % 57896044618658097711785492504343953926634992332820282019728792003956564819968 = W % 57896044618658097711785492504343953926634992332820282019728792003956564819968) : dgs V 5 = dgs W 5 := by
  have key : ∀ U, dgs U 5 = dgs (U % 57896044618658097711785492504343953926634992332820282019728792003956564819968) 5 := by
    intro U
    have e : U = U % 57896044618658097711785492504343953926634992332820282019728792003956564819968 + (U / 57896044618658097711785492504343953926634992332820282019728792003956564819968) * 2251799813685248 ^ 5 := by
      have := Nat.div_add_mod U 57896044618658097711785492504343953926634992332820282019728792003956564819968
      omega
    have h := fun j (hj : j < 5) => dg_low (V := U % 57896044618658097711785492504343953926634992332820282019728792003956564819968) (x := U / 57896044618658097711785492504343953926634992332820282019728792003956564819968) (i := 5) (j := j) hj
    rw [← e] at h
    rw [dgs5, dgs5, h 0 (by decide), h 1 (by decide), h 2 (by decide), h 3 (by decide), h 4 (by decide)]
  rw [key V, key W, h]
def addW (V : Nat) : List (BitVec 64) := (dgs V 5).set 0 ((dgs V 5).getD 0 0#64 + 19#64)
theorem addW_len (V : Nat) : (addW V).length = 5 := by simp [addW, dgs_len]
theorem addW_lt (V : Nat) : LtA (addW V) := by
  intro w hw
  have h := (dgs_bnd V).2
  rcases List.mem_or_eq_of_mem_set hw with h2 | rfl
  · have := h w h2; omega
  · have := mem_get (P := fun w => w.toNat < 4503599627370496) h (by decide) 0
    rw [BitVec.toNat_add]
    simp only [show (19#64).toNat = 19 from rfl]
    omega
theorem addW_nv {V : Nat} (h : V < 57896044618658097711785492504343953926634992332820282019728792003956564819968) : nv (addW V) = V + 19 := by
  have e := nv_dgs h
  unfold addW
  rw [dgs5] at e ⊢
  rw [nv5] at e
  rw [List.getD_cons_zero, List.set_cons_zero, nv5, BitVec.toNat_add]
  have := dg_lt V 0
  rw [ofN (n := dg V 0) (by omega)] at e ⊢
  simp only [show (19#64).toNat = 19 from rfl]
  omega
theorem pack_cy {V : Nat} (h : V < 57896044618658097711785492504343953926634992332820282019728792003956564819968) : ccy ((addW V).map BitVec.toNat) 5 = (V + 19) / 57896044618658097711785492504343953926634992332820282019728792003956564819968 := by
  rw [ccy, show psum ((addW V).map BitVec.toNat) 5 = nv (addW V) by rw [nv, ← psum_all (t := (addW V).map BitVec.toNat)]; simp [addW_len], addW_nv h]
theorem pack_t {V : Nat} (h : V < 57896044618658097711785492504343953926634992332820282019728792003956564819968) (hc : 0 < ccy ((addW V).map BitVec.toNat) 5) : cst ((addW V).map BitVec.toNat) (addW V) 5 = dgs (V % pN) 5 := by
  rw [pack_cy h] at hc
  rw [cst_all (by simp [addW_len]) (addW_len V), show valN ((addW V).map BitVec.toNat) = nv (addW V) from rfl, addW_nv h]
  refine dgs_mod ?_
  rw [pack_less h, if_neg (by omega), Nat.mod_mod]
theorem pack_f {V : Nat} (h : V < 57896044618658097711785492504343953926634992332820282019728792003956564819968) (hc : ¬ 0 < ccy ((addW V).map BitVec.toNat) 5) : dgs V 5 = dgs (V % pN) 5 := by
  rw [pack_cy h] at hc
  rw [pack_less h, if_pos (by omega)]
theorem pack_end (X : Nat) : gd 8 8 (X % pN % 2 ^ 255) 32 = packN X := by
  have := Nat.mod_lt X pN_pos
  have := pN_eq
  rw [packN, Nat.mod_eq_of_lt (show X % pN < 2 ^ 255 by rw [show (2 : Nat) ^ 255 = 57896044618658097711785492504343953926634992332820282019728792003956564819968 from rfl]; omega)]
/-! changing places -/
def selB (bit : BitVec 8) (a c : List (BitVec 64)) : List (BitVec 64) := if bit = 1#8 then c else a
def selI (bit : BitVec 8) (a c : List (BitVec 64)) (i : Nat) : List (BitVec 64) := if bit = 1#8 then c.take i ++ a.drop i else a
theorem selI_zero (bit : BitVec 8) (a c : List (BitVec 64)) : selI bit a c 0 = a := by unfold selI; split <;> simp
theorem selI_all {bit : BitVec 8} {a c : List (BitVec 64)} (ha : a.length = 5) (hc : c.length = 5) : selI bit a c 5 = selB bit a c := by
  unfold selI selB; split
  · exact tk_all hc ha
  · rfl
theorem selI_len {bit : BitVec 8} {a c : List (BitVec 64)} {i : Nat} (ha : a.length = 5) (hc : c.length = 5) (hi : i ≤ 5) : (selI bit a c i).length = 5 := by
  unfold selI; split
  · exact tk_len hc ha hi
  · exact ha
theorem selB_len {bit : BitVec 8} {a c : List (BitVec 64)} (ha : a.length = 5) (hc : c.length = 5) : (selB bit a c).length = 5 := by unfold selB; split <;> assumption
theorem sel_step {bit : BitVec 8} (hb : bit = 0#8 ∨ bit = 1#8) {a c : List (BitVec 64)} {i : Nat} (ha : a.length = 5) (hc : c.length = 5) (hi : i < 5) :
    (selI bit a c i).set i ((selI bit a c i).getD i 0#64 ^^^ ((-(bit.setWidth 64)) &&& ((selI bit a c i).getD i 0#64 ^^^ (selI bit c a i).getD i 0#64))) = selI bit a c (i + 1) := by
  rcases hb with rfl | rfl
  · have e : ∀ i, selI 0#8 a c i = a := fun i => rfl
    simp only [e]
    rw [show -(BitVec.setWidth 64 0#8) = 0#64 from rfl, BitVec.zero_and, BitVec.xor_zero]
    refine List.ext_getElem (by simp) fun j h1 h2 => ?_
    rw [List.getElem_set]
    split
    · next h => subst h; simp [List.getD_eq_getElem?_getD, h2]
    · rfl
  · have e : ∀ (x y : List (BitVec 64)) i, selI 1#8 x y i = y.take i ++ x.drop i := fun x y i => rfl
    simp only [e]
    rw [show -(BitVec.setWidth 64 1#8) = BitVec.allOnes 64 from rfl, BitVec.allOnes_and, tk_get hc hi, tk_get ha hi]
    refine tk_set (d := 0#64) hc ha hi ?_
    rw [← BitVec.xor_assoc, BitVec.xor_self, BitVec.zero_xor]
theorem sel_step2 {bit : BitVec 8} (hb : bit = 0#8 ∨ bit = 1#8) {a c : List (BitVec 64)} {i : Nat} (ha : a.length = 5) (hc : c.length = 5) (hi : i < 5) :
    (selI bit c a i).set i ((selI bit c a i).getD i 0#64 ^^^ ((-(bit.setWidth 64)) &&& ((selI bit a c i).getD i 0#64 ^^^ (selI bit c a i).getD i 0#64))) = selI bit c a (i + 1) := by
  rw [BitVec.xor_comm ((selI bit a c i).getD i 0#64)]
  exact sel_step hb hc ha hi
theorem mT_succ (a b : List (BitVec 64)) (i : Nat) : mT a b (i + 1) = mR a b i (mT a b i) 5 := rfl
theorem mR_zero (a b : List (BitVec 64)) (i : Nat) (t : List Nat) : mR a b i t 0 = t := rfl
theorem wcs_mT0 (a b : List (BitVec 64)) : wcs (mT a b 0) = List.replicate 10 0#64 := rfl
theorem mulC_eq {a b : List (BitVec 64)} {v : BitVec 64} (hv : v = (cst (mT a b 5) (List.replicate 5 0#64) 5).getD 0 0#64 + 19#64 * BitVec.ofNat 64 (ccy (mT a b 5) 5)) : carN (nv ((cst (mT a b 5) (List.replicate 5 0#64) 5).set 0 v)) = mulC a b := by
  rw [carN_end (mT_len a b 5) (by simp) hv]
  rfl
theorem mul_lt {a b : List (BitVec 64)} (ha : Bnd a) (hb : Bnd b) : LtA (carN (valN (mT a b 5))) := by
  exact carN_lt (mT_val2 ha hb)
theorem cy2_loX {n c : Nat} (hc : c < 18446744073709551616) : ((wd n).getD 1 0#64 + BitVec.ofNat 64 c + 0#64) &&& 2251799813685247#64 = BitVec.ofNat 64 ((c + n) % 2251799813685248) := by
  rw [BitVec.add_zero]; exact cy2_lo hc
theorem cy2_hiX {n c : Nat} (hn : n < 20769187434139310514121985316880384) (hc : c < 18446744073709551616) : (((wd n).getD 0 0#64 + cy ((wd n).getD 1 0#64) (BitVec.ofNat 64 c) 0#64) <<< 13) ||| (((wd n).getD 1 0#64 + BitVec.ofNat 64 c + 0#64) >>> 51) = BitVec.ofNat 64 ((c + n) / 2251799813685248) := by
  rw [BitVec.add_zero, ← cy2_hi hn hc]; rfl
theorem invG_t {α : Type} {mul : α → α → α} {a : α} {n : Nat} (h : n = 251 ∨ n = 249) : invG mul a (n + 1) = mul (invG mul a n) (invG mul a n) := if_pos h
theorem invG_f {α : Type} {mul : α → α → α} {a : α} {n : Nat} (h : ¬ (n = 251 ∨ n = 249)) : invG mul a (n + 1) = mul (mul (invG mul a n) (invG mul a n)) a := if_neg h
theorem bnd_num : Bnd [121665#64, 0#64, 0#64, 0#64, 0#64] := (relC_lit (n := 121665) (by decide)).1
/-! what is shared -/
def clampS (s : List (BitVec 8)) : List (BitVec 8) := (s.set 0 (s.getD 0 0#8 &&& ~~~7#8)).set 31 ((s.set 0 (s.getD 0 0#8 &&& ~~~7#8)).getD 31 0#8 &&& 63#8 ||| 64#8)
theorem clampS_len (s : List (BitVec 8)) : (clampS s).length = s.length := by simp [clampS]
def uN (b : List (BitVec 8)) : Nat := leN b % 57896044618658097711785492504343953926634992332820282019728792003956564819968
def shX (s b : List (BitVec 8)) : List (BitVec 8) := packN (xN (leN (clampS s)) (uN b % pN))
theorem shX_len (s b : List (BitVec 8)) : (shX s b).length = 32 := packN_len _
theorem u_rel (b : List (BitVec 8)) : RelC (dgs (uN b) 5) (uN b % pN) := relC_dgs (Nat.mod_lt _ (by decide))
def ldB (s : S4 (List (BitVec 64))) : Prop := Bnd s.x2 ∧ Bnd s.z2 ∧ Bnd s.x3 ∧ Bnd s.z3
theorem lad_bnd (b : List (BitVec 8)) (k n : Nat) : ldB (ladC (dgs (uN b) 5) k n) := by
  have h := ladC_rel (u_rel b) k n
  exact ⟨h.1.1, h.2.1.1, h.2.2.1.1, h.2.2.2.1⟩
theorem swap_bnd {s : S4 (List (BitVec 64))} (b : Bool) (h : ldB s) : ldB (swapS b s) := by
  cases b
  · exact h
  · exact ⟨h.2.2.1, h.2.2.2, h.1, h.2.1⟩
theorem bit01 (K i : Nat) : BitVec.ofNat 8 (K / 2 ^ i % 2) = 0#8 ∨ BitVec.ofNat 8 (K / 2 ^ i % 2) = 1#8 := by
  have := Nat.mod_lt (K / 2 ^ i) (show 2 > 0 by decide)
  have h : K / 2 ^ i % 2 = 0 ∨ K / 2 ^ i % 2 = 1 := by omega
  rcases h with h | h <;> simp [h]
theorem selB_bit (K i : Nat) (a c : List (BitVec 64)) : selB (BitVec.ofNat 8 (K / 2 ^ i % 2)) a c = if K.testBit i then c else a := by
  unfold selB
  rw [Nat.testBit_eq_decide_div_mod_eq]
  have := Nat.mod_lt (K / 2 ^ i) (show 2 > 0 by decide)
  have h : K / 2 ^ i % 2 = 0 ∨ K / 2 ^ i % 2 = 1 := by omega
  rcases h with h | h <;> simp [h]
theorem swap_x2 (K i : Nat) (s : S4 (List (BitVec 64))) : selB (BitVec.ofNat 8 (K / 2 ^ i % 2)) s.x2 s.x3 = (swapS (K.testBit i) s).x2 := by
  rw [selB_bit]; unfold swapS; split <;> rfl
theorem swap_z2 (K i : Nat) (s : S4 (List (BitVec 64))) : selB (BitVec.ofNat 8 (K / 2 ^ i % 2)) s.z2 s.z3 = (swapS (K.testBit i) s).z2 := by
  rw [selB_bit]; unfold swapS; split <;> rfl
theorem swap_x3 (K i : Nat) (s : S4 (List (BitVec 64))) : selB (BitVec.ofNat 8 (K / 2 ^ i % 2)) s.x3 s.x2 = (swapS (K.testBit i) s).x3 := by
  rw [selB_bit]; unfold swapS; split <;> rfl
theorem swap_z3 (K i : Nat) (s : S4 (List (BitVec 64))) : selB (BitVec.ofNat 8 (K / 2 ^ i % 2)) s.z3 s.z2 = (swapS (K.testBit i) s).z3 := by
  rw [selB_bit]; unfold swapS; split <;> rfl
theorem ladC_succ (u : List (BitVec 64)) (K n : Nat) : ladC u K (n + 1) = swapS (K.testBit (254 - n)) (stepG addC subC mulC num5 u (swapS (K.testBit (254 - n)) (ladC u K n))) := rfl
theorem sh_end (s b : List (BitVec 8)) : packN (nv (mulC (ladC (dgs (uN b) 5) (leN (clampS s)) 255).x2 (invG mulC (ladC (dgs (uN b) 5) (leN (clampS s)) 255).z2 254))) = shX s b := by
  have h := outC_rel (u_rel b) (leN (clampS s))
  have e := h.2
  unfold shX packN
  rw [Nat.mod_eq_of_lt (xN_lt _ _)]
  rw [← e]
  rfl
theorem ladder_step_bnd {u : List (BitVec 64)} {s : S4 (List (BitVec 64))} (hu : Bnd u) (h : ldB s) : ldB (stepG addC subC mulC num5 u s) := by
  obtain ⟨h1, h2, h3, h4⟩ := h
  have H := step_rel homC (relC_lit (n := 121665) (by decide)) (x1 := u) ⟨hu, rfl⟩ (s := s) (t := ⟨_, _, _, _⟩) ⟨⟨h1, rfl⟩, ⟨h2, rfl⟩, ⟨h3, rfl⟩, ⟨h4, rfl⟩⟩
  exact ⟨H.1.1, H.2.1.1, H.2.2.1.1, H.2.2.2.1⟩

end Go.Proofs.Ytnhjmapapbhhpaa
