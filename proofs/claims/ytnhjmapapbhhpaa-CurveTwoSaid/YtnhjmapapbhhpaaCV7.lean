import Derived.Test.YtnhjmapapbhhpaaCV4
import Derived.Test.YtnhjmapapbhhpaaXT2
namespace Go.Proofs.Ytnhjmapapbhhpaa
set_option maxRecDepth 20000
set_option linter.unusedVariables false
set_option linter.unusedSimpArgs false
open Go.SE Go.RowKit
/-! the document's numbers: sixteen of 16 bits, with signs -/
def valZ : List Int → Int
  | [] => 0
  | x :: l => x + 65536 * valZ l
theorem valZ_app : ∀ (l m : List Int), valZ (l ++ m) = valZ l + 65536 ^ l.length * valZ m
  | [], m => by simp [valZ]
  | a :: l, m => by
    rw [List.cons_append, valZ, valZ, valZ_app l m, List.length_cons, Int.pow_succ, Int.mul_add, Int.mul_comm (65536 ^ l.length) 65536, Int.mul_assoc]
    omega
theorem valZ_set : ∀ (l : List Int) (i : Nat) (x : Int), i < l.length → valZ (l.set i x) = valZ l + (x - l.getD i 0) * 65536 ^ i
  | [], i, x, h => by simp at h
  | a :: l, 0, x, _ => by
    simp only [List.set_cons_zero, valZ, List.getD_cons_zero, Int.pow_zero, Int.mul_one]
    omega
  | a :: l, i + 1, x, h => by
    have ih := valZ_set l i x (by simpa using h)
    simp only [List.set_cons_succ, valZ, List.getD_cons_succ, ih, Int.pow_succ, Int.mul_add]
    rw [Int.mul_comm (65536 ^ i) 65536, ← Int.mul_assoc (x - l.getD i 0) 65536, Int.mul_comm (x - l.getD i 0) 65536, Int.mul_assoc]
    omega
def zsum (t : List Int) (i : Nat) : Int := valZ (t.take i)
theorem zsum_zero (t : List Int) : zsum t 0 = 0 := by simp [zsum, valZ]
theorem zsum_succ {t : List Int} {i : Nat} (h : i < t.length) : zsum t (i + 1) = zsum t i + t.getD i 0 * 65536 ^ i := by
  unfold zsum
  rw [List.take_succ_eq_append_getElem h, valZ_app, List.length_take, Nat.min_eq_left (by omega), Int.mul_comm]
  simp [valZ, List.getD_eq_getElem?_getD, h]
theorem zsum_all {t : List Int} : zsum t t.length = valZ t := by simp [zsum]
def zg (V : Int) (j : Nat) : Int := V / 65536 ^ j % 65536
theorem zpow_pos (j : Nat) : (0 : Int) < 65536 ^ j := Int.pow_pos (by decide)
theorem zpow_ne (j : Nat) : (65536 : Int) ^ j ≠ 0 := by have := zpow_pos j; omega
theorem zg_lt (V : Int) (j : Nat) : 0 ≤ zg V j ∧ zg V j < 65536 := ⟨Int.emod_nonneg _ (by decide), Int.emod_lt_of_pos _ (by decide)⟩
theorem zg_low {V x : Int} {i j : Nat} (h : j < i) : zg (V + x * 65536 ^ i) j = zg V j := by
  obtain ⟨k, rfl⟩ : ∃ k, i = j + (k + 1) := ⟨i - j - 1, by omega⟩
  have e : x * 65536 ^ (j + (k + 1)) = 65536 ^ j * (65536 * (x * 65536 ^ k)) := by
    rw [Int.pow_add, Int.pow_succ, Int.mul_comm (65536 ^ k) 65536, Int.mul_left_comm x, Int.mul_left_comm x]
  unfold zg
  rw [e, Int.add_mul_ediv_left _ _ (zpow_ne j), Int.add_mul_emod_self_left]
theorem zg_top (V x : Int) (i : Nat) : zg (V + x * 65536 ^ i) i = (V / 65536 ^ i + x) % 65536 := by
  unfold zg
  rw [Int.mul_comm, Int.add_mul_ediv_left _ _ (zpow_ne i)]
theorem zdiv_top (V x : Int) (i : Nat) : (V + x * 65536 ^ i) / 65536 ^ (i + 1) = (V / 65536 ^ i + x) / 65536 := by
  rw [Int.pow_succ, ← Int.ediv_ediv_of_nonneg (Int.le_of_lt (zpow_pos i)), Int.mul_comm x, Int.add_mul_ediv_left _ _ (zpow_ne i)]
def zgs (V : Int) (i : Nat) : List Int := (List.range i).map (zg V)
theorem zgs_len (V : Int) (i : Nat) : (zgs V i).length = i := by simp [zgs]
theorem zgs_succ (V x : Int) (i : Nat) : zgs (V + x * 65536 ^ i) (i + 1) = zgs V i ++ [(V / 65536 ^ i + x) % 65536] := by
  unfold zgs
  rw [List.range_succ, List.map_append, List.map_cons, List.map_nil, zg_top]
  congr 1
  refine List.map_congr_left fun j hj => ?_
  rw [zg_low (List.mem_range.1 hj)]
def zcy (t : List Int) (i : Nat) : Int := zsum t i / 65536 ^ i
theorem zcy_zero (t : List Int) : zcy t 0 = 0 := by simp [zcy, zsum_zero]
theorem zcy_succ {t : List Int} {i : Nat} (h : i < t.length) : zcy t (i + 1) = (zcy t i + t.getD i 0) / 65536 := by
  unfold zcy
  rw [zsum_succ h, zdiv_top]
/-- where a carry stands; what lies behind is r -/
def zst (t : List Int) (r : List Int) (i : Nat) : List Int := zgs (zsum t i) i ++ (t.getD i 0 + zcy t i) :: r
theorem zst_len {t r : List Int} {i : Nat} : (zst t r i).length = i + 1 + r.length := by simp [zst, zgs_len]; omega
theorem zst_at {t r : List Int} {i : Nat} : (zst t r i).getD i 0 = t.getD i 0 + zcy t i := by
  simp [zst, List.getD_eq_getElem?_getD, List.getElem?_append_right, zgs_len]
theorem zst_next {t r : List Int} {i : Nat} {y : Int} : (zst t (y :: r) i).getD (i + 1) 0 = y := by
  simp [zst, List.getD_eq_getElem?_getD, List.getElem?_append_right, zgs_len]
theorem zst_step {t r : List Int} {i : Nat} (h : i < t.length) {y : Int} {a b : Int} (ha : a = (t.getD i 0 + zcy t i) % 65536) (hb : b = t.getD (i + 1) 0 + (t.getD i 0 + zcy t i) / 65536) :
    ((zst t (y :: r) i).set i a).set (i + 1) b = zst t r (i + 1) := by
  unfold zst
  rw [List.set_append_right _ _ (by simp [zgs_len]), zgs_len, Nat.sub_self, List.set_cons_zero, List.set_append_right _ _ (by simp [zgs_len]), zgs_len, Nat.add_sub_cancel_left, List.set_cons_succ, List.set_cons_zero, zsum_succ h, zgs_succ, zcy_succ h, ha, hb, Int.add_comm (t.getD i 0) (zcy t i), List.append_assoc]
  rfl
def cR (V : Int) : List Int := (zgs V 16).set 0 (zg V 0 + 38 * (V / 115792089237316195423570985008687907853269984665640564039457584007913129639936))
theorem cR_len (V : Int) : (cR V).length = 16 := by simp [cR, zgs_len]
theorem zst_end {t : List Int} (h : t.length = 16) {a : Int} (ha : a = (t.getD 15 0 + zcy t 15) % 65536) {b : Int} (hb : b = zg (valZ t) 0 + 38 * ((t.getD 15 0 + zcy t 15) / 65536)) :
    ((zst t [] 15).set 15 a).set 0 b = cR (valZ t) := by
  have e : valZ t = zsum t 15 + t.getD 15 0 * 65536 ^ 15 := by
    rw [← zsum_succ (by omega), ← zsum_all, h]
  have e2 : (t.getD 15 0 + zcy t 15) / 65536 = valZ t / 115792089237316195423570985008687907853269984665640564039457584007913129639936 := by
    rw [Int.add_comm, ← zcy_succ (by omega)]
    show zsum t 16 / 65536 ^ 16 = _
    rw [show zsum t 16 = valZ t by rw [← h, zsum_all]]; rfl
  unfold zst cR
  rw [hb, e2, List.set_append_right _ _ (by simp [zgs_len]), zgs_len, Nat.sub_self, List.set_cons_zero, ha, Int.add_comm (t.getD 15 0) (zcy t 15)]
  rw [show zgs (valZ t) 16 = zgs (zsum t 15) 15 ++ [(zcy t 15 + t.getD 15 0) % 65536] by rw [e, zgs_succ]; rfl]
def cV (V : Int) : Int := V % 115792089237316195423570985008687907853269984665640564039457584007913129639936 + 38 * (V / 115792089237316195423570985008687907853269984665640564039457584007913129639936)
theorem zdigits (V : Int) (n : Nat) : valZ (zgs V n) = V % 65536 ^ n := by
  have key : ∀ n, valZ (zgs V n) + 65536 ^ n * (V / 65536 ^ n) = V := by
    intro n
    induction n with
    | zero => simp [zgs, valZ]
    | succ n ih =>
      have e : zgs V (n + 1) = zgs V n ++ [zg V n] := by
        unfold zgs; rw [List.range_succ, List.map_append]; rfl
      rw [e, valZ_app, zgs_len, valZ, valZ, Int.mul_zero, Int.add_zero, Int.pow_succ, ← Int.ediv_ediv_of_nonneg (Int.le_of_lt (zpow_pos n)), Int.mul_assoc, Int.add_assoc, ← Int.mul_add, zg, Int.emod_add_mul_ediv]
      exact ih
  have h := key n
  have d := Int.emod_add_mul_ediv V (65536 ^ n)
  omega
theorem valZ_cR (V : Int) : valZ (cR V) = cV V := by
  unfold cR cV
  rw [valZ_set _ _ _ (by simp [zgs_len]), zdigits]
  have : (zgs V 16).getD 0 0 = zg V 0 := rfl
  rw [this, Int.pow_zero, Int.mul_one]
  have : (65536 : Int) ^ 16 = 115792089237316195423570985008687907853269984665640564039457584007913129639936 := rfl
  omega
def pZ : Int := 57896044618658097711785492504343953926634992332820282019728792003956564819949
theorem pZ_eq : pZ = 57896044618658097711785492504343953926634992332820282019728792003956564819949 := rfl
theorem pZ_N : pZ = (pN : Int) := rfl
theorem cV_mod (V : Int) : cV V % pZ = V % pZ := by
  have d := Int.emod_add_mul_ediv V 115792089237316195423570985008687907853269984665640564039457584007913129639936
  have e : V = cV V + pZ * (2 * (V / 115792089237316195423570985008687907853269984665640564039457584007913129639936)) := by
    unfold cV; rw [pZ_eq]; omega
  conv => rhs; rw [e, Int.add_mul_emod_self_left]
/-- a bound of all places -/
def BZ (n : Int) (a : List Int) : Prop := ∀ y ∈ a, -n ≤ y ∧ y ≤ n
theorem BZ.get {n : Int} {a : List Int} (h : BZ n a) (h0 : 0 ≤ n) (i : Nat) : -n ≤ a.getD i 0 ∧ a.getD i 0 ≤ n := by
  rw [List.getD_eq_getElem?_getD]
  cases e : a[i]? with
  | none => simp; omega
  | some x => exact h x (List.mem_of_getElem? e)
theorem BZ.mono {n m : Int} {a : List Int} (h : BZ n a) (hm : n ≤ m) : BZ m a := fun y hy => by have := h y hy; omega
theorem zcy_bd {n : Int} {t : List Int} (h : BZ n t) (h0 : 0 ≤ n) : ∀ i, i ≤ t.length → -n - 1 ≤ zcy t i ∧ zcy t i ≤ n + 1
  | 0, _ => by rw [zcy_zero]; omega
  | i + 1, hi => by
    have := zcy_bd h h0 i (by omega)
    have := h.get h0 i
    rw [zcy_succ (by omega)]
    omega
theorem cR_bd {V : Int} {n : Int} (h : -n ≤ V / 115792089237316195423570985008687907853269984665640564039457584007913129639936 ∧ V / 115792089237316195423570985008687907853269984665640564039457584007913129639936 ≤ n) (h0 : 0 ≤ n) : BZ (65536 + 38 * n) (cR V) := by
  intro y hy
  unfold cR at hy
  rcases List.mem_or_eq_of_mem_set hy with h2 | rfl
  · obtain ⟨j, _, rfl⟩ := List.mem_map.1 h2
    have := zg_lt V j
    omega
  · have := zg_lt V 0
    omega
theorem valZ_bd {n : Int} (h0 : 0 ≤ n) : ∀ (a : List Int), BZ n a → n - n * 65536 ^ a.length ≤ valZ a * 65535 ∧ valZ a * 65535 ≤ n * 65536 ^ a.length - n
  | [], _ => by simp [valZ]
  | x :: a, h => by
    have ih := valZ_bd h0 a fun y hy => h y (by simp [hy])
    have := h x (by simp)
    have e : n * (65536 ^ a.length * 65536) = 65536 * (n * 65536 ^ a.length) := by rw [← Int.mul_assoc, Int.mul_comm]
    rw [List.length_cons, Int.pow_succ, valZ, e]
    omega
/-! add, sub, mul -/
def addR (a b : List Int) : List Int := List.zipWith (· + ·) a b
def subR (a b : List Int) : List Int := List.zipWith (· - ·) a b
theorem valZ_add : ∀ (a b : List Int), a.length = b.length → valZ (addR a b) = valZ a + valZ b
  | [], [], _ => rfl
  | x :: a, y :: b, h => by
    have := valZ_add a b (by simpa using h)
    simp only [addR, List.zipWith_cons_cons, valZ] at this ⊢
    omega
theorem valZ_sub : ∀ (a b : List Int), a.length = b.length → valZ (subR a b) = valZ a - valZ b
  | [], [], _ => rfl
  | x :: a, y :: b, h => by
    have := valZ_sub a b (by simpa using h)
    simp only [subR, List.zipWith_cons_cons, valZ] at this ⊢
    omega
theorem zip_bd {n m : Int} {f : Int → Int → Int} (hf : ∀ x y, -n ≤ x ∧ x ≤ n → -n ≤ y ∧ y ≤ n → -m ≤ f x y ∧ f x y ≤ m) : ∀ (a b : List Int), BZ n a → BZ n b → BZ m (List.zipWith f a b)
  | [], _, _, _ => by simp [BZ]
  | _ :: _, [], _, _ => by simp [BZ]
  | x :: a, y :: b, ha, hb => by
    have ih := zip_bd hf a b (fun y hy => ha y (by simp [hy])) (fun y hy => hb y (by simp [hy]))
    intro z hz
    rw [List.zipWith_cons_cons] at hz
    rcases List.mem_cons.1 hz with rfl | hz
    · exact hf _ _ (ha x (by simp)) (hb y (by simp))
    · exact ih z hz
def zR (a b : List Int) (i : Nat) (t : List Int) : Nat → List Int
  | 0 => t
  | j + 1 => (zR a b i t j).set (i + j) ((zR a b i t j).getD (i + j) 0 + a.getD i 0 * b.getD j 0)
def zT (a b : List Int) : Nat → List Int
  | 0 => List.replicate 31 0
  | i + 1 => zR a b i (zT a b i) 16
theorem zR_len (a b : List Int) (i : Nat) (t : List Int) : ∀ j, (zR a b i t j).length = t.length
  | 0 => rfl
  | j + 1 => by simp [zR, zR_len a b i t j]
theorem zT_len (a b : List Int) : ∀ i, (zT a b i).length = 31
  | 0 => by simp [zT]
  | i + 1 => by rw [zT, zR_len, zT_len a b i]
theorem zR_val {a b : List Int} {i : Nat} {t : List Int} (ht : t.length = 31) (hi : i < 16) (hb : b.length = 16) : ∀ j, j ≤ 16 → valZ (zR a b i t j) = valZ t + a.getD i 0 * 65536 ^ i * zsum b j
  | 0, _ => by simp [zR, zsum_zero]
  | j + 1, hj => by
    have ih := zR_val (a := a) ht hi hb j (by omega)
    rw [zR, valZ_set _ _ _ (by rw [zR_len]; omega), ih, zsum_succ (t := b) (i := j) (by omega), (by omega : ∀ X Y : Int, X + Y - X = Y), Int.pow_add]
    rw [Int.mul_add, Int.add_assoc]
    congr 2
    simp only [Int.mul_assoc, Int.mul_left_comm]
theorem zT_val {a b : List Int} (ha : a.length = 16) (hb : b.length = 16) : ∀ i, i ≤ 16 → valZ (zT a b i) = zsum a i * valZ b
  | 0, _ => by
    rw [zsum_zero, Int.zero_mul]; rfl
  | i + 1, hi => by
    rw [zT, zR_val (zT_len a b i) (by omega) hb 16 (by decide), zT_val ha hb i (by omega), zsum_succ (t := a) (i := i) (by omega), Int.add_mul, show zsum b 16 = valZ b by rw [← hb, zsum_all]]
theorem zmul_bd {x y : Int} (hx : -262144 ≤ x ∧ x ≤ 262144) (hy : -262144 ≤ y ∧ y ≤ 262144) : -68719476736 ≤ x * y ∧ x * y ≤ 68719476736 := by
  have h1 := Int.natAbs_mul x y
  have h2 : x.natAbs ≤ 262144 := by omega
  have h3 : y.natAbs ≤ 262144 := by omega
  have h4 : x.natAbs * y.natAbs ≤ 262144 * 262144 := Nat.mul_le_mul h2 h3
  omega
theorem BZ_set {n m : Int} {t : List Int} {k : Nat} {x : Int} (h : BZ n t) (h0 : 0 ≤ n) (hx : -m ≤ x ∧ x ≤ m) : BZ (n + m) (t.set k (t.getD k 0 + x)) := by
  intro y hy
  have g := h.get h0 k
  rcases List.mem_or_eq_of_mem_set hy with h2 | rfl
  · have := h y h2; omega
  · omega
theorem zR_bd {a b : List Int} (ha : BZ 262144 a) (hb : BZ 262144 b) {i : Nat} {t : List Int} {n : Int} (h0 : 0 ≤ n) (h : BZ n t) : ∀ j : Nat, BZ (n + j * 68719476736) (zR a b i t j)
  | 0 => by simpa [zR] using h
  | j + 1 => by
    have := BZ_set (k := i + j) (zR_bd (i := i) ha hb h0 h j) (by omega) (zmul_bd (ha.get (by decide) i) (hb.get (by decide) j))
    exact this.mono (by omega)
theorem zT_bd {a b : List Int} (ha : BZ 262144 a) (hb : BZ 262144 b) : ∀ i : Nat, BZ (i * 1099511627776) (zT a b i)
  | 0 => by
    intro y hy
    have := List.eq_of_mem_replicate hy
    omega
  | i + 1 => (zR_bd ha hb (by omega) (zT_bd ha hb i) 16).mono (by omega)
def foldZ (t : List Int) : List Int := List.zipWith (fun x y => x + 38 * y) (t.take 16) (t.drop 16 ++ [0])
theorem foldZ_len {t : List Int} (h : t.length = 31) : (foldZ t).length = 16 := by simp [foldZ, h]
theorem valZ_fold : ∀ (a b : List Int), a.length = b.length → valZ (List.zipWith (fun x y => x + 38 * y) a b) = valZ a + 38 * valZ b
  | [], [], _ => rfl
  | x :: a, y :: b, h => by
    have := valZ_fold a b (by simpa using h)
    simp only [List.zipWith_cons_cons, valZ] at this ⊢
    omega
theorem foldZ_mod {t : List Int} (h : t.length = 31) : valZ (foldZ t) % pZ = valZ t % pZ := by
  have e : valZ (foldZ t) = valZ (t.take 16) + 38 * valZ (t.drop 16) := by
    rw [foldZ, valZ_fold _ _ (by simp [h]), valZ_app]
    simp [valZ]
  have e2 : valZ t = valZ (t.take 16) + 115792089237316195423570985008687907853269984665640564039457584007913129639936 * valZ (t.drop 16) := by
    conv => lhs; rw [← List.take_append_drop 16 t, valZ_app]
    rw [List.length_take, h]; rfl
  have e3 : valZ t = valZ (foldZ t) + pZ * (2 * valZ (t.drop 16)) := by rw [e, e2, pZ_eq]; omega
  rw [e3, Int.add_mul_emod_self_left]
def mulR (a b : List Int) : List Int := cR (valZ (cR (valZ (foldZ (zT a b 16)))))
theorem foldZ_bd {a b : List Int} (ha : BZ 262144 a) (hb : BZ 262144 b) : BZ 686095255732224 (foldZ (zT a b 16)) := by
  have h : BZ 17592186044416 (zT a b 16) := (zT_bd ha hb 16).mono (by decide)
  refine zip_bd (n := 17592186044416) (fun x y hx hy => by omega) _ _ (fun y hy => h y (List.mem_of_mem_take hy)) fun y hy => ?_
  rcases List.mem_append.1 hy with h2 | h2
  · exact h y (List.mem_of_mem_drop h2)
  · simp at h2; subst h2; decide
theorem mulR_q {a b : List Int} (ha : BZ 262144 a) (hb : BZ 262144 b) : -1 ≤ valZ (cR (valZ (foldZ (zT a b 16)))) / 115792089237316195423570985008687907853269984665640564039457584007913129639936 ∧ valZ (cR (valZ (foldZ (zT a b 16)))) / 115792089237316195423570985008687907853269984665640564039457584007913129639936 ≤ 1 := by
  have l : (foldZ (zT a b 16)).length = 16 := foldZ_len (zT_len a b 16)
  have b1 := valZ_bd (by decide) _ (foldZ_bd ha hb)
  rw [l, show (65536 : Int) ^ 16 = 115792089237316195423570985008687907853269984665640564039457584007913129639936 from rfl] at b1
  rw [valZ_cR]
  unfold cV
  have d := Int.emod_add_mul_ediv (valZ (foldZ (zT a b 16))) 115792089237316195423570985008687907853269984665640564039457584007913129639936
  omega
/-- the document's numbers and what they stand for; with room for one sum more -/
def RelR (a : List Int) (x : Nat) : Prop := a.length = 16 ∧ BZ 131072 a ∧ valZ a % pZ = (x : Int)
def RelR' (a : List Int) (x : Nat) : Prop := a.length = 16 ∧ BZ 262144 a ∧ valZ a % pZ = (x : Int)
theorem RelR.up {a : List Int} {x : Nat} (h : RelR a x) : RelR' a x := ⟨h.1, h.2.1.mono (by decide), h.2.2⟩
theorem addR_len {a b : List Int} (ha : a.length = 16) (hb : b.length = 16) : (addR a b).length = 16 := by simp [addR, ha, hb]
theorem subR_len {a b : List Int} (ha : a.length = 16) (hb : b.length = 16) : (subR a b).length = 16 := by simp [subR, ha, hb]
theorem mulR_len (a b : List Int) : (mulR a b).length = 16 := cR_len _
theorem relR_add {a b : List Int} {x y : Nat} (h : RelR a x) (g : RelR b y) : RelR' (addR a b) (fadd x y) := by
  obtain ⟨h1, h2, h3⟩ := h; obtain ⟨g1, g2, g3⟩ := g
  refine ⟨addR_len h1 g1, zip_bd (n := 131072) (fun x y hx hy => by omega) _ _ h2 g2, ?_⟩
  rw [valZ_add _ _ (by rw [h1, g1]), Int.add_emod, h3, g3, fadd, pZ_N]; simp
theorem relR_sub {a b : List Int} {x y : Nat} (h : RelR a x) (g : RelR b y) : RelR' (subR a b) (fsub x y) := by
  obtain ⟨h1, h2, h3⟩ := h; obtain ⟨g1, g2, g3⟩ := g
  refine ⟨subR_len h1 g1, zip_bd (n := 131072) (fun x y hx hy => by omega) _ _ h2 g2, ?_⟩
  have hy : y < pN := by have := Int.emod_lt_of_pos (valZ b) (show 0 < pZ by decide); rw [g3, pZ_N] at this; omega
  rw [valZ_sub _ _ (by rw [h1, g1]), Int.sub_emod, h3, g3, fsub, pZ_N]
  rw [show ((x : Int) - (y : Int)) = ((x + (pN - y) : Nat) : Int) + (pN : Int) * (-1) by omega, Int.add_mul_emod_self_left]
  rfl
theorem relR_mul {a b : List Int} {x y : Nat} (h : RelR' a x) (g : RelR' b y) : RelR (mulR a b) (fmul x y) := by
  obtain ⟨h1, h2, h3⟩ := h; obtain ⟨g1, g2, g3⟩ := g
  refine ⟨mulR_len a b, (cR_bd (n := 1) (mulR_q h2 g2) (by decide)).mono (by decide), ?_⟩
  rw [mulR, valZ_cR, cV_mod, valZ_cR, cV_mod, foldZ_mod (zT_len a b 16), zT_val h1 g1 16 (by decide), show zsum a 16 = valZ a by rw [← h1, zsum_all], Int.mul_emod, h3, g3, fmul, pZ_N]
  simp
/-! the document's code: where its loops stand -/
def cSt (a : List Int) (i : Nat) : List Int := if i < 16 then zst a (a.drop (i + 1)) i else cR (valZ a)
theorem cSt_lt {a : List Int} {i : Nat} (h : i < 16) : cSt a i = zst a (a.drop (i + 1)) i := if_pos h
theorem cSt_all (a : List Int) : cSt a 16 = cR (valZ a) := rfl
theorem getD_cons {a : List Int} {i : Nat} (h : i < a.length) : a.drop i = a.getD i 0 :: a.drop (i + 1) := by
  rw [List.drop_eq_getElem_cons h, List.getD_eq_getElem?_getD, List.getElem?_eq_getElem h]; rfl
theorem cSt_zero {a : List Int} (h : a.length = 16) : cSt a 0 = a := by
  rw [cSt_lt (by decide), zst, zcy_zero, zsum_zero, Int.add_zero, ← getD_cons (by omega)]
  rfl
theorem cSt_len {a : List Int} {i : Nat} (h : a.length = 16) (hi : i ≤ 16) : (cSt a i).length = 16 := by
  by_cases e : i < 16
  · rw [cSt_lt e, zst_len, List.length_drop]; omega
  · obtain rfl : i = 16 := by omega
    exact cR_len _
theorem cSt_at {a : List Int} {i : Nat} (hi : i < 16) : (cSt a i).getD i 0 = a.getD i 0 + zcy a i := by rw [cSt_lt hi, zst_at]
theorem set_get {l : List Int} {i : Nat} {u : Int} (h : i < l.length) : (l.set i u).getD i 0 = u := by
  rw [List.getD_eq_getElem?_getD, List.getElem?_set_self h]; rfl
theorem set_get_ne {l : List Int} {i j : Nat} {u : Int} (h : i ≠ j) : (l.set i u).getD j 0 = l.getD j 0 := by
  rw [List.getD_eq_getElem?_getD, List.getElem?_set_ne h, List.getD_eq_getElem?_getD]
theorem cSt_at1 {a : List Int} {i : Nat} {u : Int} (h : a.length = 16) (hi : i < 16) : ((cSt a i).set i u).getD i 0 = u := set_get (by rw [cSt_len h (by omega)]; exact hi)
theorem cSt_next {a : List Int} {i : Nat} {u v : Int} (h : a.length = 16) (hi : i < 15) : (((cSt a i).set i u).set i v).getD (i + 1) 0 = a.getD (i + 1) 0 := by
  rw [set_get_ne (by omega), set_get_ne (by omega), cSt_lt (by omega), getD_cons (by omega), zst_next]
theorem cSt_step {a : List Int} {i : Nat} {u : Int} (h : a.length = 16) (hi : i < 15) : (((cSt a i).set i u).set i ((a.getD i 0 + zcy a i) % 65536)).set (i + 1) (a.getD (i + 1) 0 + (a.getD i 0 + zcy a i) / 65536) = cSt a (i + 1) := by
  rw [List.set_set, cSt_lt (by omega), cSt_lt (by omega), getD_cons (i := i + 1) (by omega), zst_step (by omega) rfl rfl]
theorem cSt_low {a : List Int} {u v : Int} (h : a.length = 16) : (((cSt a 15).set 15 u).set 15 v).getD 0 0 = zg (valZ a) 0 := by
  rw [set_get_ne (by decide), set_get_ne (by decide), cSt_lt (by decide), zst]
  have e : valZ a = zsum a 15 + a.getD 15 0 * 65536 ^ 15 := by rw [← zsum_succ (by omega), ← zsum_all, h]
  rw [e, zg_low (by decide)]
  rfl
theorem cSt_end {a : List Int} {u : Int} (h : a.length = 16) : (((cSt a 15).set 15 u).set 15 ((a.getD 15 0 + zcy a 15) % 65536)).set 0 (zg (valZ a) 0 + 38 * ((a.getD 15 0 + zcy a 15) / 65536)) = cSt a 16 := by
  rw [List.set_set, cSt_lt (by decide), cSt_all, List.drop_eq_nil_of_le (by omega), zst_end h rfl rfl]
/-! place by place -/
def zwI (f : Int → Int → Int) (a b : List Int) (i : Nat) : List Int := (List.zipWith f a b).take i ++ a.drop i
section
variable {f : Int → Int → Int} {a b : List Int} {i : Nat}
theorem zwI_zero : zwI f a b 0 = a := by simp [zwI]
theorem zwI_len (ha : a.length = 16) (hb : b.length = 16) (hi : i ≤ 16) : (zwI f a b i).length = 16 := by simp [zwI, ha, hb]; omega
theorem zwI_at (ha : a.length = 16) (hb : b.length = 16) (hi : i < 16) : (zwI f a b i).getD i 0 = a.getD i 0 := by
  rw [zwI, getD_cons (by omega), List.getD_eq_getElem?_getD, List.getElem?_append_right (by simp [ha, hb]; omega)]
  simp [ha, hb, show min i 16 = i by omega]
theorem zwI_step (ha : a.length = 16) (hb : b.length = 16) (hi : i < 16) : (zwI f a b i).set i (f (a.getD i 0) (b.getD i 0)) = zwI f a b (i + 1) := by
  have hl : (List.zipWith f a b).length = 16 := by simp [ha, hb]
  have e : (List.zipWith f a b)[i]'(by omega) = f (a.getD i 0) (b.getD i 0) := by
    rw [List.getElem_zipWith, List.getD_eq_getElem?_getD, List.getElem?_eq_getElem (by omega), List.getD_eq_getElem?_getD, List.getElem?_eq_getElem (by omega)]; rfl
  rw [zwI, zwI, getD_cons (i := i) (by omega), List.set_append_right _ _ (by simp [ha, hb]; omega), List.length_take, hl, Nat.min_eq_left (by omega), Nat.sub_self, List.set_cons_zero, List.take_succ_eq_append_getElem (by omega), e, List.append_assoc]
  rfl
theorem zwI_all (ha : a.length = 16) (hb : b.length = 16) : zwI f a b 16 = List.zipWith f a b := by
  rw [zwI, List.take_of_length_le (by simp [ha, hb]), List.drop_eq_nil_of_le (by omega), List.append_nil]
end
/-! products -/
theorem foldZ_get {T : List Int} {i : Nat} (hT : T.length = 31) (hi : i < 16) : (foldZ T).getD i 0 = T.getD i 0 + 38 * T.getD (i + 16) 0 := by
  have hl := foldZ_len hT
  rw [List.getD_eq_getElem?_getD, List.getElem?_eq_getElem (by omega)]
  show (foldZ T)[i]'(by omega) = _
  unfold foldZ
  rw [List.getElem_zipWith, List.getElem_take, List.getD_eq_getElem?_getD, List.getElem?_eq_getElem (by omega)]
  have e : (T.drop 16 ++ [(0 : Int)])[i]'(by simp [hT]; omega) = T.getD (i + 16) 0 := by
    by_cases h : i < 15
    · rw [List.getElem_append_left (by simp [hT]; omega), List.getElem_drop, List.getD_eq_getElem?_getD, List.getElem?_eq_getElem (by omega)]
      simp [Nat.add_comm]
    · obtain rfl : i = 15 := by omega
      rw [List.getElem_append_right (by simp [hT]), List.getD_eq_getElem?_getD, List.getElem?_eq_none (by omega)]
      simp [hT]
  rw [e]; rfl
def fI (T : List Int) (i : Nat) : List Int := (foldZ T).take i ++ List.replicate (16 - i) 0
theorem fI_zero (T : List Int) : fI T 0 = List.replicate 16 0 := by simp [fI]
theorem fI_len {T : List Int} {i : Nat} (hT : T.length = 31) (hi : i ≤ 16) : (fI T i).length = 16 := by simp [fI, foldZ_len hT]; omega
theorem fI_set {T : List Int} {i : Nat} (hT : T.length = 31) (hi : i < 16) {x : Int} (hx : x = T.getD i 0 + 38 * T.getD (i + 16) 0) : (fI T i).set i x = fI T (i + 1) := by
  have hl := foldZ_len hT
  obtain ⟨k, hk⟩ : ∃ k, 16 - i = k + 1 := ⟨15 - i, by omega⟩
  have hg : (foldZ T)[i]'(by omega) = x := by
    rw [hx, ← foldZ_get hT hi, List.getD_eq_getElem?_getD, List.getElem?_eq_getElem (by omega)]; rfl
  rw [fI, fI, hk, List.replicate_succ, List.set_append_right _ _ (by simp [hl]; omega), List.length_take, hl, Nat.min_eq_left (by omega), Nat.sub_self, List.set_cons_zero, List.take_succ_eq_append_getElem (by omega), hg, List.append_assoc, show 16 - (i + 1) = k by omega]
  rfl
theorem fI_step {T : List Int} {i : Nat} (hT : T.length = 31) (hi : i < 15) : ((fI T i).set i (T.getD i 0)).set i (T.getD i 0 + 38 * T.getD (i + 16) 0) = fI T (i + 1) := by
  rw [List.set_set, fI_set hT (by omega) rfl]
theorem fI_last {T : List Int} (hT : T.length = 31) : (fI T 15).set 15 (T.getD 15 0) = fI T 16 := by
  refine fI_set hT (by decide) ?_
  have : T.getD (15 + 16) 0 = 0 := by rw [List.getD_eq_getElem?_getD, List.getElem?_eq_none (by omega)]; rfl
  rw [this]; omega
theorem fI_all {T : List Int} (hT : T.length = 31) : fI T 16 = foldZ T := by
  rw [fI, List.take_of_length_le (by rw [foldZ_len hT]; exact Nat.le_refl _)]; simp
theorem zT_succ (a b : List Int) (i : Nat) : zT a b (i + 1) = zR a b i (zT a b i) 16 := rfl
theorem zR_zero (a b : List Int) (i : Nat) (t : List Int) : zR a b i t 0 = t := rfl
theorem zR_succ (a b : List Int) (i : Nat) (t : List Int) (j : Nat) : zR a b i t (j + 1) = (zR a b i t j).set (i + j) ((zR a b i t j).getD (i + j) 0 + a.getD i 0 * b.getD j 0) := rfl
theorem P_shr_c {P : Program} {fr : Fr} {o : Oper} {t ty : TypeId} {x y : Operand} {k' : IntKind} {a b c : Int} (ho : o.op = .binOp .shr t x y ty) (hx : fr.ev x = some (.int .i64 a)) (hy : fr.ev y = some (.int k' b)) (hb : 0 ≤ b) (hb' : b ≤ 64) (hc : (2 : Int) ^ b.toNat = c) : PStep P fr o (.int .i64 (a / c)) := by
  subst hc
  exact P_shr_i ho hx hy hb hb'
theorem P_and_c {P : Program} {fr : Fr} {o : Oper} {t ty : TypeId} {x y : Operand} {a b c : Int} (m : Nat) (hm : m ≤ 62) (hb : b = ((2 ^ m - 1 : Nat) : Int)) (hc : ((2 ^ m : Nat) : Int) = c) (ho : o.op = .binOp .and t x y ty) (hx : fr.ev x = some (.int .i64 a)) (hy : fr.ev y = some (.int .i64 b)) : PStep P fr o (.int .i64 (a % c)) := by
  subst hc
  exact P_and_mask m hm hb ho hx hy
theorem zT_zero (a b : List Int) : zT a b 0 = List.replicate 31 0 := rfl
theorem mulR_eq (a b : List Int) : cR (valZ (cR (valZ (foldZ (zT a b 16))))) = mulR a b := rfl
/-! bounds -/
theorem bz_up {a : List Int} (h : BZ 131072 a) : BZ 262144 a := h.mono (by decide)
theorem bz_add {a b : List Int} (ha : BZ 131072 a) (hb : BZ 131072 b) : BZ 262144 (addR a b) := zip_bd (n := 131072) (fun x y hx hy => by omega) _ _ ha hb
theorem bz_sub {a b : List Int} (ha : BZ 131072 a) (hb : BZ 131072 b) : BZ 262144 (subR a b) := zip_bd (n := 131072) (fun x y hx hy => by omega) _ _ ha hb
theorem bz_mul {a b : List Int} (ha : BZ 262144 a) (hb : BZ 262144 b) : BZ 131072 (mulR a b) := (cR_bd (n := 1) (mulR_q ha hb) (by decide)).mono (by decide)
def numR : List Int := [56129, 1, 0, 0, 0, 0, 0, 0, 0, 0, 0, 0, 0, 0, 0, 0]
def oneR : List Int := [1, 0, 0, 0, 0, 0, 0, 0, 0, 0, 0, 0, 0, 0, 0, 0]
def zeroR : List Int := List.replicate 16 0
theorem bz_num : BZ 131072 numR := by unfold BZ numR; decide
theorem bz_one : BZ 131072 oneR := by unfold BZ oneR; decide
theorem bz_zero : BZ 131072 zeroR := by unfold BZ zeroR; decide
theorem homR : Hom addR subR mulR RelR RelR' := ⟨fun _ _ _ _ => relR_add, fun _ _ _ _ => relR_sub, fun _ _ _ _ => relR_mul, fun _ _ => RelR.up⟩
theorem relR_num : RelR numR 121665 := ⟨rfl, bz_num, by decide⟩
theorem relR_one : RelR oneR 1 := ⟨rfl, bz_one, by decide⟩
theorem relR_zero : RelR zeroR 0 := ⟨rfl, bz_zero, by decide⟩
def ladR (u : List Int) (k n : Nat) : S4 (List Int) := ladG addR subR mulR numR oneR zeroR u k n
theorem ladR_zero (u : List Int) (k : Nat) : ladR u k 0 = ⟨oneR, zeroR, u, oneR⟩ := rfl
theorem ladR_succ (u : List Int) (k n : Nat) : ladR u k (n + 1) = swapS (k.testBit (254 - n)) (stepG addR subR mulR numR u (swapS (k.testBit (254 - n)) (ladR u k n))) := rfl
theorem ladR_rel {u : List Int} {x : Nat} (h : RelR u x) (k n : Nat) : Rel4 RelR (ladR u k n) (ladG fadd fsub fmul 121665 1 0 x k n) := lad_rel homR relR_num relR_one relR_zero h n
def BB4 (s : S4 (List Int)) : Prop := (s.x2.length = 16 ∧ BZ 131072 s.x2) ∧ (s.z2.length = 16 ∧ BZ 131072 s.z2) ∧ (s.x3.length = 16 ∧ BZ 131072 s.x3) ∧ (s.z3.length = 16 ∧ BZ 131072 s.z3)
theorem ladR_bnd {u : List Int} {x : Nat} (h : RelR u x) (k n : Nat) : BB4 (ladR u k n) := by
  obtain ⟨a, b, c, d⟩ := ladR_rel h k n
  exact ⟨⟨a.1, a.2.1⟩, ⟨b.1, b.2.1⟩, ⟨c.1, c.2.1⟩, ⟨d.1, d.2.1⟩⟩
theorem swapR_bnd {s : S4 (List Int)} (b : Bool) (h : BB4 s) : BB4 (swapS b s) := by
  cases b
  · exact h
  · exact ⟨h.2.2.1, h.2.2.2, h.1, h.2.1⟩
theorem stepR_bnd {u : List Int} {s : S4 (List Int)} (hu : BZ 131072 u) (h : BB4 s) : BB4 (stepG addR subR mulR numR u s) := by
  obtain ⟨⟨a, a'⟩, ⟨b, b'⟩, ⟨c, c'⟩, ⟨d, d'⟩⟩ := h
  have A := bz_add a' b'; have B := bz_sub a' b'; have C := bz_add c' d'; have D := bz_sub c' d'
  have DA := bz_mul D A; have CB := bz_mul C B; have AA := bz_mul A A; have BB := bz_mul B B
  have E := bz_sub AA BB; have S := bz_add DA CB; have T := bz_sub DA CB
  exact ⟨⟨mulR_len _ _, bz_mul (bz_up AA) (bz_up BB)⟩, ⟨mulR_len _ _, bz_mul E (bz_add AA (bz_mul (bz_up bz_num) E))⟩, ⟨mulR_len _ _, bz_mul S S⟩, ⟨mulR_len _ _, bz_mul (bz_up hu) (bz_up (bz_mul T T))⟩⟩
/-! bytes to numbers -/
def unR0 (b : List (BitVec 8)) : List Int := (List.range 16).map fun i => ((b.getD (2 * i) 0#8).toNat : Int) + ((b.getD (2 * i + 1) 0#8).toNat : Int) * 256
theorem unR0_len (b : List (BitVec 8)) : (unR0 b).length = 16 := by simp [unR0]
theorem unR0_get {b : List (BitVec 8)} {i : Nat} (hi : i < 16) : (unR0 b)[i]'(by rw [unR0_len]; exact hi) = ((b.getD (2 * i) 0#8).toNat : Int) + ((b.getD (2 * i + 1) 0#8).toNat : Int) * 256 := by simp [unR0]
def unI (b : List (BitVec 8)) (i : Nat) : List Int := (unR0 b).take i ++ List.replicate (16 - i) 0
theorem unI_zero (b : List (BitVec 8)) : unI b 0 = List.replicate 16 0 := by simp [unI]
theorem unI_len (b : List (BitVec 8)) {i : Nat} (hi : i ≤ 16) : (unI b i).length = 16 := by simp [unI, unR0_len]; omega
theorem unI_step {b : List (BitVec 8)} {i : Nat} (hi : i < 16) : (unI b i).set i (((b.getD (2 * i) 0#8).toNat : Int) + ((b.getD (2 * i + 1) 0#8).toNat : Int) * 256) = unI b (i + 1) := by
  obtain ⟨k, hk⟩ : ∃ k, 16 - i = k + 1 := ⟨15 - i, by omega⟩
  rw [unI, unI, hk, List.replicate_succ, List.set_append_right _ _ (by simp [unR0_len]; omega), List.length_take, unR0_len, Nat.min_eq_left (by omega), Nat.sub_self, List.set_cons_zero, List.take_succ_eq_append_getElem (by rw [unR0_len]; exact hi), unR0_get hi, List.append_assoc, show 16 - (i + 1) = k by omega]
  rfl
theorem unI_all (b : List (BitVec 8)) : unI b 16 = unR0 b := by
  rw [unI, List.take_of_length_le (by rw [unR0_len]; exact Nat.le_refl _)]; simp
def unR (b : List (BitVec 8)) : List Int := (unR0 b).set 15 ((unR0 b).getD 15 0 % 32768)
theorem unI_end (b : List (BitVec 8)) : (unI b 16).set 15 ((unI b 16).getD 15 0 % 32768) = unR b := by rw [unI_all]; rfl
theorem unR_len (b : List (BitVec 8)) : (unR b).length = 16 := by simp [unR, unR0_len]
theorem unR0_15 (b : List (BitVec 8)) : 0 ≤ (unR0 b).getD 15 0 ∧ (unR0 b).getD 15 0 < 65536 := by
  have e : (unR0 b).getD 15 0 = ((b.getD 30 0#8).toNat : Int) + ((b.getD 31 0#8).toNat : Int) * 256 := rfl
  have := (b.getD 30 0#8).isLt; have := (b.getD 31 0#8).isLt
  omega
theorem list_cons {α : Type} {l : List α} {n : Nat} (h : l.length = n + 1) : ∃ x t, l = x :: t ∧ t.length = n := by
  cases l with
  | nil => simp at h
  | cons x t => exact ⟨x, t, rfl, by simpa using h⟩
theorem unR0_val : ∀ (n : Nat) (b : List (BitVec 8)), b.length = 2 * n → valZ ((List.range n).map fun i => ((b.getD (2 * i) 0#8).toNat : Int) + ((b.getD (2 * i + 1) 0#8).toNat : Int) * 256) = (leN b : Int)
  | 0, b, h => by
    obtain rfl := List.eq_nil_of_length_eq_zero h
    rfl
  | n + 1, b, h => by
    obtain ⟨x, t, rfl, ht⟩ := list_cons (n := 2 * n + 1) (by omega)
    obtain ⟨y, l, rfl, hl⟩ := list_cons (n := 2 * n) ht
    have ih := unR0_val n l hl
    rw [List.range_succ_eq_map, List.map_cons, valZ, List.map_map]
    have e : (fun i => (((x :: y :: l).getD (2 * i) 0#8).toNat : Int) + (((x :: y :: l).getD (2 * i + 1) 0#8).toNat : Int) * 256) ∘ Nat.succ = fun i => ((l.getD (2 * i) 0#8).toNat : Int) + ((l.getD (2 * i + 1) 0#8).toNat : Int) * 256 := by
      funext i
      simp only [Function.comp_apply, show 2 * i.succ = 2 * i + 1 + 1 by omega, List.getD_cons_succ]
    rw [e, ih, leN, leN]
    simp only [Nat.mul_zero, Nat.zero_add, List.getD_cons_zero, List.getD_cons_succ]
    omega
theorem unR_rel {b : List (BitVec 8)} (hb : b.length = 32) : RelR (unR b) (uN b % pN) := by
  have hv := unR0_val 16 b hb
  have hv : valZ (unR0 b) = (leN b : Int) := hv
  have h15 := unR0_15 b
  refine ⟨unR_len b, ?_, ?_⟩
  · intro y hy
    unfold unR at hy
    rcases List.mem_or_eq_of_mem_set hy with h2 | rfl
    · obtain ⟨j, _, rfl⟩ := List.mem_map.1 h2
      have := (b.getD (2 * j) 0#8).isLt; have := (b.getD (2 * j + 1) 0#8).isLt
      omega
    · omega
  · have e : valZ (unR b) = ((leN b % 57896044618658097711785492504343953926634992332820282019728792003956564819968 : Nat) : Int) := by
      have s : valZ (unR0 b) = zsum (unR0 b) 15 + (unR0 b).getD 15 0 * 65536 ^ 15 := by
        rw [← zsum_succ (by rw [unR0_len]; decide), ← zsum_all, unR0_len]
      have z0 : 0 ≤ zsum (unR0 b) 15 ∧ zsum (unR0 b) 15 < 65536 ^ 15 := by
        have p : ((65536 : Int) ^ 15) = ((256 ^ 30 : Nat) : Int) := rfl
        have l := leN_lt (b.take 30)
        have hl : (b.take 30).length = 30 := by simp [hb]
        rw [hl] at l
        have hz : zsum (unR0 b) 15 = (leN (b.take 30) : Int) := by
          rw [← unR0_val 15 (b.take 30) (by rw [hl]), zsum, unR0, ← List.map_take, List.take_range]
          congr 1
          refine List.map_congr_left fun j hj => ?_
          have hj : j < 15 := by simpa using hj
          have g : ∀ k, k < 30 → (b.take 30).getD k 0#8 = b.getD k 0#8 := by
            intro k hk
            simp [List.getD_eq_getElem?_getD, List.getElem?_take, hk]
          rw [g _ (by omega), g _ (by omega)]
        rw [hz, p]
        omega
      rw [unR, valZ_set _ _ _ (by rw [unR0_len]; decide), hv]
      rw [hv] at s
      have p : (65536 : Int) ^ 15 = 1766847064778384329583297500742918515827483896875618958121606201292619776 := rfl
      rw [p] at *
      generalize (unR0 b).getD 15 0 = x at *
      generalize zsum (unR0 b) 15 = z at *
      omega
    rw [e, uN, pZ_N]
    rfl
/-! the least number's bytes -/
def pD : List Int := [65517, 65535, 65535, 65535, 65535, 65535, 65535, 65535, 65535, 65535, 65535, 65535, 65535, 65535, 65535, 32767]
theorem pD_val : valZ pD = pZ := by decide +kernel
def uP (t : List Int) : List Int := subR t pD
theorem uP_len {t : List Int} (h : t.length = 16) : (uP t).length = 16 := subR_len h rfl
theorem uP_get {t : List Int} (h : t.length = 16) {i : Nat} (hi : i < 16) : (uP t).getD i 0 = t.getD i 0 - pD.getD i 0 := by
  have hp : pD.length = 16 := rfl
  rw [uP, subR, List.getD_eq_getElem?_getD, List.getElem?_eq_getElem (by simp [h, hp]; omega)]
  show (List.zipWith _ t pD)[i]'_ = _
  rw [List.getElem_zipWith, List.getD_eq_getElem?_getD, List.getElem?_eq_getElem (by omega), List.getD_eq_getElem?_getD, List.getElem?_eq_getElem (by omega)]
  rfl
theorem uP_val {t : List Int} (h : t.length = 16) : valZ (uP t) = valZ t - pZ := by rw [uP, valZ_sub _ _ (by rw [h]; rfl), pD_val]
theorem pD_mid : ∀ i, 1 ≤ i → i < 15 → pD.getD i 0 = 65535 := by
  intro i h1 h2
  match i, h1, h2 with
  | 1, _, _ | 2, _, _ | 3, _, _ | 4, _, _ | 5, _, _ | 6, _, _ | 7, _, _ | 8, _, _ | 9, _, _ | 10, _, _ | 11, _, _ | 12, _, _ | 13, _, _ | 14, _, _ => rfl
theorem pD_bd : ∀ i, i < 16 → 0 ≤ pD.getD i 0 ∧ pD.getD i 0 ≤ 65535 := by decide
/-- digits -/
def DZ (t : List Int) : Prop := t.length = 16 ∧ ∀ i, i < 16 → 0 ≤ t.getD i 0 ∧ t.getD i 0 ≤ 65535
theorem zgs_get {V : Int} {n i : Nat} (h : i < n) : (zgs V n).getD i 0 = zg V i := by simp [zgs, List.getD_eq_getElem?_getD, h]
theorem dz_zgs (V : Int) : DZ (zgs V 16) := ⟨zgs_len V 16, fun i hi => by rw [zgs_get hi]; have := zg_lt V i; omega⟩
theorem uP_br {t : List Int} (h : DZ t) : ∀ i, i ≤ 16 → -1 ≤ zcy (uP t) i ∧ zcy (uP t) i ≤ 0
  | 0, _ => by rw [zcy_zero]; omega
  | i + 1, hi => by
    have ih := uP_br h i (by omega)
    have a := h.2 i (by omega)
    have b := pD_bd i (by omega)
    rw [zcy_succ (by rw [uP_len h.1]; omega), uP_get h.1 (by omega)]
    omega
/-- the place's number, with what was taken -/
def uX (t : List Int) (i : Nat) : Int := (uP t).getD i 0 + zcy (uP t) i
theorem uX_bd {t : List Int} (h : DZ t) {i : Nat} (hi : i < 16) : -65536 ≤ uX t i ∧ uX t i ≤ 65535 := by
  have := uP_br h i (by omega); have := h.2 i hi; have := pD_bd i hi
  rw [uX, uP_get h.1 hi]; omega
theorem uX_next {t : List Int} (h : DZ t) {i : Nat} (hi : i + 1 < 16) : uX t (i + 1) = t.getD (i + 1) 0 - pD.getD (i + 1) 0 - uX t i / 65536 % 2 := by
  have a := uX_bd h (i := i) (by omega)
  have e : zcy (uP t) (i + 1) = uX t i / 65536 := by rw [zcy_succ (by rw [uP_len h.1]; omega), uX, Int.add_comm]
  rw [uX, uP_get h.1 (by omega), e]
  omega
def pSt (t : List Int) (i : Nat) : List Int := zst (uP t) (List.replicate (16 - i) 0) (i - 1)
theorem pSt_len {t : List Int} {i : Nat} (h1 : 1 ≤ i) (h2 : i ≤ 16) : (pSt t i).length = 16 := by rw [pSt, zst_len, List.length_replicate]; omega
theorem pSt_one {t : List Int} (h : DZ t) : (List.replicate 16 (0 : Int)).set 0 (t.getD 0 0 - 65517) = pSt t 1 := by
  have e : t.getD 0 0 - 65517 = (uP t).getD 0 0 := by rw [uP_get h.1 (by decide)]; rfl
  rw [e, pSt, zst, zcy_zero, Int.add_zero]
  rfl
theorem pSt_at {t : List Int} {i : Nat} : (pSt t i).getD (i - 1) 0 = uX t (i - 1) := by rw [pSt, zst_at]; rfl
theorem pSt_at2 {t : List Int} {i : Nat} {v : Int} (h1 : 1 ≤ i) (h2 : i < 16) : ((pSt t i).set i v).getD (i - 1) 0 = uX t (i - 1) := by rw [set_get_ne (by omega), pSt_at]
theorem pSt_step {t : List Int} (h : DZ t) {i : Nat} (h1 : 1 ≤ i) (h2 : i < 16) : ((pSt t i).set i (uX t i)).set (i - 1) (uX t (i - 1) % 65536) = pSt t (i + 1) := by
  obtain ⟨k, rfl⟩ : ∃ k, i = k + 1 := ⟨i - 1, by omega⟩
  obtain ⟨m, hm⟩ : ∃ m, 16 - (k + 1) = m + 1 := ⟨14 - k, by omega⟩
  have e : zcy (uP t) (k + 1) = uX t k / 65536 := by rw [zcy_succ (by rw [uP_len h.1]; omega), uX, Int.add_comm]
  rw [Nat.add_sub_cancel, List.set_comm _ _ (by omega)]
  unfold pSt
  rw [Nat.add_sub_cancel, Nat.add_sub_cancel, hm, List.replicate_succ, show 16 - (k + 1 + 1) = m by omega]
  exact zst_step (by rw [uP_len h.1]; omega) rfl (by rw [uX, e]; rfl)
theorem pSt_top {t : List Int} (h : DZ t) : uX t 15 / 65536 = (valZ t - pZ) / 115792089237316195423570985008687907853269984665640564039457584007913129639936 := by
  have e : zcy (uP t) 16 = uX t 15 / 65536 := by rw [zcy_succ (by rw [uP_len h.1]; decide), uX, Int.add_comm]
  rw [← e, ← uP_val h.1]
  show zsum (uP t) 16 / 65536 ^ 16 = _
  rw [show zsum (uP t) 16 = valZ (uP t) by rw [← uP_len h.1, zsum_all]]; rfl
theorem pSt_end {t : List Int} (h : DZ t) (hb : uX t 15 / 65536 % 2 ≠ 1) : pSt t 16 = zgs (valZ t - pZ) 16 := by
  have a := uX_bd h (i := 15) (by decide)
  have m : uX t 15 % 65536 = uX t 15 := by omega
  have e : valZ (uP t) = zsum (uP t) 15 + (uP t).getD 15 0 * 65536 ^ 15 := by rw [← zsum_succ (by rw [uP_len h.1]; decide), ← zsum_all, uP_len h.1]
  rw [← uP_val h.1, e, zgs_succ]
  show zgs (zsum (uP t) 15) 15 ++ [uX t 15] = _
  have : (zsum (uP t) 15 / 65536 ^ 15 + (uP t).getD 15 0) = uX t 15 := by rw [uX, zcy, Int.add_comm]
  rw [this, m]
def vR (V : Int) : Nat → Int
  | 0 => V
  | r + 1 => if vR V r < pZ then vR V r else vR V r - pZ
theorem vR_bd {V : Int} (h : 0 ≤ V ∧ V < 115792089237316195423570985008687907853269984665640564039457584007913129639936) : ∀ r, 0 ≤ vR V r ∧ vR V r < 115792089237316195423570985008687907853269984665640564039457584007913129639936
  | 0 => h
  | r + 1 => by
    have ih := vR_bd h r
    have := pZ_eq
    rw [vR]; split <;> omega
theorem vR_all {V : Int} (h : 0 ≤ V ∧ V < 115792089237316195423570985008687907853269984665640564039457584007913129639936) : vR V 2 = V % pZ := by
  have := pZ_eq
  show (if (if V < pZ then V else V - pZ) < pZ then (if V < pZ then V else V - pZ) else (if V < pZ then V else V - pZ) - pZ) = _
  by_cases h1 : V < pZ
  · rw [if_pos h1, if_pos h1, Int.emod_eq_of_lt h.1 h1]
  · rw [if_neg h1]
    by_cases h2 : V - pZ < pZ
    · rw [if_pos h2]; rw [pZ_eq] at h1 h2 ⊢; omega
    · rw [if_neg h2]; rw [pZ_eq] at h1 h2 ⊢; omega
theorem vR_digits {V : Int} (h : 0 ≤ V ∧ V < 115792089237316195423570985008687907853269984665640564039457584007913129639936) (r : Nat) : valZ (zgs (vR V r) 16) = vR V r := by
  have := vR_bd h r
  rw [zdigits]
  exact Int.emod_eq_of_lt this.1 this.2
theorem vR_low {V : Int} (h : 0 ≤ V ∧ V < 115792089237316195423570985008687907853269984665640564039457584007913129639936) {r : Nat} (hb : uX (zgs (vR V r) 16) 15 / 65536 % 2 = 1) : zgs (vR V r) 16 = zgs (vR V (r + 1)) 16 := by
  have b := vR_bd h r
  have t := pSt_top (dz_zgs (vR V r))
  rw [vR_digits h] at t
  have := pZ_eq
  rw [vR, if_pos (by omega)]
theorem vR_high {V : Int} (h : 0 ≤ V ∧ V < 115792089237316195423570985008687907853269984665640564039457584007913129639936) {r : Nat} (hb : uX (zgs (vR V r) 16) 15 / 65536 % 2 ≠ 1) : pSt (zgs (vR V r) 16) 16 = zgs (vR V (r + 1)) 16 := by
  have b := vR_bd h r
  have a := uX_bd (dz_zgs (vR V r)) (i := 15) (by decide)
  have t := pSt_top (dz_zgs (vR V r))
  rw [vR_digits h] at t
  have := pZ_eq
  rw [pSt_end (dz_zgs _) hb, vR_digits h, vR, if_neg (by omega)]
/-- three carries -/
def c3 (V : Int) : Int := cV (cV V)
theorem cR_dig {V : Int} (h : 0 ≤ V ∧ V < 115792089237316195423570985008687907853269984665640564039457584007913129639936) : cR V = zgs V 16 := by
  unfold cR
  rw [show V / 115792089237316195423570985008687907853269984665640564039457584007913129639936 = 0 by omega, Int.mul_zero, Int.add_zero]
  refine List.ext_getElem (by simp) fun j h1 h2 => ?_
  by_cases e : j = 0
  · subst e; simp [zgs]
  · rw [List.getElem_set_ne (by omega)]
theorem carry3 {a : List Int} (h : a.length = 16) (hb : BZ 131072 a) : ∃ V, (0 ≤ V ∧ V < 115792089237316195423570985008687907853269984665640564039457584007913129639936) ∧ cR (valZ (cR (valZ (cR (valZ a))))) = zgs V 16 ∧ V % pZ = valZ a % pZ := by
  have b := valZ_bd (by decide) a hb
  rw [h, show (65536 : Int) ^ 16 = 115792089237316195423570985008687907853269984665640564039457584007913129639936 from rfl] at b
  have r : 0 ≤ c3 (valZ a) ∧ c3 (valZ a) < 115792089237316195423570985008687907853269984665640564039457584007913129639936 := by
    unfold c3 cV
    generalize valZ a = X at *
    omega
  refine ⟨c3 (valZ a), r, ?_, ?_⟩
  · rw [valZ_cR, valZ_cR]
    exact cR_dig r
  · rw [c3, cV_mod, cV_mod]
theorem c3_q {a : List Int} (h : a.length = 16) (hb : BZ 131072 a) : BZ 1000000 (cR (valZ a)) ∧ BZ 1000000 (cR (valZ (cR (valZ a)))) := by
  have b := valZ_bd (by decide) a hb
  rw [h, show (65536 : Int) ^ 16 = 115792089237316195423570985008687907853269984665640564039457584007913129639936 from rfl] at b
  refine ⟨(cR_bd (n := 4) (by omega) (by decide)).mono (by decide), (cR_bd (n := 4) ?_ (by decide)).mono (by decide)⟩
  rw [valZ_cR]
  unfold cV
  generalize valZ a = X at *
  omega
/-- bytes out of digits -/
def obI (w : Nat) (i : Nat) : List (BitVec 8) := (gd 8 8 w 32).take (2 * i) ++ List.replicate (32 - 2 * i) 0#8
theorem obI_zero (w : Nat) : obI w 0 = List.replicate 32 0#8 := by simp [obI]
theorem obI_len (w : Nat) {i : Nat} (h : i ≤ 16) : (obI w i).length = 32 := by simp [obI, gd_len]; omega
theorem ofInt_n (n : Nat) : BitVec.ofInt 8 (n : Int) = BitVec.ofNat 8 n := BitVec.ofInt_natCast 8 n
theorem obI_step {w i : Nat} (h : i < 16) : ((obI w i).set (2 * i) (BitVec.ofInt 8 ((zgs w 16).getD i 0))).set (2 * i + 1) (BitVec.ofInt 8 ((zgs w 16).getD i 0 / 2 ^ 8)) = obI w (i + 1) := by
  obtain ⟨k, hk⟩ : ∃ k, 32 - 2 * i = k + 1 + 1 := ⟨30 - 2 * i, by omega⟩
  have hl : (gd 8 8 w 32).length = 32 := gd_len _ _ _ _
  have z : (zgs w 16).getD i 0 = ((w / 2 ^ (16 * i) % 65536 : Nat) : Int) := by
    rw [zgs_get h, zg, show (65536 : Int) ^ i = ((2 ^ (16 * i) : Nat) : Int) by rw [Nat.pow_mul]; simp]
    rfl
  have g1 : (gd 8 8 w 32)[2 * i]'(by omega) = BitVec.ofInt 8 ((zgs w 16).getD i 0) := by
    rw [z, ofInt_n]
    apply BitVec.eq_of_toNat_eq
    simp only [gd, List.getElem_map, List.getElem_range, BitVec.toNat_ofNat, show 8 * (2 * i) = 16 * i by omega]
    generalize w / 2 ^ (16 * i) = y
    omega
  have g2 : (gd 8 8 w 32)[2 * i + 1]'(by omega) = BitVec.ofInt 8 ((zgs w 16).getD i 0 / 2 ^ 8) := by
    rw [z, show ((w / 2 ^ (16 * i) % 65536 : Nat) : Int) / 2 ^ 8 = ((w / 2 ^ (16 * i) % 65536 / 256 : Nat) : Int) from rfl, ofInt_n]
    apply BitVec.eq_of_toNat_eq
    simp only [gd, List.getElem_map, List.getElem_range, BitVec.toNat_ofNat, show 8 * (2 * i + 1) = 16 * i + 8 by omega, Nat.pow_add, ← Nat.div_div_eq_div_mul]
    generalize w / 2 ^ (16 * i) = y
    omega
  rw [obI, obI, hk, List.replicate_succ, List.replicate_succ, List.set_append_right _ _ (by simp [hl]; omega), List.length_take, hl, Nat.min_eq_left (by omega), Nat.sub_self, List.set_cons_zero, List.set_append_right _ _ (by simp [hl]; omega), List.length_take, hl, Nat.min_eq_left (by omega), Nat.add_sub_cancel_left, List.set_cons_succ, List.set_cons_zero,
    show 2 * (i + 1) = 2 * i + 1 + 1 by omega, List.take_succ_eq_append_getElem (by omega), List.take_succ_eq_append_getElem (by omega), g1, g2, show 32 - (2 * i + 1 + 1) = k by omega]
  simp
theorem obI_all (w : Nat) : obI w 16 = gd 8 8 w 32 := by
  rw [obI, List.take_of_length_le (by rw [gd_len]; exact Nat.le_refl _)]; simp
theorem obI_pack {a : List Int} {x V : Nat} (hv : (V : Int) % pZ = valZ a % pZ) (ha : valZ a % pZ = (x : Int)) : gd 8 8 (V % pN) 32 = packN x := by
  have hx : x < pN := by have := Int.emod_lt_of_pos (valZ a) (show 0 < pZ by decide); rw [ha, pZ_N] at this; omega
  have e : V % pN = x := by rw [ha, pZ_N] at hv; omega
  rw [e, packN, Nat.mod_eq_of_lt hx]
/-! a secret that counts, in the document's words -/
theorem clamp_lo : ∀ x : BitVec 8, x / 8#8 * 8#8 = x &&& ~~~7#8 := by decide +kernel
theorem clamp_hi : ∀ x : BitVec 8, x % 64#8 + 64#8 = x &&& 63#8 ||| 64#8 := by decide +kernel
theorem bit_eq (k i : Nat) : (BitVec.ofNat 8 (k / 2 ^ i % 2) == 1#8) = k.testBit i := by
  rw [Nat.testBit_eq_decide_div_mod_eq]
  have h := Nat.mod_lt (k / 2 ^ i) (show 2 > 0 by decide)
  generalize k / 2 ^ i % 2 = b at *
  match b, h with
  | 0, _ => rfl
  | 1, _ => rfl
theorem obI_stepZ {W : Int} (hW : 0 ≤ W) {i : Nat} (h : i < 16) : ((obI W.toNat i).set (2 * i) (BitVec.ofInt 8 ((zgs W 16).getD i 0))).set (2 * i + 1) (BitVec.ofInt 8 ((zgs W 16).getD i 0 / 256)) = obI W.toNat (i + 1) := by
  have := obI_step (w := W.toNat) h
  rw [Int.toNat_of_nonneg hW] at this
  exact this
theorem pack_fin {a : List Int} {V : Int} (hV : 0 ≤ V ∧ V < 115792089237316195423570985008687907853269984665640564039457584007913129639936) (mV : V % pZ = valZ a % pZ) : obI (vR V 2).toNat 16 = packN (valZ a % pZ).toNat := by
  have h0 := Int.emod_nonneg (valZ a) (show pZ ≠ 0 by decide)
  have h1 := Int.emod_lt_of_pos (valZ a) (show 0 < pZ by decide)
  rw [vR_all hV, mV, obI_all, packN, Nat.mod_eq_of_lt]
  rw [pZ_N] at h1 h0 ⊢
  omega
theorem clampR_eq (s : List (BitVec 8)) : ((s.set 0 (s.getD 0 0#8 / 8#8 * 8#8)).set 31 (((s.set 0 (s.getD 0 0#8 / 8#8 * 8#8)).getD 31 0#8) % 64#8 + 64#8)) = clampS s := by
  rw [clampS, clamp_lo, clamp_hi]
section
variable {α : Type} {b : Bool} {s : S4 α}
theorem swT_x2 (h : b = true) : (swapS b s).x2 = s.x3 := by subst h; rfl
theorem swT_z2 (h : b = true) : (swapS b s).z2 = s.z3 := by subst h; rfl
theorem swT_x3 (h : b = true) : (swapS b s).x3 = s.x2 := by subst h; rfl
theorem swT_z3 (h : b = true) : (swapS b s).z3 = s.z2 := by subst h; rfl
theorem swF_x2 (h : b = false) : (swapS b s).x2 = s.x2 := by subst h; rfl
theorem swF_z2 (h : b = false) : (swapS b s).z2 = s.z2 := by subst h; rfl
theorem swF_x3 (h : b = false) : (swapS b s).x3 = s.x3 := by subst h; rfl
theorem swF_z3 (h : b = false) : (swapS b s).z3 = s.z3 := by subst h; rfl
end
theorem shR_end {s b : List (BitVec 8)} (hb : b.length = 32) : packN (valZ (mulR (ladR (unR b) (leN (clampS s)) 255).x2 (invG mulR (ladR (unR b) (leN (clampS s)) 255).z2 254)) % pZ).toNat = shX s b := by
  have h := out_rel (k := leN (clampS s)) homR relR_num relR_one relR_zero (unR_rel hb)
  have e : valZ (mulR (ladR (unR b) (leN (clampS s)) 255).x2 (invG mulR (ladR (unR b) (leN (clampS s)) 255).z2 254)) % pZ = (xN (leN (clampS s)) (uN b % pN) : Int) := h.2.2
  rw [e, Int.toNat_natCast]
  rfl
theorem invR_zero (a : List Int) : invG mulR a 0 = a := rfl
theorem invR_t {a : List Int} {n : Nat} (h : n = 251 ∨ n = 249) : invG mulR a (n + 1) = mulR (invG mulR a n) (invG mulR a n) := if_pos h
theorem invR_f {a : List Int} {n : Nat} (h : ¬ (n = 251 ∨ n = 249)) : invG mulR a (n + 1) = mulR (mulR (invG mulR a n) (invG mulR a n)) a := if_neg h
theorem invR_bz {a : List Int} (h : BZ 131072 a) : ∀ n, BZ 131072 (invG mulR a n)
  | 0 => h
  | n + 1 => by
    have ih := bz_up (invR_bz h n)
    unfold invG
    split
    · exact bz_mul ih ih
    · exact bz_mul (bz_up (bz_mul ih ih)) (bz_up h)
theorem invR_len {a : List Int} (h : a.length = 16) : ∀ n, (invG mulR a n).length = 16
  | 0 => h
  | n + 1 => by
    unfold invG
    split <;> exact mulR_len _ _

end Go.Proofs.Ytnhjmapapbhhpaa
