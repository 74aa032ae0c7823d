import Derived.Test.YtkdkpjnlknofeaaPC
namespace Go.Proofs.Ytkdkpjnlknofeaa
set_option maxRecDepth 20000
set_option linter.unusedVariables false
set_option linter.unusedSimpArgs false
open Go.SE Go.RowKit
theorem leN_and : ∀ (a m : List (BitVec 8)), a.length = m.length → leN (List.zipWith (· &&& ·) a m) = leN a &&& leN m
  | [], [], _ => rfl
  | x :: a, y :: m, h => by
    have ih := leN_and a m (by simpa using h)
    rw [List.zipWith_cons_cons, leN, leN, leN, ih]
    have hx := x.isLt
    have hy := y.isLt
    have e1 : ((x.toNat + 256 * leN a) &&& (y.toNat + 256 * leN m)) / 2 ^ 8 = leN a &&& leN m := by
      rw [Nat.and_div_two_pow]
      congr 1 <;> omega
    have e2 : ((x.toNat + 256 * leN a) &&& (y.toNat + 256 * leN m)) % 2 ^ 8 = (x &&& y).toNat := by
      rw [Nat.and_mod_two_pow, BitVec.toNat_and]
      congr 1 <;> omega
    rw [← e1, ← e2]
    omega
def maskB : List (BitVec 8) := [255#8, 255#8, 255#8, 15#8, 252#8, 255#8, 255#8, 15#8, 252#8, 255#8, 255#8, 15#8, 252#8, 255#8, 255#8, 15#8]
def rB (key : List (BitVec 8)) : List (BitVec 8) := List.zipWith (· &&& ·) (key.take 16) maskB
theorem rNum_leN (key : List (BitVec 8)) (hk : key.length = 32) : rNum key = leN (rB key) := by
  have a := le64_nat (key.take 8) 8 (by decide) (by simp; omega)
  have b := le64_nat ((key.drop 8).take 8) 8 (by decide) (by simp; omega)
  rw [List.take_of_length_le (l := key.take 8) (by simp; omega)] at a
  rw [List.take_of_length_le (l := (key.drop 8).take 8) (by simp; omega)] at b
  have sp : key.take 16 = key.take 8 ++ (key.drop 8).take 8 := by rw [show (16 : Nat) = 8 + 8 from rfl, List.take_add]
  have hl : (key.take 8).length = 8 := by simp; omega
  have hl2 : ((key.drop 8).take 8).length = 8 := by simp; omega
  have e : rB key = List.zipWith (· &&& ·) (key.take 8) (maskB.take 8) ++ List.zipWith (· &&& ·) ((key.drop 8).take 8) (maskB.drop 8) := by
    rw [rB, sp]
    exact List.zipWith_append (f := (· &&& ·)) (l₁ := key.take 8) (l₁' := (key.drop 8).take 8) (l₂ := maskB.take 8) (l₂' := maskB.drop 8) (by rw [hl]; rfl)
  rw [e, leN_app, leN_and (key.take 8) (maskB.take 8) (by rw [hl]; rfl), leN_and ((key.drop 8).take 8) (maskB.drop 8) (by rw [hl2]; rfl), List.length_zipWith, hl]
  rw [rNum, rLo, rHi, BitVec.toNat_and, BitVec.toNat_and, a, b]
  rfl
def natI (l : List (BitVec 8)) : List Int := l.map fun x => (x.toNat : Int)
theorem valI_natI (l : List (BitVec 8)) : valI (natI l) = leN l := by
  induction l with
  | nil => rfl
  | cons x l ih =>
    show (x.toNat : Int) + 256 * valI (natI l) = _
    rw [ih, leN]
    omega
/-- A place of r, as the document cuts it. -/
def rD (key : List (BitVec 8)) (i : Nat) : Int := if i % 4 = 3 then ((key.getD i 0#8).toNat : Int) % 16 else if i % 4 = 0 ∧ 0 < i then ((key.getD i 0#8).toNat : Int) / 4 * 4 else (key.getD i 0#8).toNat
def rI (key : List (BitVec 8)) : List Int := (List.range 16).map (rD key)
def rTo (key : List (BitVec 8)) (k : Nat) : List Int := (List.range k).map (rD key) ++ List.replicate (16 - k) 0
theorem rTo_len (key : List (BitVec 8)) {k : Nat} (h : k ≤ 16) : (rTo key k).length = 16 := by simp [rTo]; omega
theorem rTo_set (key : List (BitVec 8)) {k : Nat} (h : k < 16) : (rTo key k).set k (rD key k) = rTo key (k + 1) := fill_set (rD key) 0 h
theorem and15 (x : BitVec 8) : (x &&& 15#8).toNat = x.toNat % 16 := by
  rw [BitVec.toNat_and]
  exact Nat.and_two_pow_sub_one_eq_mod x.toNat 4
theorem and252 (x : BitVec 8) : (x &&& 252#8).toNat = x.toNat / 4 * 4 := by
  have : ∀ i : Fin 256, (BitVec.ofFin (w := 8) i &&& 252#8).toNat = i.1 / 4 * 4 := by decide
  exact this x.toFin
theorem and15n (x : BitVec 8) : x.toNat &&& 15 = x.toNat % 16 := Nat.and_two_pow_sub_one_eq_mod x.toNat 4
theorem and252n (x : BitVec 8) : x.toNat &&& 252 = x.toNat / 4 * 4 := by rw [← and252]; rfl
theorem and255 (x : BitVec 8) : x &&& 255#8 = x := BitVec.and_allOnes
theorem rI_eq (key : List (BitVec 8)) (hk : key.length = 32) : rI key = natI (rB key) := by
  apply List.ext_getElem
  · simp [rI, natI, rB, maskB]; omega
  · intro i h1 h2
    have hi : i < 16 := by simpa [rI] using h1
    have e : (natI (rB key))[i] = (((key.getD i 0#8) &&& maskB.getD i 0#8).toNat : Int) := by
      have hm : maskB.length = 16 := rfl
      simp [natI, rB, List.getD_eq_getElem?_getD, List.getElem?_eq_getElem (show i < key.length by omega), List.getElem?_eq_getElem (show i < maskB.length by omega)]
    rw [e]
    simp only [rI, List.getElem_map, List.getElem_range]
    have : i = 0 ∨ i = 1 ∨ i = 2 ∨ i = 3 ∨ i = 4 ∨ i = 5 ∨ i = 6 ∨ i = 7 ∨ i = 8 ∨ i = 9 ∨ i = 10 ∨ i = 11 ∨ i = 12 ∨ i = 13 ∨ i = 14 ∨ i = 15 := by omega
    rcases this with rfl | rfl | rfl | rfl | rfl | rfl | rfl | rfl | rfl | rfl | rfl | rfl | rfl | rfl | rfl | rfl
    all_goals simp [rD, maskB, and15n, and252n, and255]
theorem r_val (key : List (BitVec 8)) (hk : key.length = 32) : valI (rI key) = rNum key := by rw [rI_eq key hk, valI_natI, rNum_leN key hk]
theorem rD_le (key : List (BitVec 8)) (i : Nat) : 0 ≤ rD key i ∧ rD key i ≤ 255 := by
  have := (key.getD i 0#8).isLt
  unfold rD
  split
  · omega
  · split <;> omega
theorem rI_getD (key : List (BitVec 8)) {i : Nat} (h : i < 16) : (rI key).getD i 0 = rD key i := by
  simp [rI, List.getD_eq_getElem?_getD, h]
theorem rTo_16 (key : List (BitVec 8)) : rTo key 16 = rI key := by simp [rTo, rI]
/-- A part is added, up to place i. -/
structure AddI (h : List Int) (b : List (BitVec 8)) (g : List Int) (i : Nat) : Prop where
  len : g.length = 17
  val : valI g = valI h + leN (b.take i)
  same : ∀ j, i ≤ j → g.getD j 0 = h.getD j 0
  le : ∀ j, 0 ≤ g.getD j 0 ∧ g.getD j 0 ≤ 510
theorem AddI.init {h : List Int} {b : List (BitVec 8)} {V : Int} (hh : OutI V h) : AddI h b h 0 :=
  ⟨hh.1, by simp [leN], fun _ _ => rfl, fun j => by have := hh.2.1 j; omega⟩
theorem AddI.step {h g : List Int} {b : List (BitVec 8)} {V : Int} {i : Nat} (hh : OutI V h) (a : AddI h b g i) (hi : i < b.length) (h17 : i < 17) (x : BitVec 8) (hx : b.getD i 0#8 = x) : AddI h b (g.set i (g.getD i 0 + (x.toNat : Int))) (i + 1) := by
  obtain ⟨a1, a2, a3, a4⟩ := a
  have hb := x.isLt
  have e := a3 i (by omega)
  have e2 := hh.2.1 i
  refine ⟨by simp [a1], ?_, fun j hj => ?_, fun j => ?_⟩
  · rw [valI_set _ _ _ (by omega), leN_take b i hi, hx, a2, show g.getD i 0 + (x.toNat : Int) - g.getD i 0 = (x.toNat : Int) by omega, Int.natCast_add, Int.natCast_mul, Int.natCast_pow, Int.mul_comm]
    show valI h + ↑(leN (b.take i)) + 256 ^ i * (x.toNat : Int) = _
    exact Int.add_assoc ..
  · rw [getD_set, if_neg (by omega)]
    exact a3 j (by omega)
  · rw [getD_set]
    have := a4 j
    split
    · omega
    · exact this
/-- A part and the one behind it are added. -/
structure GgI (V : Int) (g : List Int) : Prop where
  len : g.length = 17
  val : valI g = V
  le : ∀ j, 0 ≤ g.getD j 0 ∧ g.getD j 0 ≤ 511
theorem AddI.fin {h g : List Int} {b : List (BitVec 8)} {V : Int} (hh : OutI V h) (a : AddI h b g b.length) (hb : b.length ≤ 16) : GgI (V + leN b + 256 ^ b.length) (g.set b.length (g.getD b.length 0 + 1)) := by
  obtain ⟨a1, a2, a3, a4⟩ := a
  refine ⟨by simp [a1], ?_, fun j => ?_⟩
  · rw [valI_set _ _ _ (by omega), a2, List.take_length, hh.2.2, show g.getD b.length 0 + 1 - g.getD b.length 0 = 1 by omega, Int.one_mul]
  · rw [getD_set]
    have := a4 j
    have := a4 b.length
    split <;> omega
/-- The product, up to places i and j. -/
structure MulI (g r t : List Int) (i j : Nat) : Prop where
  len : t.length = 40
  val : valI t = valI (g.take i) * valI r + g.getD i 0 * 256 ^ i * valI (r.take j)
  le : ∀ k, 0 ≤ t.getD k 0 ∧ t.getD k 0 ≤ (16 * (i : Int) + j) * 130305
theorem MulI.init (g r : List Int) : MulI g r (List.replicate 40 0) 0 0 :=
  ⟨by simp, by rw [valI_rep]; simp [valI], fun k => by rw [getD_rep]; omega⟩
theorem mul_le {x y : Int} (hx : 0 ≤ x ∧ x ≤ 511) (hy : 0 ≤ y ∧ y ≤ 255) : 0 ≤ x * y ∧ x * y ≤ 130305 :=
  ⟨Int.mul_nonneg hx.1 hy.1, Int.mul_le_mul hx.2 hy.2 hy.1 (by decide)⟩
theorem MulI.step {g r t : List Int} {i j : Nat} {V : Int} (h : MulI g r t i j) (hg : GgI V g) (hr : r.length = 16) (hi : i < 17) (hj : j < 16) (hrj : 0 ≤ r.getD j 0 ∧ r.getD j 0 ≤ 255) :
    MulI g r (t.set (i + j) (t.getD (i + j) 0 + g.getD i 0 * r.getD j 0)) i (j + 1) := by
  obtain ⟨a1, a2, a3⟩ := h
  have m := mul_le (hg.le i) hrj
  refine ⟨by simp [a1], ?_, fun k => ?_⟩
  · rw [valI_set _ _ _ (by omega), a2, valI_take r j (by omega), show t.getD (i + j) 0 + g.getD i 0 * r.getD j 0 - t.getD (i + j) 0 = g.getD i 0 * r.getD j 0 by omega, Int.pow_add, Int.mul_add, Int.add_assoc]
    congr 2
    simp only [Int.mul_assoc, Int.mul_left_comm, Int.mul_comm]
  · rw [getD_set]
    have := a3 k
    have := a3 (i + j)
    split
    · generalize g.getD i 0 * r.getD j 0 = z at *
      omega
    · omega
theorem MulI.next {g r t : List Int} {i : Nat} {V : Int} (h : MulI g r t i 16) (hg : GgI V g) (hr : r.length = 16) (hi : i < 17) : MulI g r t (i + 1) 0 := by
  obtain ⟨a1, a2, a3⟩ := h
  refine ⟨a1, ?_, fun k => ?_⟩
  · rw [a2, List.take_of_length_le (l := r) (by omega), valI_take g i (by have := hg.len; omega), List.take_zero, valI, Int.mul_zero, Int.add_zero, Int.add_mul]
  · have := a3 k
    omega
theorem MulI.fin {g r t : List Int} {V : Int} (h : MulI g r t 17 0) (hg : GgI V g) : valI t = V * valI r := by
  rw [h.val, List.take_of_length_le (by have := hg.len; omega), hg.val, List.take_zero, valI, Int.mul_zero, Int.add_zero]
theorem poly_step {r : Nat} {l : List (BitVec 8)} {n : Nat} {t O : List Int} (ht : valI t = ((polyN r l n : Nat) + leN (blk l n) + 256 ^ (blk l n).length) * (r : Int)) (hO : OutI (valI t % P130) O) : OutI ((polyN r l (n + 1) : Nat) : Int) O := by
  have e : ((polyN r l (n + 1) : Nat) : Int) = valI t % P130 := by
    rw [ht, polyN, Int.natCast_emod, Int.natCast_mul, Int.natCast_add, Int.natCast_add, Int.natCast_pow, ← Int.add_assoc]
    rfl
  rw [e]
  exact hO
theorem mul_lt272 {r : Nat} {l : List (BitVec 8)} {n : Nat} (hr : r < 2 ^ 124) : ((polyN r l n : Nat) + leN (blk l n) + 256 ^ (blk l n).length) * (r : Int) < big := by
  have h1 := polyN_lt r l n
  have h2 := part_lt (blk l n) (blk_len l n)
  have h3 : (polyN r l n + (leN (blk l n) + 256 ^ (blk l n).length)) * r < 2 ^ 131 * 2 ^ 124 := Nat.mul_lt_mul'' (by unfold PN at h1; omega) hr
  have e : ((polyN r l n : Nat) + leN (blk l n) + 256 ^ (blk l n).length) * (r : Int) = (((polyN r l n + (leN (blk l n) + 256 ^ (blk l n).length)) * r : Nat) : Int) := by
    rw [Int.natCast_mul, Int.natCast_add, Int.natCast_add, Int.natCast_pow, ← Int.add_assoc]
    rfl
  rw [e]
  exact Int.lt_trans (Int.ofNat_lt.2 h3) (by rw [← Nat.pow_add]; unfold big; decide)
theorem rNum_lt (key : List (BitVec 8)) : rNum key < 2 ^ 124 := by
  have := r_lt key
  unfold rNum
  omega
def byTo (X k : Nat) : List (BitVec 8) := (List.range k).map (fun i => BitVec.ofNat 8 (X / 256 ^ i)) ++ List.replicate (16 - k) 0#8
theorem byTo_len (X : Nat) {k : Nat} (h : k ≤ 16) : (byTo X k).length = 16 := by simp [byTo]; omega
theorem byTo_set (X : Nat) {k : Nat} (h : k < 16) : (byTo X k).set k (BitVec.ofNat 8 (X / 256 ^ k)) = byTo X (k + 1) := fill_set (fun i => BitVec.ofNat 8 (X / 256 ^ i)) 0#8 h
theorem byTo_16 (X : Nat) : byTo X 16 = by16 X := by simp [byTo, by16]
/-- The sum's carry, up to place i. -/
def SmI (X : Nat) (h : List Int) (s : List (BitVec 8)) (i : Nat) (c : Int) : Prop := 0 ≤ c ∧ c ≤ 1 ∧ ((X / 256 ^ i : Nat) : Int) = c + valI (h.drop i) + leN (s.drop i)
theorem SmI.init {V : Nat} {h : List Int} {s : List (BitVec 8)} (hh : OutI (V : Int) h) : SmI (V + leN s) h s 0 0 := by
  refine ⟨by decide, by decide, ?_⟩
  rw [Nat.pow_zero, Nat.div_one, List.drop_zero, List.drop_zero, hh.2.2]
  omega
theorem SmI.step {X : Nat} {h : List Int} {s : List (BitVec 8)} {i : Nat} {c V : Int} (a : SmI X h s i c) (hh : OutI V h) (hs : i < s.length) (hi : i < 17) (x : BitVec 8) (hx : s.getD i 0#8 = x) :
    SmI X h s (i + 1) ((h.getD i 0 + (x.toNat : Int) + c) / 256) ∧ ((X / 256 ^ i % 256 : Nat) : Int) = (h.getD i 0 + (x.toNat : Int) + c) % 256 := by
  obtain ⟨a1, a2, a3⟩ := a
  have hb := x.isLt
  have hd := hh.2.1 i
  have e1 : h.drop i = h.getD i 0 :: h.drop (i + 1) := by
    rw [List.getD_eq_getElem?_getD, List.getElem?_eq_getElem (by have := hh.1; omega)]
    exact List.drop_eq_getElem_cons _
  have e2 : s.drop i = x :: s.drop (i + 1) := by
    rw [← hx, List.getD_eq_getElem?_getD, List.getElem?_eq_getElem hs]
    exact List.drop_eq_getElem_cons _
  rw [e1, e2, valI, leN] at a3
  have e3 : X / 256 ^ (i + 1) = X / 256 ^ i / 256 := by rw [Nat.pow_succ, Nat.div_div_eq_div_mul]
  unfold SmI
  rw [e3]
  generalize X / 256 ^ i = y at *
  refine ⟨⟨by omega, by omega, ?_⟩, by omega⟩
  omega

end Go.Proofs.Ytkdkpjnlknofeaa
