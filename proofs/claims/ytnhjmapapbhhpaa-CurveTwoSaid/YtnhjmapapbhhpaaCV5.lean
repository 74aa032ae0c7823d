import Derived.Test.YtnhjmapapbhhpaaCV4
namespace Go.Proofs.Ytnhjmapapbhhpaa
set_option maxRecDepth 20000
set_option linter.unusedVariables false
set_option linter.unusedSimpArgs false
open Go.SE Go.RowKit
/-! publics of which nothing but nought comes -/
theorem fsub_zero {x : Nat} (h : x < pN) : fsub x 0 = x := by unfold fsub; rw [Nat.sub_zero, Nat.add_mod_right, Nat.mod_eq_of_lt h]
theorem fsub_self {x : Nat} (h : x < pN) : fsub x x = 0 := by unfold fsub; rw [Nat.add_sub_cancel' (Nat.le_of_lt h), Nat.mod_self]
theorem fadd_zero {x : Nat} (h : x < pN) : fadd x 0 = x := by unfold fadd; rw [Nat.add_zero, Nat.mod_eq_of_lt h]
theorem zero_fadd {x : Nat} (h : x < pN) : fadd 0 x = x := by unfold fadd; rw [Nat.zero_add, Nat.mod_eq_of_lt h]
theorem fmul_zero (x : Nat) : fmul x 0 = 0 := by simp [fmul]
theorem zero_fmul (x : Nat) : fmul 0 x = 0 := by simp [fmul]
theorem fadd_lt (x y : Nat) : fadd x y < pN := Nat.mod_lt _ pN_pos
theorem fsub_lt (x y : Nat) : fsub x y < pN := Nat.mod_lt _ pN_pos
theorem neg_sq {x : Nat} (h : x < pN) : fmul (fsub 0 x) (fsub 0 x) = fmul x x := by
  unfold fsub fmul
  rw [Nat.zero_add, ← Nat.mul_mod]
  obtain ⟨y, hy⟩ : ∃ y, pN = x + y := ⟨pN - x, by omega⟩
  have e : y * y + pN * (x + x) = x * x + pN * pN := by
    rw [hy]; simp only [Nat.mul_add, Nat.add_mul, Nat.mul_comm y x]; omega
  rw [show pN - x = y by omega]
  calc y * y % pN = (y * y + pN * (x + x)) % pN := by rw [Nat.add_mul_mod_self_left]
    _ = _ := by rw [e, Nat.add_mul_mod_self_left]
theorem one_fmul {x : Nat} (h : x < pN) : fmul 1 x = x := by unfold fmul; rw [Nat.one_mul, Nat.mod_eq_of_lt h]
theorem neg_fmul {x : Nat} : fadd x (fmul (pN - 1) x) = 0 := by
  unfold fadd fmul
  rw [Nat.add_mod, Nat.mod_mod, ← Nat.add_mod]
  have e : x + (pN - 1) * x = pN * x := by
    obtain ⟨q, hq⟩ : ∃ q, pN = q + 1 := ⟨pN - 1, by have := pN_pos; omega⟩
    rw [hq, Nat.add_sub_cancel, Nat.add_mul, Nat.one_mul, Nat.add_comm]
  rw [e, Nat.mul_mod_right]
def LtS (s : S4 Nat) : Prop := s.x2 < pN ∧ s.z2 < pN ∧ s.x3 < pN ∧ s.z3 < pN
theorem step_lt (u : Nat) (s : S4 Nat) : LtS (stepG fadd fsub fmul 121665 u s) := ⟨fmul_lt _ _, fmul_lt _ _, fmul_lt _ _, fmul_lt _ _⟩
theorem swap_lt {s : S4 Nat} (b : Bool) (h : LtS s) : LtS (swapS b s) := by
  cases b
  · exact h
  · exact ⟨h.2.2.1, h.2.2.2, h.1, h.2.1⟩
theorem low_e {x z : Nat} (hx : x < pN) (hz : z < pN) (h : x = 0 ∨ z = 0) : fmul (fadd x z) (fadd x z) = fmul (fsub x z) (fsub x z) := by
  rcases h with rfl | rfl
  · rw [zero_fadd hz, neg_sq hz]
  · rw [fadd_zero hx, fsub_zero hx]
theorem step_z {u : Nat} {s : S4 Nat} (l : LtS s) (h : s.x2 = 0 ∨ s.z2 = 0) : (stepG fadd fsub fmul 121665 u s).z2 = 0 := by
  show fmul (fsub _ _) _ = 0
  rw [low_e l.1 l.2.1 h, fsub_self (fmul_lt _ _), zero_fmul]
theorem inv_zero : ∀ n, invG fmul 0 n = 0
  | 0 => rfl
  | n + 1 => by
    unfold invG
    rw [inv_zero n]
    split <;> simp [fmul_zero]
theorem lad_lt (u k : Nat) (hu : u < pN) : ∀ n, LtS (ladG fadd fsub fmul 121665 1 0 u k n)
  | 0 => ⟨show 1 < pN by decide, pN_pos, hu, show 1 < pN by decide⟩
  | n + 1 => swap_lt _ (step_lt _ _)
theorem low0 (k : Nat) : ∀ n, (ladG fadd fsub fmul 121665 1 0 0 k (n + 1)).z2 = 0 ∧ (ladG fadd fsub fmul 121665 1 0 0 k (n + 1)).z3 = 0 := by
  have key : ∀ n, (let s := ladG fadd fsub fmul 121665 1 0 0 k n; (s.x2 = 0 ∨ s.z2 = 0) ∧ (s.x3 = 0 ∨ s.z3 = 0)) → (ladG fadd fsub fmul 121665 1 0 0 k (n + 1)).z2 = 0 ∧ (ladG fadd fsub fmul 121665 1 0 0 k (n + 1)).z3 = 0 := by
    intro n h
    have l := lad_lt 0 k pN_pos n
    have l2 := swap_lt (k.testBit (254 - n)) l
    have z2 : (stepG fadd fsub fmul 121665 0 (swapS (k.testBit (254 - n)) (ladG fadd fsub fmul 121665 1 0 0 k n))).z2 = 0 := by
      refine step_z l2 ?_
      cases k.testBit (254 - n)
      · exact h.1
      · exact h.2
    have z3 : (stepG fadd fsub fmul 121665 0 (swapS (k.testBit (254 - n)) (ladG fadd fsub fmul 121665 1 0 0 k n))).z3 = 0 := zero_fmul _
    show (swapS _ _).z2 = 0 ∧ (swapS _ _).z3 = 0
    generalize stepG fadd fsub fmul 121665 0 (swapS (k.testBit (254 - n)) (ladG fadd fsub fmul 121665 1 0 0 k n)) = t at *
    cases k.testBit (254 - n)
    · exact ⟨z2, z3⟩
    · exact ⟨z3, z2⟩
  intro n
  induction n with
  | zero => exact key 0 ⟨.inr rfl, .inl rfl⟩
  | succ n ih => exact key _ ⟨.inr ih.1, .inr ih.2⟩
/-- where the multiples of a point of four stand: N tells when two are the same but for the sign -/
def Low (N : Nat → Nat → Prop) (s : S4 Nat) : Prop := ((s.x2 = 0 ∨ s.z2 = 0) ∧ N s.x3 s.z3) ∨ (N s.x2 s.z2 ∧ (s.x3 = 0 ∨ s.z3 = 0))
theorem low_swap {N : Nat → Nat → Prop} {s : S4 Nat} (b : Bool) (h : Low N s) : Low N (swapS b s) := by
  cases b
  · exact h
  · rcases h with ⟨a, b⟩ | ⟨a, b⟩
    · exact .inr ⟨b, a⟩
    · exact .inl ⟨b, a⟩
theorem low_step1 {s : S4 Nat} (l : LtS s) (h : Low Eq s) : (stepG fadd fsub fmul 121665 1 s).x3 = (stepG fadd fsub fmul 121665 1 s).z3 ∧ ((stepG fadd fsub fmul 121665 1 s).x2 = 0 ∨ (stepG fadd fsub fmul 121665 1 s).z2 = 0) := by
  rcases h with ⟨a, b⟩ | ⟨a, b⟩
  · refine ⟨?_, .inr (step_z l a)⟩
    show fmul (fadd (fmul (fsub s.x3 s.z3) _) _) _ = fmul 1 (fmul (fsub (fmul (fsub s.x3 s.z3) _) _) _)
    rw [b, fsub_self l.2.2.2, zero_fmul, zero_fadd (fmul_lt _ _), one_fmul (fmul_lt _ _), neg_sq (fmul_lt _ _)]
  · refine ⟨?_, .inl ?_⟩
    · show fmul (fadd _ (fmul _ (fsub s.x2 s.z2))) _ = fmul 1 (fmul (fsub _ (fmul _ (fsub s.x2 s.z2))) _)
      rw [a, fsub_self l.2.1, fmul_zero, fadd_zero (fmul_lt _ _), fsub_zero (fmul_lt _ _), one_fmul (fmul_lt _ _)]
    · show fmul _ (fmul (fsub s.x2 s.z2) _) = 0
      rw [a, fsub_self l.2.1, zero_fmul, fmul_zero]
theorem low_step2 {s : S4 Nat} (l : LtS s) (h : Low (fun x z => fadd x z = 0) s) : fadd (stepG fadd fsub fmul 121665 (pN - 1) s).x3 (stepG fadd fsub fmul 121665 (pN - 1) s).z3 = 0 ∧ ((stepG fadd fsub fmul 121665 (pN - 1) s).x2 = 0 ∨ (stepG fadd fsub fmul 121665 (pN - 1) s).z2 = 0) := by
  rcases h with ⟨a, b⟩ | ⟨a, b⟩
  · refine ⟨?_, .inr (step_z l a)⟩
    show fadd (fmul (fadd _ (fmul (fadd s.x3 s.z3) _)) (fadd _ (fmul (fadd s.x3 s.z3) _))) (fmul (pN - 1) (fmul (fsub _ (fmul (fadd s.x3 s.z3) _)) (fsub _ (fmul (fadd s.x3 s.z3) _)))) = 0
    rw [show fadd s.x3 s.z3 = 0 from b, zero_fmul, fadd_zero (fmul_lt _ _), fsub_zero (fmul_lt _ _), neg_fmul]
  · have a : fadd s.x2 s.z2 = 0 := a
    refine ⟨?_, .inl ?_⟩
    · show fadd (fmul (fadd (fmul _ (fadd s.x2 s.z2)) _) (fadd (fmul _ (fadd s.x2 s.z2)) _)) (fmul (pN - 1) (fmul (fsub (fmul _ (fadd s.x2 s.z2)) _) (fsub (fmul _ (fadd s.x2 s.z2)) _))) = 0
      rw [a, fmul_zero, zero_fadd (fmul_lt _ _), neg_sq (fmul_lt _ _), neg_fmul]
    · show fmul (fmul (fadd s.x2 s.z2) _) _ = 0
      rw [a, zero_fmul, zero_fmul]
theorem low_end {N : Nat → Nat → Prop} {u k : Nat} (hu : u < pN) (hk : k.testBit 0 = false) (hk1 : k.testBit 1 = false) (h0 : N u 1)
    (hs : ∀ s, LtS s → Low N s → N (stepG fadd fsub fmul 121665 u s).x3 (stepG fadd fsub fmul 121665 u s).z3 ∧ ((stepG fadd fsub fmul 121665 u s).x2 = 0 ∨ (stepG fadd fsub fmul 121665 u s).z2 = 0)) : xN k u = 0 := by
  have key : ∀ n, Low N (ladG fadd fsub fmul 121665 1 0 u k n) := by
    intro n
    induction n with
    | zero => exact .inl ⟨.inr rfl, h0⟩
    | succ n ih =>
      have := hs _ (swap_lt (k.testBit (254 - n)) (lad_lt u k hu n)) (low_swap _ ih)
      exact low_swap _ (.inl ⟨this.2, this.1⟩)
  have e : ladG fadd fsub fmul 121665 1 0 u k 254 = stepG fadd fsub fmul 121665 u (swapS false (ladG fadd fsub fmul 121665 1 0 u k 253)) := by
    rw [ladG, hk1]; rfl
  have h := hs _ (swap_lt false (lad_lt u k hu 253)) (low_swap _ (key 253))
  rw [← e] at h
  have z : (ladG fadd fsub fmul 121665 1 0 u k 255).z2 = 0 := by
    rw [ladG, hk]
    exact step_z (lad_lt u k hu 254) h.2
  unfold xN outG
  rw [z, inv_zero, fmul_zero]
theorem x_zero (k : Nat) : xN k 0 = 0 := by
  unfold xN outG
  rw [(low0 k 254).1, inv_zero, fmul_zero]
theorem x_one {k : Nat} (hk : k.testBit 0 = false) (hk1 : k.testBit 1 = false) : xN k 1 = 0 := low_end (N := Eq) (by decide) hk hk1 rfl fun _ l h => low_step1 l h
theorem x_neg {k : Nat} (hk : k.testBit 0 = false) (hk1 : k.testBit 1 = false) : xN k (pN - 1) = 0 := low_end (N := fun x z => fadd x z = 0) (by decide) hk hk1 (by decide) fun _ l h => low_step2 l h

/-! the laws' plain part -/
theorem leN_set : ∀ (l : List (BitVec 8)) (i : Nat) (x : BitVec 8), i < l.length → leN (l.set i x) + (l.getD i 0#8).toNat * 256 ^ i = leN l + x.toNat * 256 ^ i
  | [], i, x, h => by simp at h
  | a :: l, 0, x, _ => by
    simp only [List.set_cons_zero, leN, List.getD_cons_zero, Nat.pow_zero, Nat.mul_one]; omega
  | a :: l, i + 1, x, h => by
    have ih := leN_set l i x (by simpa using h)
    simp only [List.set_cons_succ, leN, List.getD_cons_succ, Nat.pow_succ]
    have e1 : (l.getD i 0#8).toNat * (256 ^ i * 256) = 256 * ((l.getD i 0#8).toNat * 256 ^ i) := by rw [← Nat.mul_assoc, Nat.mul_comm]
    have e2 : x.toNat * (256 ^ i * 256) = 256 * (x.toNat * 256 ^ i) := by rw [← Nat.mul_assoc, Nat.mul_comm]
    rw [e1, e2]
    omega
theorem shX_congr {s t b c : List (BitVec 8)} (h1 : clampS s = clampS t) (h2 : uN b % pN = uN c % pN) : shX s b = shX t c := by
  unfold shX; rw [h1, h2]
theorem low_bits (x l : BitVec 8) : (x ^^^ (l % 8#8)) &&& ~~~7#8 = x &&& ~~~7#8 := by
  have e : ∀ l : BitVec 8, l % 8#8 = l &&& 7#8 := by decide +kernel
  rw [e]
  apply BitVec.eq_of_getLsbD_eq
  intro i hi
  simp only [BitVec.getLsbD_and, BitVec.getLsbD_xor, BitVec.getLsbD_not, hi, decide_true, Bool.true_and]
  cases (7#8).getLsbD i <;> simp
theorem top_bit : ∀ x : BitVec 8, (x ^^^ 128#8) &&& 63#8 = x &&& 63#8 := by decide +kernel
theorem top_nat : ∀ x : BitVec 8, (x ^^^ 128#8).toNat = x.toNat + 128 ∨ (x ^^^ 128#8).toNat + 128 = x.toNat := by decide +kernel
theorem gset {l : List (BitVec 8)} {i j : Nat} {x : BitVec 8} (hi : i < l.length) : (l.set i x).getD j 0#8 = if i = j then x else l.getD j 0#8 := by
  rw [List.getD_eq_getElem?_getD, List.getD_eq_getElem?_getD, List.getElem?_set]
  split
  · simp [hi]
  · rfl
theorem clamp_bits {s : List (BitVec 8)} (h : s.length = 32) (l : BitVec 8) : clampS ((s.set 0 (s.getD 0 0#8 ^^^ (l % 8#8))).set 31 ((s.set 0 (s.getD 0 0#8 ^^^ (l % 8#8))).getD 31 0#8 ^^^ 128#8)) = clampS s := by
  unfold clampS
  refine List.ext_getElem (by simp) fun j h1 h2 => ?_
  simp only [List.getElem_set, gset (show 0 < s.length by omega), gset (show 31 < (s.set 0 (s.getD 0 0#8 ^^^ (l % 8#8))).length by simp; omega), List.length_set]
  have g31 : ∀ (x y : BitVec 8), (((s.set 0 x).set 31 y).set 0 ((((s.set 0 x).set 31 y).getD 0 0#8) &&& ~~~7#8)).getD 31 0#8 = y := by
    intro x y
    rw [gset (by simp; omega), if_neg (by decide), gset (by simp; omega), if_pos rfl]
  have g0 : ∀ (x y : BitVec 8), ((s.set 0 x).set 31 y).getD 0 0#8 = x := by
    intro x y
    rw [gset (by simp; omega), if_neg (by decide), gset (by omega), if_pos rfl]
  by_cases j31 : 31 = j
  · subst j31
    simp [top_bit, gset, h, List.getElem_set]
  · by_cases j0 : 0 = j
    · subst j0
      simp [gset, h]
      exact low_bits _ _
    · simp [j31, j0]
theorem u_top {b : List (BitVec 8)} (h : b.length = 32) : uN (b.set 31 (b.getD 31 0#8 ^^^ 128#8)) = uN b := by
  have e := leN_set b 31 (b.getD 31 0#8 ^^^ 128#8) (by omega)
  rw [show (256 : Nat) ^ 31 = 452312848583266388373324160190187140051835877600158453279131187530910662656 from rfl] at e
  unfold uN
  rcases top_nat (b.getD 31 0#8) with t | t <;> omega
theorem bits_law {s b : List (BitVec 8)} (hs : s.length = 32) (hb : b.length = 32) (l : BitVec 8) :
    shX ((s.set 0 (s.getD 0 0#8 ^^^ (l % 8#8))).set 31 ((s.set 0 (s.getD 0 0#8 ^^^ (l % 8#8))).getD 31 0#8 ^^^ 128#8)) (b.set 31 (b.getD 31 0#8 ^^^ 128#8)) = shX s b :=
  shX_congr (clamp_bits hs l) (by rw [u_top hb])
def bigR (i : Nat) : List (BitVec 8) := (List.range 32).map fun j => if j = 31 then 127#8 else if 1 ≤ j ∧ j < i then 255#8 else 0#8
theorem bigR_len (i : Nat) : (bigR i).length = 32 := by simp [bigR]
theorem bigR_step {i : Nat} (h1 : 1 ≤ i) (h2 : i < 31) : (bigR i).set i 255#8 = bigR (i + 1) := by
  refine List.ext_getElem (by simp [bigR]) fun j h3 h4 => ?_
  rw [List.getElem_set]
  simp only [bigR, List.getElem_map, List.getElem_range]
  by_cases hj : i = j
  · subst hj
    rw [if_pos rfl, if_neg (by omega), if_pos (by omega)]
  · rw [if_neg hj]
    by_cases h5 : j = 31
    · rw [if_pos h5, if_pos h5]
    · rw [if_neg h5, if_neg h5]
      by_cases h6 : 1 ≤ j ∧ j < i
      · rw [if_pos h6, if_pos (by omega)]
      · rw [if_neg h6, if_neg (by omega)]
theorem rem19 : ∀ l : BitVec 8, (l % 19#8).toNat < 19 ∧ (237#8 + l % 19#8).toNat = 237 + (l % 19#8).toNat := by decide +kernel
theorem big_law (s : List (BitVec 8)) (l : BitVec 8) : shX s ((bigR 31).set 0 (237#8 + (l % 19#8))) = shX s ((l % 19#8) :: List.replicate 31 0#8) := by
  refine shX_congr rfl ?_
  obtain ⟨r1, r2⟩ := rem19 l
  have e := leN_set (bigR 31) 0 (237#8 + (l % 19#8)) (by simp [bigR])
  rw [show leN (bigR 31) = 57896044618658097711785492504343953926634992332820282019728792003956564819712 by decide +kernel, show (bigR 31).getD 0 0#8 = 0#8 by decide +kernel, r2] at e
  have e2 : leN ((l % 19#8) :: List.replicate 31 0#8) = (l % 19#8).toNat := by
    rw [leN, show leN (List.replicate 31 0#8) = 0 by decide +kernel]
    rfl
  unfold uN
  rw [e2, pN_eq]
  simp only [show (0#8).toNat = 0 from rfl] at e
  omega
theorem clamp_k {s : List (BitVec 8)} (h : s.length = 32) : leN (clampS s) % 4 = 0 := by
  have e : ∀ x : BitVec 8, (x &&& ~~~7#8).toNat % 4 = 0 := by decide +kernel
  match s, h with
  | a :: t, h =>
    have : clampS (a :: t) = (a &&& ~~~7#8) :: (clampS (a :: t)).tail := by
      simp [clampS]
    rw [this, leN]
    have := e a
    omega
theorem clamp_bit {s : List (BitVec 8)} (h : s.length = 32) : (leN (clampS s)).testBit 0 = false ∧ (leN (clampS s)).testBit 1 = false := by
  have := clamp_k h
  constructor
  · rw [Nat.testBit_eq_decide_div_mod_eq]; simp; omega
  · rw [Nat.testBit_eq_decide_div_mod_eq]; simp; omega
def lowR (i : Nat) : List (BitVec 8) := (List.range 96).map fun j => if j = 32 then 1#8 else if j = 64 then 236#8 else if j = 95 then 127#8 else if 65 ≤ j ∧ j < 64 + i then 255#8 else 0#8
theorem lowR_len (i : Nat) : (lowR i).length = 96 := by simp [lowR]
theorem lowR_step {i : Nat} (h1 : 1 ≤ i) (h2 : i < 31) : (lowR i).set (64 + i * 1) 255#8 = lowR (i + 1) := by
  refine List.ext_getElem (by simp [lowR]) fun j h3 h4 => ?_
  rw [List.getElem_set]
  simp only [lowR, List.getElem_map, List.getElem_range]
  by_cases hj : 64 + i * 1 = j
  · rw [if_pos hj, if_neg (by omega), if_neg (by omega), if_neg (by omega), if_pos (by omega)]
  · rw [if_neg hj]
    by_cases a : j = 32
    · rw [if_pos a, if_pos a]
    rw [if_neg a, if_neg a]
    by_cases a : j = 64
    · rw [if_pos a, if_pos a]
    rw [if_neg a, if_neg a]
    by_cases a : j = 95
    · rw [if_pos a, if_pos a]
    rw [if_neg a, if_neg a]
    by_cases h6 : 65 ≤ j ∧ j < 64 + i
    · rw [if_pos h6, if_pos (by omega)]
    · rw [if_neg h6, if_neg (by omega)]
theorem low_law {s : List (BitVec 8)} (h : s.length = 32) {k : Nat} (hk : k < 3) : shX s (((lowR 31).drop (0 + k * 32)).take 32) = List.replicate 32 0#8 := by
  obtain ⟨t0, t1⟩ := clamp_bit h
  have x0 := x_zero (leN (clampS s)); have x1 := x_one t0 t1; have x2 := x_neg t0 t1
  have p : packN 0 = List.replicate 32 0#8 := by decide +kernel
  have hk : k = 0 ∨ k = 1 ∨ k = 2 := by omega
  unfold shX
  rcases hk with rfl | rfl | rfl
  · rw [show uN (((lowR 31).drop (0 + 0 * 32)).take 32) % pN = 0 by decide +kernel, x0, p]
  · rw [show uN (((lowR 31).drop (0 + 1 * 32)).take 32) % pN = 1 by decide +kernel, x1, p]
  · rw [show uN (((lowR 31).drop (0 + 2 * 32)).take 32) % pN = pN - 1 by decide +kernel, x2, p]

theorem known_sh : shX [119#8, 7#8, 109#8, 10#8, 115#8, 24#8, 165#8, 125#8, 60#8, 22#8, 193#8, 114#8, 81#8, 178#8, 102#8, 69#8, 223#8, 76#8, 47#8, 135#8, 235#8, 192#8, 153#8, 42#8, 177#8, 119#8, 251#8, 165#8, 29#8, 185#8, 44#8, 42#8] (9#8 :: List.replicate 31 0#8) = [133#8, 32#8, 240#8, 9#8, 137#8, 48#8, 167#8, 84#8, 116#8, 139#8, 125#8, 220#8, 180#8, 62#8, 247#8, 90#8, 13#8, 191#8, 58#8, 13#8, 38#8, 56#8, 26#8, 244#8, 235#8, 164#8, 169#8, 142#8, 170#8, 155#8, 78#8, 106#8] := by decide +kernel

theorem bigR_one : bigR 1 = [0#8, 0#8, 0#8, 0#8, 0#8, 0#8, 0#8, 0#8, 0#8, 0#8, 0#8, 0#8, 0#8, 0#8, 0#8, 0#8, 0#8, 0#8, 0#8, 0#8, 0#8, 0#8, 0#8, 0#8, 0#8, 0#8, 0#8, 0#8, 0#8, 0#8, 0#8, 127#8] := by decide +kernel
theorem lowR_one : lowR 1 = splice [0#8, 0#8, 0#8, 0#8, 0#8, 0#8, 0#8, 0#8, 0#8, 0#8, 0#8, 0#8, 0#8, 0#8, 0#8, 0#8, 0#8, 0#8, 0#8, 0#8, 0#8, 0#8, 0#8, 0#8, 0#8, 0#8, 0#8, 0#8, 0#8, 0#8, 0#8, 0#8, 1#8, 0#8, 0#8, 0#8, 0#8, 0#8, 0#8, 0#8, 0#8, 0#8, 0#8, 0#8, 0#8, 0#8, 0#8, 0#8, 0#8, 0#8, 0#8, 0#8, 0#8, 0#8, 0#8, 0#8, 0#8, 0#8, 0#8, 0#8, 0#8, 0#8, 0#8, 0#8, 0#8, 0#8, 0#8, 0#8, 0#8, 0#8, 0#8, 0#8, 0#8, 0#8, 0#8, 0#8, 0#8, 0#8, 0#8, 0#8, 0#8, 0#8, 0#8, 0#8, 0#8, 0#8, 0#8, 0#8, 0#8, 0#8, 0#8, 0#8, 0#8, 0#8, 0#8, 0#8] 64 [236#8, 0#8, 0#8, 0#8, 0#8, 0#8, 0#8, 0#8, 0#8, 0#8, 0#8, 0#8, 0#8, 0#8, 0#8, 0#8, 0#8, 0#8, 0#8, 0#8, 0#8, 0#8, 0#8, 0#8, 0#8, 0#8, 0#8, 0#8, 0#8, 0#8, 0#8, 127#8] := by decide +kernel

attribute [local irreducible] shX bigR lowR

set_option maxHeartbeats 2000000 in
theorem c_shares   :
    Con Try.prog 10 [] [] (fun v rs => v = .bool true ∧ rs = []) := by
  refine Con.enter Try.func10 Try.ntmps10 (Nat.le_of_ble_eq_true rfl) rfl fun w => ?_
  refine At.seq ?_
  refine At.region ?_
  refine At.p (some 0) (P_assign rfl rfl) ?_
  refine At.nil ?_
  refine At.next ?_
  refine At.seq ?_
  refine At.region ?_
  refine At.p (some 3) (P_build_arr (cs := (([119#8, 7#8, 109#8, 10#8, 115#8, 24#8, 165#8, 125#8, 60#8, 22#8, 193#8, 114#8, 81#8, 178#8, 102#8, 69#8, 223#8, 76#8, 47#8, 135#8, 235#8, 192#8, 153#8, 42#8, 177#8, 119#8, 251#8, 165#8, 29#8, 185#8, 44#8, 42#8]).map u8V).toArray) (parts := _) (vs := [(0, _), (1, _), (2, _), (3, _), (4, _), (5, _), (6, _), (7, _), (8, _), (9, _), (10, _), (11, _), (12, _), (13, _), (14, _), (15, _), (16, _), (17, _), (18, _), (19, _), (20, _), (21, _), (22, _), (23, _), (24, _), (25, _), (26, _), (27, _), (28, _), (29, _), (30, _), (31, _)]) rfl Try.underlying22 sz5 ze22 rfl rfl) ?_
  refine At.s (S_alloc (some 1) 1 (zs := (List.replicate 32 0#8).map u8V) rfl ze22 rfl (fun b1 => ?_))
  refine At.s (S_storeA none (k := 1) (vs := ([119#8, 7#8, 109#8, 10#8, 115#8, 24#8, 165#8, 125#8, 60#8, 22#8, 193#8, 114#8, 81#8, 178#8, 102#8, 69#8, 223#8, 76#8, 47#8, 135#8, 235#8, 192#8, 153#8, 42#8, 177#8, 119#8, 251#8, 165#8, 29#8, 185#8, 44#8, 42#8]).map u8V) rfl rfl rfl (by rw [sz22]; exact congrArg some LN) rfl (one_map (fun _ => rfl)) NG rfl LN ?_)
  refine At.nil ?_
  refine At.next ?_
  refine At.seq ?_
  refine At.region ?_
  refine At.q (some 4) (Q_loadA (k := 1) rfl rfl Try.underlying22 rfl sz22 LN rfl) ?_
  refine At.s (S_callV (some 5) [] [] (vs := [_]) rfl en11 rfl V0 (by simp) (c_Public (secret := [119#8, 7#8, 109#8, 10#8, 115#8, 24#8, 165#8, 125#8, 60#8, 22#8, 193#8, 114#8, 81#8, 178#8, 102#8, 69#8, 223#8, 76#8, 47#8, 135#8, 235#8, 192#8, 153#8, 42#8, 177#8, 119#8, 251#8, 165#8, 29#8, 185#8, 44#8, 42#8]) LN) (by rintro _ _ ⟨rfl, rfl⟩; rfl) ?_)
  rintro _ _ ⟨rfl, rfl⟩
  have := shX_len [119#8, 7#8, 109#8, 10#8, 115#8, 24#8, 165#8, 125#8, 60#8, 22#8, 193#8, 114#8, 81#8, 178#8, 102#8, 69#8, 223#8, 76#8, 47#8, 135#8, 235#8, 192#8, 153#8, 42#8, 177#8, 119#8, 251#8, 165#8, 29#8, 185#8, 44#8, 42#8] (9#8 :: List.replicate 31 0#8)
  simp only [known_sh]
  refine At.s (S_alloc (some 2) 2 (zs := (List.replicate 32 0#8).map u8V) rfl ze22 rfl (fun b2 => ?_))
  refine At.s (S_storeA none (k := 2) (vs := ([133#8, 32#8, 240#8, 9#8, 137#8, 48#8, 167#8, 84#8, 116#8, 139#8, 125#8, 220#8, 180#8, 62#8, 247#8, 90#8, 13#8, 191#8, 58#8, 13#8, 38#8, 56#8, 26#8, 244#8, 235#8, 164#8, 169#8, 142#8, 170#8, 155#8, 78#8, 106#8]).map u8V) rfl rfl rfl (by rw [sz22]; exact congrArg some LN) rfl (one_map (fun _ => rfl)) NG rfl LN ?_)
  refine At.nil ?_
  refine At.next ?_
  refine At.seq ?_
  refine At.region ?_
  refine At.p (some 6) (P_indexAddr_arr1 (j := 0) rfl Try.underlying22 sz5 rfl rfl rfl (by decide)) ?_
  refine At.q (some 7) (Q_loadM (k := 2) (f := u8V) (l := [133#8, 32#8, 240#8, 9#8, 137#8, 48#8, 167#8, 84#8, 116#8, 139#8, 125#8, 220#8, 180#8, 62#8, 247#8, 90#8, 13#8, 191#8, 58#8, 13#8, 38#8, 56#8, 26#8, 244#8, 235#8, 164#8, 169#8, 142#8, 170#8, 155#8, 78#8, 106#8]) (0#8) rfl rfl Try.underlying5 rfl rfl OG) ?_
  refine At.p (some 8) (P_eql_w (n := 8) (b := 133#8) rfl rfl rfl) ?_
  refine At.p (some 9) (P_move rfl rfl) ?_
  refine At.gy (t := 9) rfl (by decide) rfl rfl ?_
  refine At.p (some 10) (P_indexAddr_arr1 (j := 1) rfl Try.underlying22 sz5 rfl rfl rfl (by decide)) ?_
  refine At.gy (t := 9) rfl (by decide) rfl rfl ?_
  refine At.q (some 11) (Q_loadM (k := 2) (f := u8V) (l := [133#8, 32#8, 240#8, 9#8, 137#8, 48#8, 167#8, 84#8, 116#8, 139#8, 125#8, 220#8, 180#8, 62#8, 247#8, 90#8, 13#8, 191#8, 58#8, 13#8, 38#8, 56#8, 26#8, 244#8, 235#8, 164#8, 169#8, 142#8, 170#8, 155#8, 78#8, 106#8]) (0#8) rfl rfl Try.underlying5 rfl rfl OG) ?_
  refine At.gy (t := 9) rfl (by decide) rfl rfl ?_
  refine At.p (some 12) (P_eql_w (n := 8) (b := 32#8) rfl rfl rfl) ?_
  refine At.p (some 13) (P_pick_t rfl rfl (by decide) rfl) ?_
  refine At.p (some 14) (P_move rfl rfl) ?_
  refine At.gy (t := 14) rfl (by decide) rfl rfl ?_
  refine At.p (some 15) (P_indexAddr_arr1 (j := 2) rfl Try.underlying22 sz5 rfl rfl rfl (by decide)) ?_
  refine At.gy (t := 14) rfl (by decide) rfl rfl ?_
  refine At.q (some 16) (Q_loadM (k := 2) (f := u8V) (l := [133#8, 32#8, 240#8, 9#8, 137#8, 48#8, 167#8, 84#8, 116#8, 139#8, 125#8, 220#8, 180#8, 62#8, 247#8, 90#8, 13#8, 191#8, 58#8, 13#8, 38#8, 56#8, 26#8, 244#8, 235#8, 164#8, 169#8, 142#8, 170#8, 155#8, 78#8, 106#8]) (0#8) rfl rfl Try.underlying5 rfl rfl OG) ?_
  refine At.gy (t := 14) rfl (by decide) rfl rfl ?_
  refine At.p (some 17) (P_eql_w (n := 8) (b := 240#8) rfl rfl rfl) ?_
  refine At.p (some 18) (P_pick_t rfl rfl (by decide) rfl) ?_
  refine At.p (some 19) (P_move rfl rfl) ?_
  refine At.gy (t := 19) rfl (by decide) rfl rfl ?_
  refine At.p (some 20) (P_indexAddr_arr1 (j := 3) rfl Try.underlying22 sz5 rfl rfl rfl (by decide)) ?_
  refine At.gy (t := 19) rfl (by decide) rfl rfl ?_
  refine At.q (some 21) (Q_loadM (k := 2) (f := u8V) (l := [133#8, 32#8, 240#8, 9#8, 137#8, 48#8, 167#8, 84#8, 116#8, 139#8, 125#8, 220#8, 180#8, 62#8, 247#8, 90#8, 13#8, 191#8, 58#8, 13#8, 38#8, 56#8, 26#8, 244#8, 235#8, 164#8, 169#8, 142#8, 170#8, 155#8, 78#8, 106#8]) (0#8) rfl rfl Try.underlying5 rfl rfl OG) ?_
  refine At.gy (t := 19) rfl (by decide) rfl rfl ?_
  refine At.p (some 22) (P_eql_w (n := 8) (b := 9#8) rfl rfl rfl) ?_
  refine At.p (some 23) (P_pick_t rfl rfl (by decide) rfl) ?_
  refine At.p (some 0) (P_assign rfl rfl) ?_
  refine At.nil ?_
  refine At.next ?_
  refine At.ret ?_
  have hq0 : (([133#8, 32#8, 240#8, 9#8, 137#8, 48#8, 167#8, 84#8, 116#8, 139#8, 125#8, 220#8, 180#8, 62#8, 247#8, 90#8, 13#8, 191#8, 58#8, 13#8, 38#8, 56#8, 26#8, 244#8, 235#8, 164#8, 169#8, 142#8, 170#8, 155#8, 78#8, 106#8].getD 3 0#8) == (9#8)) = true := (by decide)
  refine At.give (.inl rfl) [] (rows' := []) (vs := [_]) rfl ⟨rfl, trivial⟩ rfl (by simp) (by simp) ⟨(by first | (rw [hq0]; try rfl; done) | (rw [← hq0]; try rfl; done) | (simp only [hq0]; try rfl; done) | (simp only [← hq0]; try rfl; done) | rfl), (by first | (rw [hq0]; try rfl; done) | (rw [← hq0]; try rfl; done) | (simp only [hq0]; try rfl; done) | (simp only [← hq0]; try rfl; done) | rfl)⟩

set_option maxHeartbeats 2000000 in
theorem l_Bits {secret : List (BitVec 8)} {pub : List (BitVec 8)} {low : BitVec 8} (hsecret : secret.length = 32) (hpub : pub.length = 32) :
    Con Try.prog 5 [aggK secret, aggK pub, u8V low] [] (fun v rs => v = .bool true ∧ rs = []) := by
  refine Con.enter Try.func5 Try.ntmps5 (Nat.le_of_ble_eq_true rfl) rfl fun w => ?_
  refine At.seq ?_
  refine At.region ?_
  refine At.s (S_box (some 3) 3 (zs := (secret).map u8V) rfl rfl rfl (fun b3 => ?_))
  refine At.s (S_box (some 4) 4 (zs := (pub).map u8V) rfl rfl rfl (fun b4 => ?_))
  refine At.p (some 6) (P_assign rfl rfl) ?_
  refine At.nil ?_
  refine At.next ?_
  refine At.seq ?_
  refine At.region ?_
  refine At.q (some 20) (Q_loadA (k := 3) rfl rfl Try.underlying22 rfl sz22 LN rfl) ?_
  refine At.s (S_alloc (some 7) 7 (zs := (List.replicate 32 0#8).map u8V) rfl ze22 rfl (fun b7 => ?_))
  refine At.s (S_storeA none (k := 7) (vs := (secret).map u8V) rfl rfl rfl (by rw [sz22]; exact congrArg some LN) rfl (one_map (fun _ => rfl)) NG rfl LN ?_)
  refine At.nil ?_
  refine At.next ?_
  refine At.seq ?_
  refine At.region ?_
  refine At.p (some 21) (P_indexAddr_arr1 (j := 0) rfl Try.underlying22 sz5 rfl rfl rfl (by decide)) ?_
  refine At.q (some 22) (Q_loadM (k := 7) (f := u8V) (l := secret) (0#8) rfl rfl Try.underlying5 rfl rfl OG) ?_
  refine At.p (some 23) (P_move rfl rfl) ?_
  refine At.p (some 24) (P_rem_w UK.u8 (b := 8#8) rfl rfl rfl (by decide)) ?_
  refine At.p (some 25) (P_xor_w UK.u8 rfl rfl rfl) ?_
  refine At.p (some 26) (P_indexAddr_arr1 (j := 0) rfl Try.underlying22 sz5 rfl rfl rfl (by decide)) ?_
  refine At.s (S_storeM none (f := u8V) (l := secret) (u := ((secret.getD 0 0#8) ^^^ (low % 8#8))) (k := 7) rfl rfl rfl sz5 rfl rfl rfl OG ?_)
  refine At.nil ?_
  refine At.next ?_
  refine At.seq ?_
  refine At.region ?_
  refine At.p (some 27) (P_indexAddr_arr1 (j := 31) rfl Try.underlying22 sz5 rfl rfl rfl (by decide)) ?_
  refine At.q (some 28) (Q_loadM (k := 7) (f := u8V) (l := (secret.set 0 ((secret.getD 0 0#8) ^^^ (low % 8#8)))) (0#8) rfl rfl Try.underlying5 rfl rfl OG) ?_
  refine At.p (some 29) (P_xor_w UK.u8 (b := 128#8) rfl rfl rfl) ?_
  refine At.p (some 30) (P_indexAddr_arr1 (j := 31) rfl Try.underlying22 sz5 rfl rfl rfl (by decide)) ?_
  refine At.s (S_storeM none (f := u8V) (l := (secret.set 0 ((secret.getD 0 0#8) ^^^ (low % 8#8)))) (u := (((secret.set 0 ((secret.getD 0 0#8) ^^^ (low % 8#8))).getD 31 0#8) ^^^ 128#8)) (k := 7) rfl rfl rfl sz5 rfl rfl rfl OG ?_)
  refine At.nil ?_
  refine At.next ?_
  refine At.seq ?_
  refine At.region ?_
  refine At.q (some 31) (Q_loadA (k := 4) rfl rfl Try.underlying22 rfl sz22 LN rfl) ?_
  refine At.s (S_alloc (some 8) 8 (zs := (List.replicate 32 0#8).map u8V) rfl ze22 rfl (fun b8 => ?_))
  refine At.s (S_storeA none (k := 8) (vs := (pub).map u8V) rfl rfl rfl (by rw [sz22]; exact congrArg some LN) rfl (one_map (fun _ => rfl)) NG rfl LN ?_)
  refine At.nil ?_
  refine At.next ?_
  refine At.seq ?_
  refine At.region ?_
  refine At.p (some 32) (P_indexAddr_arr1 (j := 31) rfl Try.underlying22 sz5 rfl rfl rfl (by decide)) ?_
  refine At.q (some 33) (Q_loadM (k := 8) (f := u8V) (l := pub) (0#8) rfl rfl Try.underlying5 rfl rfl OG) ?_
  refine At.p (some 34) (P_xor_w UK.u8 (b := 128#8) rfl rfl rfl) ?_
  refine At.p (some 35) (P_indexAddr_arr1 (j := 31) rfl Try.underlying22 sz5 rfl rfl rfl (by decide)) ?_
  refine At.s (S_storeM none (f := u8V) (l := pub) (u := ((pub.getD 31 0#8) ^^^ 128#8)) (k := 8) rfl rfl rfl sz5 rfl rfl rfl OG ?_)
  refine At.nil ?_
  refine At.next ?_
  refine At.seq ?_
  refine At.region ?_
  refine At.q (some 37) (Q_loadA (k := 3) rfl rfl Try.underlying22 rfl sz22 LN rfl) ?_
  refine At.q (some 38) (Q_loadA (k := 4) rfl rfl Try.underlying22 rfl sz22 LN rfl) ?_
  refine At.s (S_callV (some 39) [] [] (vs := [_, _]) rfl en8 rfl V0 (by simp) (c_Shared (secret := secret) (pub := pub) LN LN) (by rintro _ _ ⟨rfl, rfl⟩; rfl) ?_)
  rintro _ _ ⟨rfl, rfl⟩
  have := shX_len secret pub
  refine At.p (some 36) (P_move rfl rfl) ?_
  refine At.p (some 40) (P_extract rfl rfl rfl) ?_
  refine At.p (some 41) (P_extract rfl rfl rfl) ?_
  refine At.s (S_alloc (some 9) 9 (zs := (List.replicate 32 0#8).map u8V) rfl ze22 rfl (fun b9 => ?_))
  refine At.s (S_storeA none (k := 9) (vs := (shX secret pub).map u8V) rfl rfl rfl (by rw [sz22]; exact congrArg some LN) rfl (one_map (fun _ => rfl)) NG rfl LN ?_)
  refine At.p (some 10) (P_assign rfl rfl) ?_
  refine At.nil ?_
  refine At.next ?_
  refine At.seq ?_
  refine At.region ?_
  refine At.q (some 43) (Q_loadA (k := 7) rfl rfl Try.underlying22 rfl sz22 LN rfl) ?_
  refine At.q (some 44) (Q_loadA (k := 8) rfl rfl Try.underlying22 rfl sz22 LN rfl) ?_
  refine At.s (S_callV (some 45) [] [] (vs := [_, _]) rfl en8 rfl V0 (by simp) (c_Shared (secret := ((secret.set 0 ((secret.getD 0 0#8) ^^^ (low % 8#8))).set 31 (((secret.set 0 ((secret.getD 0 0#8) ^^^ (low % 8#8))).getD 31 0#8) ^^^ 128#8))) (pub := (pub.set 31 ((pub.getD 31 0#8) ^^^ 128#8))) LN LN) (by rintro _ _ ⟨rfl, rfl⟩; rfl) ?_)
  rintro _ _ ⟨rfl, rfl⟩
  have := shX_len ((secret.set 0 ((secret.getD 0 0#8) ^^^ (low % 8#8))).set 31 (((secret.set 0 ((secret.getD 0 0#8) ^^^ (low % 8#8))).getD 31 0#8) ^^^ 128#8)) (pub.set 31 ((pub.getD 31 0#8) ^^^ 128#8))
  refine At.p (some 42) (P_move rfl rfl) ?_
  refine At.p (some 46) (P_extract rfl rfl rfl) ?_
  refine At.p (some 47) (P_extract rfl rfl rfl) ?_
  refine At.s (S_alloc (some 11) 11 (zs := (List.replicate 32 0#8).map u8V) rfl ze22 rfl (fun b11 => ?_))
  refine At.s (S_storeA none (k := 11) (vs := (shX ((secret.set 0 ((secret.getD 0 0#8) ^^^ (low % 8#8))).set 31 (((secret.set 0 ((secret.getD 0 0#8) ^^^ (low % 8#8))).getD 31 0#8) ^^^ 128#8)) (pub.set 31 ((pub.getD 31 0#8) ^^^ 128#8))).map u8V) rfl rfl rfl (by rw [sz22]; exact congrArg some LN) rfl (one_map (fun _ => rfl)) NG rfl LN ?_)
  refine At.p (some 12) (P_assign rfl rfl) ?_
  refine At.nil ?_
  refine At.next ?_
  refine At.seq ?_
  refine At.region ?_
  refine At.p (some 48) (P_build_arr (cs := (([0#8, 0#8, 0#8, 0#8, 0#8, 0#8, 0#8, 0#8, 0#8, 0#8, 0#8, 0#8, 0#8, 0#8, 0#8, 0#8, 0#8, 0#8, 0#8, 0#8, 0#8, 0#8, 0#8, 0#8, 0#8, 0#8, 0#8, 0#8, 0#8, 0#8, 0#8, 127#8]).map u8V).toArray) (parts := _) (vs := [(31, _)]) rfl Try.underlying22 sz5 ze22 rfl rfl) ?_
  refine At.s (S_alloc (some 13) 13 (zs := (List.replicate 32 0#8).map u8V) rfl ze22 rfl (fun b13 => ?_))
  refine At.s (S_storeA none (k := 13) (vs := ([0#8, 0#8, 0#8, 0#8, 0#8, 0#8, 0#8, 0#8, 0#8, 0#8, 0#8, 0#8, 0#8, 0#8, 0#8, 0#8, 0#8, 0#8, 0#8, 0#8, 0#8, 0#8, 0#8, 0#8, 0#8, 0#8, 0#8, 0#8, 0#8, 0#8, 0#8, 127#8]).map u8V) rfl rfl rfl (by rw [sz22]; exact congrArg some LN) rfl (one_map (fun _ => rfl)) NG rfl LN ?_)
  refine At.nil ?_
  refine At.next ?_
  refine At.seq ?_
  refine At.seq ?_
  refine At.region ?_
  refine At.p (some 14) (P_assign rfl rfl) ?_
  refine At.nil ?_
  refine At.next ?_
  refine At.block ?_
  refine At.loopx (I := fun m fr H => ∃ (i : Nat), m = 31 - i ∧ fr = frOf [(0, aggK secret), (1, aggK pub), (2, u8V low), (3, ptr b3 0), (4, ptr b4 0), (6, .bool false), (7, ptr b7 0), (8, ptr b8 0), (9, ptr b9 0), (10, .bool (shX secret pub != List.replicate 32 0#8)), (11, ptr b11 0), (12, .bool (shX ((secret.set 0 ((secret.getD 0 0#8) ^^^ (low % 8#8))).set 31 (((secret.set 0 ((secret.getD 0 0#8) ^^^ (low % 8#8))).getD 31 0#8) ^^^ 128#8)) (pub.set 31 ((pub.getD 31 0#8) ^^^ 128#8)) != List.replicate 32 0#8)), (13, ptr b13 0), (14, iV (i : Int)), (20, aggK secret), (21, ptr b7 0), (22, u8V (secret.getD 0 0#8)), (23, u8V low), (24, u8V (low % 8#8)), (25, u8V ((secret.getD 0 0#8) ^^^ (low % 8#8))), (26, ptr b7 0), (27, ptr b7 31), (28, u8V ((secret.set 0 ((secret.getD 0 0#8) ^^^ (low % 8#8))).getD 31 0#8)), (29, u8V (((secret.set 0 ((secret.getD 0 0#8) ^^^ (low % 8#8))).getD 31 0#8) ^^^ 128#8)), (30, ptr b7 31), (31, aggK pub), (32, ptr b8 31), (33, u8V (pub.getD 31 0#8)), (34, u8V ((pub.getD 31 0#8) ^^^ 128#8)), (35, ptr b8 31), (36, .tuple #[aggK (shX secret pub), .bool (shX secret pub != List.replicate 32 0#8)]), (37, aggK secret), (38, aggK pub), (39, .tuple #[aggK (shX secret pub), .bool (shX secret pub != List.replicate 32 0#8)]), (40, aggK (shX secret pub)), (41, .bool (shX secret pub != List.replicate 32 0#8)), (42, .tuple #[aggK (shX ((secret.set 0 ((secret.getD 0 0#8) ^^^ (low % 8#8))).set 31 (((secret.set 0 ((secret.getD 0 0#8) ^^^ (low % 8#8))).getD 31 0#8) ^^^ 128#8)) (pub.set 31 ((pub.getD 31 0#8) ^^^ 128#8))), .bool (shX ((secret.set 0 ((secret.getD 0 0#8) ^^^ (low % 8#8))).set 31 (((secret.set 0 ((secret.getD 0 0#8) ^^^ (low % 8#8))).getD 31 0#8) ^^^ 128#8)) (pub.set 31 ((pub.getD 31 0#8) ^^^ 128#8)) != List.replicate 32 0#8)]), (43, aggK ((secret.set 0 ((secret.getD 0 0#8) ^^^ (low % 8#8))).set 31 (((secret.set 0 ((secret.getD 0 0#8) ^^^ (low % 8#8))).getD 31 0#8) ^^^ 128#8))), (44, aggK (pub.set 31 ((pub.getD 31 0#8) ^^^ 128#8))), (45, .tuple #[aggK (shX ((secret.set 0 ((secret.getD 0 0#8) ^^^ (low % 8#8))).set 31 (((secret.set 0 ((secret.getD 0 0#8) ^^^ (low % 8#8))).getD 31 0#8) ^^^ 128#8)) (pub.set 31 ((pub.getD 31 0#8) ^^^ 128#8))), .bool (shX ((secret.set 0 ((secret.getD 0 0#8) ^^^ (low % 8#8))).set 31 (((secret.set 0 ((secret.getD 0 0#8) ^^^ (low % 8#8))).getD 31 0#8) ^^^ 128#8)) (pub.set 31 ((pub.getD 31 0#8) ^^^ 128#8)) != List.replicate 32 0#8)]), (46, aggK (shX ((secret.set 0 ((secret.getD 0 0#8) ^^^ (low % 8#8))).set 31 (((secret.set 0 ((secret.getD 0 0#8) ^^^ (low % 8#8))).getD 31 0#8) ^^^ 128#8)) (pub.set 31 ((pub.getD 31 0#8) ^^^ 128#8)))), (47, .bool (shX ((secret.set 0 ((secret.getD 0 0#8) ^^^ (low % 8#8))).set 31 (((secret.set 0 ((secret.getD 0 0#8) ^^^ (low % 8#8))).getD 31 0#8) ^^^ 128#8)) (pub.set 31 ((pub.getD 31 0#8) ^^^ 128#8)) != List.replicate 32 0#8)), (48, aggK [0#8, 0#8, 0#8, 0#8, 0#8, 0#8, 0#8, 0#8, 0#8, 0#8, 0#8, 0#8, 0#8, 0#8, 0#8, 0#8, 0#8, 0#8, 0#8, 0#8, 0#8, 0#8, 0#8, 0#8, 0#8, 0#8, 0#8, 0#8, 0#8, 0#8, 0#8, 127#8])] ∧ H = hOf [(3, ⟨true, b3, 0, 22, (secret).map u8V, 0⟩), (4, ⟨true, b4, 0, 22, (pub).map u8V, 0⟩), (7, ⟨true, b7, 0, 22, (((secret.set 0 ((secret.getD 0 0#8) ^^^ (low % 8#8))).set 31 (((secret.set 0 ((secret.getD 0 0#8) ^^^ (low % 8#8))).getD 31 0#8) ^^^ 128#8))).map u8V, 0⟩), (8, ⟨true, b8, 0, 22, ((pub.set 31 ((pub.getD 31 0#8) ^^^ 128#8))).map u8V, 0⟩), (9, ⟨true, b9, 0, 22, (shX secret pub).map u8V, 0⟩), (11, ⟨true, b11, 0, 22, (shX ((secret.set 0 ((secret.getD 0 0#8) ^^^ (low % 8#8))).set 31 (((secret.set 0 ((secret.getD 0 0#8) ^^^ (low % 8#8))).getD 31 0#8) ^^^ 128#8)) (pub.set 31 ((pub.getD 31 0#8) ^^^ 128#8))).map u8V, 0⟩), (13, ⟨true, b13, 0, 22, ((bigR i)).map u8V, 0⟩)] ∧ (1 ≤ i ∧ i ≤ 31)) ?_ ?_
  · intro Kc0 hKc0
    refine At.to [(0, _), (1, _), (2, _), (3, _), (4, _), (6, _), (7, _), (8, _), (9, _), (10, _), (11, _), (12, _), (13, _), (14, _), (20, _), (21, _), (22, _), (23, _), (24, _), (25, _), (26, _), (27, _), (28, _), (29, _), (30, _), (31, _), (32, _), (33, _), (34, _), (35, _), (36, _), (37, _), (38, _), (39, _), (40, _), (41, _), (42, _), (43, _), (44, _), (45, _), (46, _), (47, _), (48, _)] [(3, _), (4, _), (7, _), (8, _), (9, _), (11, _), (13, ⟨true, b13, 0, 22, ((bigR 1)).map u8V, 0⟩)] (AllL.cons_ (rfl) (AllL.cons_ (rfl) (AllL.cons_ (rfl) (AllL.cons_ (rfl) (AllL.cons_ (rfl) (AllL.cons_ (rfl) (AllL.cons_ (rfl) (AllL.cons_ (rfl) (AllL.cons_ (rfl) (AllL.cons_ (rfl) (AllL.cons_ (rfl) (AllL.cons_ (rfl) (AllL.cons_ (rfl) (AllL.cons_ (rfl) (AllL.cons_ (rfl) (AllL.cons_ (rfl) (AllL.cons_ (rfl) (AllL.cons_ (rfl) (AllL.cons_ (rfl) (AllL.cons_ (rfl) (AllL.cons_ (rfl) (AllL.cons_ (rfl) (AllL.cons_ (rfl) (AllL.cons_ (rfl) (AllL.cons_ (rfl) (AllL.cons_ (rfl) (AllL.cons_ (rfl) (AllL.cons_ (rfl) (AllL.cons_ (rfl) (AllL.cons_ (rfl) (AllL.cons_ (rfl) (AllL.cons_ (rfl) (AllL.cons_ (rfl) (AllL.cons_ (rfl) (AllL.cons_ (rfl) (AllL.cons_ (rfl) (AllL.cons_ (rfl) (AllL.cons_ (rfl) (AllL.cons_ (rfl) (AllL.cons_ (rfl) (AllL.cons_ (rfl) (AllL.cons_ (rfl) (AllL.cons_ (rfl) trivial))))))))))))))))))))))))))))))))))))))))))) (AllL.cons_ (rfl) (AllL.cons_ (rfl) (AllL.cons_ (rfl) (AllL.cons_ (rfl) (AllL.cons_ (rfl) (AllL.cons_ (rfl) (AllL.cons_ ((by rw [bigR_one]; rfl)) trivial))))))) ?_
    exact hKc0 _ _ _ ⟨1, rfl, rfl, rfl, (by omega)⟩
  · rintro m fr H ⟨i, rfl, rfl, rfl, hi⟩ Kc0 hKc0
    have hbl := bigR_len i
    refine At.seq ?_
    refine At.seq ?_
    refine At.region ?_
    refine At.p (some 49) (P_move rfl rfl) ?_
    refine At.p (some 50) (P_cmp rfl rfl rfl rfl rfl rfl) ?_
    refine At.nil ?_
    refine At.next ?_
    refine At.cond rfl (fun h50 => ?_) (fun h50 => ?_)
    · -- cond 50 t
      have e50 : (i : Int) < 31 := of_decide_eq_true h50
      refine At.skip ?_
      refine At.next ?_
      refine At.seq ?_
      refine At.block ?_
      refine At.region ?_
      refine At.p (some 53) (P_move rfl rfl) ?_
      refine At.p (some 54) (P_indexAddr_arr1 (j := i) rfl Try.underlying22 sz5 rfl rfl RO OG) ?_
      refine At.s (S_storeM none (f := u8V) (l := (bigR i)) (u := (255#8)) (k := 13) rfl rfl rfl sz5 rfl rfl rfl OG ?_)
      refine At.nil ?_
      refine At.inb_n ?_
      refine At.next ?_
      refine At.region ?_
      refine At.p (some 51) (P_move rfl rfl) ?_
      refine At.p (some 52) (P_add_i rfl rfl rfl (by omega)) ?_
      refine At.p (some 14) (P_assign rfl rfl) ?_
      refine At.nil ?_
      refine At.next ?_
      refine At.to [(0, _), (1, _), (2, _), (3, _), (4, _), (6, _), (7, _), (8, _), (9, _), (10, _), (11, _), (12, _), (13, _), (14, _), (20, _), (21, _), (22, _), (23, _), (24, _), (25, _), (26, _), (27, _), (28, _), (29, _), (30, _), (31, _), (32, _), (33, _), (34, _), (35, _), (36, _), (37, _), (38, _), (39, _), (40, _), (41, _), (42, _), (43, _), (44, _), (45, _), (46, _), (47, _), (48, _)] [(3, _), (4, _), (7, _), (8, _), (9, _), (11, _), (13, ⟨true, b13, 0, 22, ((bigR (i + 1))).map u8V, 0⟩)] (AllL.cons_ (rfl) (AllL.cons_ (rfl) (AllL.cons_ (rfl) (AllL.cons_ (rfl) (AllL.cons_ (rfl) (AllL.cons_ (rfl) (AllL.cons_ (rfl) (AllL.cons_ (rfl) (AllL.cons_ (rfl) (AllL.cons_ (rfl) (AllL.cons_ (rfl) (AllL.cons_ (rfl) (AllL.cons_ (rfl) (AllL.cons_ (rfl) (AllL.cons_ (rfl) (AllL.cons_ (rfl) (AllL.cons_ (rfl) (AllL.cons_ (rfl) (AllL.cons_ (rfl) (AllL.cons_ (rfl) (AllL.cons_ (rfl) (AllL.cons_ (rfl) (AllL.cons_ (rfl) (AllL.cons_ (rfl) (AllL.cons_ (rfl) (AllL.cons_ (rfl) (AllL.cons_ (rfl) (AllL.cons_ (rfl) (AllL.cons_ (rfl) (AllL.cons_ (rfl) (AllL.cons_ (rfl) (AllL.cons_ (rfl) (AllL.cons_ (rfl) (AllL.cons_ (rfl) (AllL.cons_ (rfl) (AllL.cons_ (rfl) (AllL.cons_ (rfl) (AllL.cons_ (rfl) (AllL.cons_ (rfl) (AllL.cons_ (rfl) (AllL.cons_ (rfl) (AllL.cons_ (rfl) (AllL.cons_ (rfl) trivial))))))))))))))))))))))))))))))))))))))))))) (AllL.cons_ (rfl) (AllL.cons_ (rfl) (AllL.cons_ (rfl) (AllL.cons_ (rfl) (AllL.cons_ (rfl) (AllL.cons_ (rfl) (AllL.cons_ ((by rw [← bigR_step (by omega) (by omega)]; rfl)) trivial))))))) ?_
      exact hKc0 _ _ _ (by omega) ⟨i + 1, rfl, rfl, rfl, (by omega)⟩
    · -- cond 50 f
      have e50 : ¬ (i : Int) < 31 := of_decide_eq_false h50
      refine At.exit ?_
      refine At.thn_e ?_
      refine At.thn_e ?_
      refine At.inb_hit ?_
      refine At.next ?_
      refine At.seq ?_
      obtain rfl : i = 31 := by omega
      have hbl := bigR_len 31
      refine At.region ?_
      refine At.p (some 55) (P_move rfl rfl) ?_
      refine At.p (some 56) (P_rem_w UK.u8 (b := 19#8) rfl rfl rfl (by decide)) ?_
      refine At.p (some 15) (P_assign rfl rfl) ?_
      refine At.nil ?_
      refine At.next ?_
      refine At.seq ?_
      refine At.region ?_
      refine At.p (some 57) (P_move rfl rfl) ?_
      refine At.p (some 58) (P_add_w UK.u8 (a := 237#8) rfl rfl rfl) ?_
      refine At.p (some 59) (P_indexAddr_arr1 (j := 0) rfl Try.underlying22 sz5 rfl rfl rfl (by decide)) ?_
      refine At.s (S_storeM none (f := u8V) (l := (bigR 31)) (u := (237#8 + (low % 19#8))) (k := 13) rfl rfl rfl sz5 rfl rfl rfl OG ?_)
      refine At.nil ?_
      refine At.next ?_
      refine At.seq ?_
      refine At.region ?_
      refine At.q (some 61) (Q_loadA (k := 3) rfl rfl Try.underlying22 rfl sz22 LN rfl) ?_
      refine At.q (some 62) (Q_loadA (k := 13) rfl rfl Try.underlying22 rfl sz22 LN rfl) ?_
      refine At.s (S_callV (some 63) [] [] (vs := [_, _]) rfl en8 rfl V0 (by simp) (c_Shared (secret := secret) (pub := ((bigR 31).set 0 (237#8 + (low % 19#8)))) LN LN) (by rintro _ _ ⟨rfl, rfl⟩; rfl) ?_)
      rintro _ _ ⟨rfl, rfl⟩
      have := shX_len secret ((bigR 31).set 0 (237#8 + (low % 19#8)))
      refine At.p (some 60) (P_move rfl rfl) ?_
      refine At.p (some 64) (P_extract rfl rfl rfl) ?_
      refine At.p (some 65) (P_extract rfl rfl rfl) ?_
      refine At.s (S_alloc (some 16) 16 (zs := (List.replicate 32 0#8).map u8V) rfl ze22 rfl (fun b16 => ?_))
      refine At.s (S_storeA none (k := 16) (vs := (shX secret ((bigR 31).set 0 (237#8 + (low % 19#8)))).map u8V) rfl rfl rfl (by rw [sz22]; exact congrArg some LN) rfl (one_map (fun _ => rfl)) NG rfl LN ?_)
      refine At.p (some 17) (P_assign rfl rfl) ?_
      refine At.nil ?_
      refine At.next ?_
      refine At.seq ?_
      refine At.region ?_
      refine At.q (some 67) (Q_loadA (k := 3) rfl rfl Try.underlying22 rfl sz22 LN rfl) ?_
      refine At.p (some 68) (P_move rfl rfl) ?_
      refine At.p (some 69) (P_build_arr (cs := (([(low % 19#8), 0#8, 0#8, 0#8, 0#8, 0#8, 0#8, 0#8, 0#8, 0#8, 0#8, 0#8, 0#8, 0#8, 0#8, 0#8, 0#8, 0#8, 0#8, 0#8, 0#8, 0#8, 0#8, 0#8, 0#8, 0#8, 0#8, 0#8, 0#8, 0#8, 0#8, 0#8]).map u8V).toArray) (parts := _) (vs := [(0, _)]) rfl Try.underlying22 sz5 ze22 rfl rfl) ?_
      refine At.s (S_callV (some 70) [] [] (vs := [_, _]) rfl en8 rfl V0 (by simp) (c_Shared (secret := secret) (pub := [(low % 19#8), 0#8, 0#8, 0#8, 0#8, 0#8, 0#8, 0#8, 0#8, 0#8, 0#8, 0#8, 0#8, 0#8, 0#8, 0#8, 0#8, 0#8, 0#8, 0#8, 0#8, 0#8, 0#8, 0#8, 0#8, 0#8, 0#8, 0#8, 0#8, 0#8, 0#8, 0#8]) LN LN) (by rintro _ _ ⟨rfl, rfl⟩; rfl) ?_)
      rintro _ _ ⟨rfl, rfl⟩
      have := shX_len secret [(low % 19#8), 0#8, 0#8, 0#8, 0#8, 0#8, 0#8, 0#8, 0#8, 0#8, 0#8, 0#8, 0#8, 0#8, 0#8, 0#8, 0#8, 0#8, 0#8, 0#8, 0#8, 0#8, 0#8, 0#8, 0#8, 0#8, 0#8, 0#8, 0#8, 0#8, 0#8, 0#8]
      refine At.p (some 66) (P_move rfl rfl) ?_
      refine At.p (some 71) (P_extract rfl rfl rfl) ?_
      refine At.p (some 72) (P_extract rfl rfl rfl) ?_
      refine At.s (S_alloc (some 18) 18 (zs := (List.replicate 32 0#8).map u8V) rfl ze22 rfl (fun b18 => ?_))
      refine At.s (S_storeA none (k := 18) (vs := (shX secret [(low % 19#8), 0#8, 0#8, 0#8, 0#8, 0#8, 0#8, 0#8, 0#8, 0#8, 0#8, 0#8, 0#8, 0#8, 0#8, 0#8, 0#8, 0#8, 0#8, 0#8, 0#8, 0#8, 0#8, 0#8, 0#8, 0#8, 0#8, 0#8, 0#8, 0#8, 0#8, 0#8]).map u8V) rfl rfl rfl (by rw [sz22]; exact congrArg some LN) rfl (one_map (fun _ => rfl)) NG rfl LN ?_)
      refine At.p (some 19) (P_assign rfl rfl) ?_
      refine At.nil ?_
      refine At.next ?_
      refine At.seq ?_
      have q1 := bits_law hsecret hpub low
      have q2 := big_law secret low
      have q3 : ∀ x : BitVec 8, [x, 0#8, 0#8, 0#8, 0#8, 0#8, 0#8, 0#8, 0#8, 0#8, 0#8, 0#8, 0#8, 0#8, 0#8, 0#8, 0#8, 0#8, 0#8, 0#8, 0#8, 0#8, 0#8, 0#8, 0#8, 0#8, 0#8, 0#8, 0#8, 0#8, 0#8, 0#8] = x :: List.replicate 31 0#8 := fun _ => rfl
      refine At.region ?_
      refine At.s (S_callV (some 73) [] [] (vs := []) rfl en10 rfl V0 (by simp) (c_shares  ) (by rintro _ _ ⟨rfl, rfl⟩; rfl) ?_)
      rintro _ _ ⟨rfl, rfl⟩
      refine At.p (some 74) (P_move rfl rfl) ?_
      refine At.gy (t := 74) rfl (by first | (simp only [q1, q2, q3]; done) | (simp only [q1, q2, q3]; simp; done) | (simp; done)) rfl rfl ?_
      refine At.q (some 75) (Q_loadA (k := 9) rfl rfl Try.underlying22 rfl sz22 LN rfl) ?_
      refine At.gy (t := 74) rfl (by first | (simp only [q1, q2, q3]; done) | (simp only [q1, q2, q3]; simp; done) | (simp; done)) rfl rfl ?_
      refine At.q (some 76) (Q_loadA (k := 11) rfl rfl Try.underlying22 rfl sz22 LN rfl) ?_
      refine At.gy (t := 74) rfl (by first | (simp only [q1, q2, q3]; done) | (simp only [q1, q2, q3]; simp; done) | (simp; done)) rfl rfl ?_
      refine At.p (some 77) (P_eql_arr (k := .u8) (xs := (shX secret pub)) (ys := (shX ((secret.set 0 ((secret.getD 0 0#8) ^^^ (low % 8#8))).set 31 (((secret.set 0 ((secret.getD 0 0#8) ^^^ (low % 8#8))).getD 31 0#8) ^^^ 128#8)) (pub.set 31 ((pub.getD 31 0#8) ^^^ 128#8)))) rfl Try.underlying22 Try.underlying5 sz5 Try.eqGuardType22 rfl rfl LN LN) ?_
      refine At.p (some 78) (P_pick_t rfl rfl (by first | (simp only [q1, q2, q3]; done) | (simp only [q1, q2, q3]; simp; done) | (simp; done)) rfl) ?_
      refine At.p (some 79) (P_move rfl rfl) ?_
      refine At.gy (t := 79) rfl (by first | (simp only [q1, q2, q3]; done) | (simp only [q1, q2, q3]; simp; done) | (simp; done)) rfl rfl ?_
      refine At.p (some 80) (P_move rfl rfl) ?_
      refine At.gy (t := 79) rfl (by first | (simp only [q1, q2, q3]; done) | (simp only [q1, q2, q3]; simp; done) | (simp; done)) rfl rfl ?_
      refine At.p (some 81) (P_move rfl rfl) ?_
      refine At.gy (t := 79) rfl (by first | (simp only [q1, q2, q3]; done) | (simp only [q1, q2, q3]; simp; done) | (simp; done)) rfl rfl ?_
      refine At.p (some 82) (P_eql_bool rfl Try.underlying4 rfl rfl) ?_
      refine At.p (some 83) (P_pick_t rfl rfl (by first | (simp only [q1, q2, q3]; done) | (simp only [q1, q2, q3]; simp; done) | (simp; done)) rfl) ?_
      refine At.p (some 84) (P_move rfl rfl) ?_
      refine At.gy (t := 84) rfl (by first | (simp only [q1, q2, q3]; done) | (simp only [q1, q2, q3]; simp; done) | (simp; done)) rfl rfl ?_
      refine At.q (some 85) (Q_loadA (k := 16) rfl rfl Try.underlying22 rfl sz22 LN rfl) ?_
      refine At.gy (t := 84) rfl (by first | (simp only [q1, q2, q3]; done) | (simp only [q1, q2, q3]; simp; done) | (simp; done)) rfl rfl ?_
      refine At.q (some 86) (Q_loadA (k := 18) rfl rfl Try.underlying22 rfl sz22 LN rfl) ?_
      refine At.gy (t := 84) rfl (by first | (simp only [q1, q2, q3]; done) | (simp only [q1, q2, q3]; simp; done) | (simp; done)) rfl rfl ?_
      refine At.p (some 87) (P_eql_arr (k := .u8) (xs := (shX secret ((bigR 31).set 0 (237#8 + (low % 19#8))))) (ys := (shX secret [(low % 19#8), 0#8, 0#8, 0#8, 0#8, 0#8, 0#8, 0#8, 0#8, 0#8, 0#8, 0#8, 0#8, 0#8, 0#8, 0#8, 0#8, 0#8, 0#8, 0#8, 0#8, 0#8, 0#8, 0#8, 0#8, 0#8, 0#8, 0#8, 0#8, 0#8, 0#8, 0#8])) rfl Try.underlying22 Try.underlying5 sz5 Try.eqGuardType22 rfl rfl LN LN) ?_
      refine At.p (some 88) (P_pick_t rfl rfl (by first | (simp only [q1, q2, q3]; done) | (simp only [q1, q2, q3]; simp; done) | (simp; done)) rfl) ?_
      refine At.p (some 89) (P_move rfl rfl) ?_
      refine At.gy (t := 89) rfl (by first | (simp only [q1, q2, q3]; done) | (simp only [q1, q2, q3]; simp; done) | (simp; done)) rfl rfl ?_
      refine At.p (some 90) (P_move rfl rfl) ?_
      refine At.gy (t := 89) rfl (by first | (simp only [q1, q2, q3]; done) | (simp only [q1, q2, q3]; simp; done) | (simp; done)) rfl rfl ?_
      refine At.p (some 91) (P_move rfl rfl) ?_
      refine At.gy (t := 89) rfl (by first | (simp only [q1, q2, q3]; done) | (simp only [q1, q2, q3]; simp; done) | (simp; done)) rfl rfl ?_
      refine At.p (some 92) (P_eql_bool rfl Try.underlying4 rfl rfl) ?_
      refine At.p (some 93) (P_pick_t rfl rfl (by first | (simp only [q1, q2, q3]; done) | (simp only [q1, q2, q3]; simp; done) | (simp; done)) rfl) ?_
      refine At.p (some 6) (P_assign rfl rfl) ?_
      refine At.nil ?_
      refine At.next ?_
      refine At.ret ?_
      have hq0 : ((shX secret ((bigR 31).set 0 (237#8 + (low % 19#8))) != List.replicate 32 0#8) == (shX secret [(low % 19#8), 0#8, 0#8, 0#8, 0#8, 0#8, 0#8, 0#8, 0#8, 0#8, 0#8, 0#8, 0#8, 0#8, 0#8, 0#8, 0#8, 0#8, 0#8, 0#8, 0#8, 0#8, 0#8, 0#8, 0#8, 0#8, 0#8, 0#8, 0#8, 0#8, 0#8, 0#8] != List.replicate 32 0#8)) = true := (by first | (simp only [q1, q2, q3]; done) | (simp only [q1, q2, q3]; simp; done) | (simp; done))
      refine At.give (.inl rfl) [] (rows' := []) (vs := [_]) rfl ⟨rfl, trivial⟩ rfl (by simp) (by simp) ⟨(by first | (rw [hq0]; try rfl; done) | (rw [← hq0]; try rfl; done) | (simp only [hq0]; try rfl; done) | (simp only [← hq0]; try rfl; done) | rfl), (by first | (rw [hq0]; try rfl; done) | (rw [← hq0]; try rfl; done) | (simp only [hq0]; try rfl; done) | (simp only [← hq0]; try rfl; done) | rfl)⟩

set_option maxHeartbeats 2000000 in
theorem l_Low {secret : List (BitVec 8)} {which : Int} (hsecret : secret.length = 32) :
    Con Try.prog 7 [aggK secret, iV which] [] (fun v rs => v = .bool true ∧ rs = []) := by
  refine Con.enter Try.func7 Try.ntmps7 (Nat.le_of_ble_eq_true rfl) rfl fun w => ?_
  refine At.seq ?_
  refine At.region ?_
  refine At.s (S_box (some 2) 2 (zs := (secret).map u8V) rfl rfl rfl (fun b2 => ?_))
  refine At.p (some 4) (P_assign rfl rfl) ?_
  refine At.nil ?_
  refine At.next ?_
  refine At.seq ?_
  refine At.region ?_
  refine At.p (some 9) (P_build_arr (cs := ((List.replicate 32 0#8).map u8V).toArray) (parts := _) (vs := []) rfl Try.underlying22 sz5 ze22 rfl rfl) ?_
  refine At.p (some 10) (P_build_arr (cs := (([1#8, 0#8, 0#8, 0#8, 0#8, 0#8, 0#8, 0#8, 0#8, 0#8, 0#8, 0#8, 0#8, 0#8, 0#8, 0#8, 0#8, 0#8, 0#8, 0#8, 0#8, 0#8, 0#8, 0#8, 0#8, 0#8, 0#8, 0#8, 0#8, 0#8, 0#8, 0#8]).map u8V).toArray) (parts := _) (vs := [(0, _)]) rfl Try.underlying22 sz5 ze22 rfl rfl) ?_
  refine At.p (some 11) (P_build_arr (cs := ((List.replicate 32 0#8).map u8V).toArray) (parts := _) (vs := []) rfl Try.underlying22 sz5 ze22 rfl rfl) ?_
  refine At.p (some 12) (P_build_arr (cs := (([0#8, 0#8, 0#8, 0#8, 0#8, 0#8, 0#8, 0#8, 0#8, 0#8, 0#8, 0#8, 0#8, 0#8, 0#8, 0#8, 0#8, 0#8, 0#8, 0#8, 0#8, 0#8, 0#8, 0#8, 0#8, 0#8, 0#8, 0#8, 0#8, 0#8, 0#8, 0#8, 1#8, 0#8, 0#8, 0#8, 0#8, 0#8, 0#8, 0#8, 0#8, 0#8, 0#8, 0#8, 0#8, 0#8, 0#8, 0#8, 0#8, 0#8, 0#8, 0#8, 0#8, 0#8, 0#8, 0#8, 0#8, 0#8, 0#8, 0#8, 0#8, 0#8, 0#8, 0#8, 0#8, 0#8, 0#8, 0#8, 0#8, 0#8, 0#8, 0#8, 0#8, 0#8, 0#8, 0#8, 0#8, 0#8, 0#8, 0#8, 0#8, 0#8, 0#8, 0#8, 0#8, 0#8, 0#8, 0#8, 0#8, 0#8, 0#8, 0#8, 0#8, 0#8, 0#8, 0#8]).map u8V).toArray) (parts := _) (vs := [(0, _), (1, _), (2, _)]) rfl Try.underlying30 sz22 ze30 rfl (by kernel_rfl)) ?_
  refine At.s (S_alloc (some 5) 5 (zs := [(List.replicate 32 0#8).map u8V, (List.replicate 32 0#8).map u8V, (List.replicate 32 0#8).map u8V].flatten) rfl ze30 rfl (fun b5 => ?_))
  refine At.s (S_storeA none (k := 5) (vs := ([0#8, 0#8, 0#8, 0#8, 0#8, 0#8, 0#8, 0#8, 0#8, 0#8, 0#8, 0#8, 0#8, 0#8, 0#8, 0#8, 0#8, 0#8, 0#8, 0#8, 0#8, 0#8, 0#8, 0#8, 0#8, 0#8, 0#8, 0#8, 0#8, 0#8, 0#8, 0#8, 1#8, 0#8, 0#8, 0#8, 0#8, 0#8, 0#8, 0#8, 0#8, 0#8, 0#8, 0#8, 0#8, 0#8, 0#8, 0#8, 0#8, 0#8, 0#8, 0#8, 0#8, 0#8, 0#8, 0#8, 0#8, 0#8, 0#8, 0#8, 0#8, 0#8, 0#8, 0#8, 0#8, 0#8, 0#8, 0#8, 0#8, 0#8, 0#8, 0#8, 0#8, 0#8, 0#8, 0#8, 0#8, 0#8, 0#8, 0#8, 0#8, 0#8, 0#8, 0#8, 0#8, 0#8, 0#8, 0#8, 0#8, 0#8, 0#8, 0#8, 0#8, 0#8, 0#8, 0#8]).map u8V) rfl rfl rfl (by rw [sz30]; exact congrArg some LN) rfl (one_map (fun _ => rfl)) NG rfl LN ?_)
  refine At.nil ?_
  refine At.next ?_
  refine At.seq ?_
  refine At.region ?_
  refine At.p (some 13) (P_build_arr (cs := (([236#8, 0#8, 0#8, 0#8, 0#8, 0#8, 0#8, 0#8, 0#8, 0#8, 0#8, 0#8, 0#8, 0#8, 0#8, 0#8, 0#8, 0#8, 0#8, 0#8, 0#8, 0#8, 0#8, 0#8, 0#8, 0#8, 0#8, 0#8, 0#8, 0#8, 0#8, 127#8]).map u8V).toArray) (parts := _) (vs := [(0, _), (31, _)]) rfl Try.underlying22 sz5 ze22 rfl rfl) ?_
  refine At.p (some 14) (P_indexAddr_arr (j := 2) rfl Try.underlying30 sz22 rfl rfl rfl (by decide)) ?_
  refine At.s (S_storeN none (k := 5) (vs := ([236#8, 0#8, 0#8, 0#8, 0#8, 0#8, 0#8, 0#8, 0#8, 0#8, 0#8, 0#8, 0#8, 0#8, 0#8, 0#8, 0#8, 0#8, 0#8, 0#8, 0#8, 0#8, 0#8, 0#8, 0#8, 0#8, 0#8, 0#8, 0#8, 0#8, 0#8, 127#8]).map u8V) rfl rfl rfl (by rw [sz22]; exact congrArg some LN) rfl (one_map (fun _ => rfl)) NG rfl LN ?_)
  refine At.row 5 (⟨true, b5, 0, 30, ((splice [0#8, 0#8, 0#8, 0#8, 0#8, 0#8, 0#8, 0#8, 0#8, 0#8, 0#8, 0#8, 0#8, 0#8, 0#8, 0#8, 0#8, 0#8, 0#8, 0#8, 0#8, 0#8, 0#8, 0#8, 0#8, 0#8, 0#8, 0#8, 0#8, 0#8, 0#8, 0#8, 1#8, 0#8, 0#8, 0#8, 0#8, 0#8, 0#8, 0#8, 0#8, 0#8, 0#8, 0#8, 0#8, 0#8, 0#8, 0#8, 0#8, 0#8, 0#8, 0#8, 0#8, 0#8, 0#8, 0#8, 0#8, 0#8, 0#8, 0#8, 0#8, 0#8, 0#8, 0#8, 0#8, 0#8, 0#8, 0#8, 0#8, 0#8, 0#8, 0#8, 0#8, 0#8, 0#8, 0#8, 0#8, 0#8, 0#8, 0#8, 0#8, 0#8, 0#8, 0#8, 0#8, 0#8, 0#8, 0#8, 0#8, 0#8, 0#8, 0#8, 0#8, 0#8, 0#8, 0#8] 64 [236#8, 0#8, 0#8, 0#8, 0#8, 0#8, 0#8, 0#8, 0#8, 0#8, 0#8, 0#8, 0#8, 0#8, 0#8, 0#8, 0#8, 0#8, 0#8, 0#8, 0#8, 0#8, 0#8, 0#8, 0#8, 0#8, 0#8, 0#8, 0#8, 0#8, 0#8, 127#8])).map u8V, 0⟩) rfl (splice_map _ _ _ _) ?_
  refine At.nil ?_
  refine At.next ?_
  refine At.seq ?_
  refine At.seq ?_
  refine At.region ?_
  refine At.p (some 6) (P_assign rfl rfl) ?_
  refine At.nil ?_
  refine At.next ?_
  refine At.block ?_
  refine At.loopx (I := fun m fr H => ∃ (i : Nat), m = 31 - i ∧ fr = frOf [(0, aggK secret), (1, iV which), (2, ptr b2 0), (4, .bool false), (5, ptr b5 0), (6, iV (i : Int)), (9, aggK (List.replicate 32 0#8)), (10, aggK [1#8, 0#8, 0#8, 0#8, 0#8, 0#8, 0#8, 0#8, 0#8, 0#8, 0#8, 0#8, 0#8, 0#8, 0#8, 0#8, 0#8, 0#8, 0#8, 0#8, 0#8, 0#8, 0#8, 0#8, 0#8, 0#8, 0#8, 0#8, 0#8, 0#8, 0#8, 0#8]), (11, aggK (List.replicate 32 0#8)), (12, aggK [0#8, 0#8, 0#8, 0#8, 0#8, 0#8, 0#8, 0#8, 0#8, 0#8, 0#8, 0#8, 0#8, 0#8, 0#8, 0#8, 0#8, 0#8, 0#8, 0#8, 0#8, 0#8, 0#8, 0#8, 0#8, 0#8, 0#8, 0#8, 0#8, 0#8, 0#8, 0#8, 1#8, 0#8, 0#8, 0#8, 0#8, 0#8, 0#8, 0#8, 0#8, 0#8, 0#8, 0#8, 0#8, 0#8, 0#8, 0#8, 0#8, 0#8, 0#8, 0#8, 0#8, 0#8, 0#8, 0#8, 0#8, 0#8, 0#8, 0#8, 0#8, 0#8, 0#8, 0#8, 0#8, 0#8, 0#8, 0#8, 0#8, 0#8, 0#8, 0#8, 0#8, 0#8, 0#8, 0#8, 0#8, 0#8, 0#8, 0#8, 0#8, 0#8, 0#8, 0#8, 0#8, 0#8, 0#8, 0#8, 0#8, 0#8, 0#8, 0#8, 0#8, 0#8, 0#8, 0#8]), (13, aggK [236#8, 0#8, 0#8, 0#8, 0#8, 0#8, 0#8, 0#8, 0#8, 0#8, 0#8, 0#8, 0#8, 0#8, 0#8, 0#8, 0#8, 0#8, 0#8, 0#8, 0#8, 0#8, 0#8, 0#8, 0#8, 0#8, 0#8, 0#8, 0#8, 0#8, 0#8, 127#8]), (14, ptr b5 64)] ∧ H = hOf [(2, ⟨true, b2, 0, 22, (secret).map u8V, 0⟩), (5, ⟨true, b5, 0, 30, ((lowR i)).map u8V, 0⟩)] ∧ (1 ≤ i ∧ i ≤ 31)) ?_ ?_
  · intro Kc0 hKc0
    refine At.to [(0, _), (1, _), (2, _), (4, _), (5, _), (6, _), (9, _), (10, _), (11, _), (12, _), (13, _), (14, _)] [(2, _), (5, ⟨true, b5, 0, 30, ((lowR 1)).map u8V, 0⟩)] (AllL.cons_ (rfl) (AllL.cons_ (rfl) (AllL.cons_ (rfl) (AllL.cons_ (rfl) (AllL.cons_ (rfl) (AllL.cons_ (rfl) (AllL.cons_ (rfl) (AllL.cons_ (rfl) (AllL.cons_ (rfl) (AllL.cons_ (rfl) (AllL.cons_ (rfl) (AllL.cons_ (rfl) trivial)))))))))))) (AllL.cons_ (rfl) (AllL.cons_ ((by rw [lowR_one]; rfl)) trivial)) ?_
    exact hKc0 _ _ _ ⟨1, rfl, rfl, rfl, (by omega)⟩
  · rintro m fr H ⟨i, rfl, rfl, rfl, hi⟩ Kc0 hKc0
    have hbl := lowR_len i
    refine At.seq ?_
    refine At.seq ?_
    refine At.region ?_
    refine At.p (some 15) (P_move rfl rfl) ?_
    refine At.p (some 16) (P_cmp rfl rfl rfl rfl rfl rfl) ?_
    refine At.nil ?_
    refine At.next ?_
    refine At.cond rfl (fun h16 => ?_) (fun h16 => ?_)
    · -- cond 16 t
      have e16 : (i : Int) < 31 := of_decide_eq_true h16
      refine At.skip ?_
      refine At.next ?_
      refine At.seq ?_
      refine At.block ?_
      refine At.region ?_
      refine At.p (some 19) (P_move rfl rfl) ?_
      refine At.p (some 20) (P_indexAddr_arr (j := 2) rfl Try.underlying30 sz22 rfl rfl rfl (by decide)) ?_
      refine At.p (some 21) (P_indexAddr_arr (j := i) rfl Try.underlying22 sz5 rfl rfl RO OG) ?_
      refine At.s (S_storeM none (f := u8V) (l := (lowR i)) (u := (255#8)) (k := 5) rfl rfl rfl sz5 rfl rfl rfl OG ?_)
      refine At.nil ?_
      refine At.inb_n ?_
      refine At.next ?_
      refine At.region ?_
      refine At.p (some 17) (P_move rfl rfl) ?_
      refine At.p (some 18) (P_add_i rfl rfl rfl (by omega)) ?_
      refine At.p (some 6) (P_assign rfl rfl) ?_
      refine At.nil ?_
      refine At.next ?_
      refine At.to [(0, _), (1, _), (2, _), (4, _), (5, _), (6, _), (9, _), (10, _), (11, _), (12, _), (13, _), (14, _)] [(2, _), (5, ⟨true, b5, 0, 30, ((lowR (i + 1))).map u8V, 0⟩)] (AllL.cons_ (rfl) (AllL.cons_ (rfl) (AllL.cons_ (rfl) (AllL.cons_ (rfl) (AllL.cons_ (rfl) (AllL.cons_ (rfl) (AllL.cons_ (rfl) (AllL.cons_ (rfl) (AllL.cons_ (rfl) (AllL.cons_ (rfl) (AllL.cons_ (rfl) (AllL.cons_ (rfl) trivial)))))))))))) (AllL.cons_ (rfl) (AllL.cons_ ((by rw [← lowR_step (by omega) (by omega)]; rfl)) trivial)) ?_
      exact hKc0 _ _ _ (by omega) ⟨i + 1, rfl, rfl, rfl, (by omega)⟩
    · -- cond 16 f
      have e16 : ¬ (i : Int) < 31 := of_decide_eq_false h16
      refine At.exit ?_
      refine At.thn_e ?_
      refine At.thn_e ?_
      refine At.inb_hit ?_
      refine At.next ?_
      refine At.seq ?_
      obtain rfl : i = 31 := by omega
      have hbl := lowR_len 31
      refine At.draws 13 [12] [.q false [0, 1, 2, 3, 4, 5, 6, 7, 8, 9], .q true [10], .e false 11, .e true 12] (by kernel_rfl) (by kernel_rfl) ?_
      refine At.wq (some 23) (Q_loadA (k := 2) rfl rfl Try.underlying22 rfl sz22 LN rfl) ?_
      refine At.wp (some 24) (P_move rfl rfl) ?_
      refine At.wp (some 25) (P_conv_iw UK.u64 rfl Try.underlying3 Try.underlying31 rfl) ?_
      refine At.wp (some 26) (P_rem_w UK.u64 (b := 3#64) rfl rfl rfl (by decide)) ?_
      obtain ⟨k27, hk27, hek27, hdk27⟩ := umod_c ((BitVec.ofInt 64 which)) 3#64 (by decide) (by decide)
      have hk27 : k27 < 3 := hk27
      refine At.wp (some 27) (P_conv_WiE hek27 rfl Try.underlying31 Try.underlying3 rfl) ?_
      refine At.wp (some 28) (P_indexAddr_arr (j := k27) rfl Try.underlying30 sz22 rfl rfl RO OG) ?_
      refine At.wq (some 29) (Q_loadN (k := 5) (j := (0 + k27 * 32)) (cs := (((lowR 31).drop (0 + k27 * 32)).take 32).map u8V) rfl rfl Try.underlying22 rfl sz22 rfl rfl (Nat.zero_add _) (by first | rw [← List.map_drop, ← List.map_take] | simp) LN) ?_
      refine At.wcV (some 30) [] (vs := [_, _]) rfl en8 rfl V0 (c_Shared (secret := secret) (pub := (((lowR 31).drop (0 + k27 * 32)).take 32)) LN LN) ?_
      have := shX_len secret (((lowR 31).drop (0 + k27 * 32)).take 32)
      refine At.wp (some 22) (P_move rfl rfl) ?_
      refine At.wp (some 31) (P_extract rfl rfl rfl) ?_
      refine At.wqn ?_
      refine At.wp (some 32) (P_extract rfl rfl rfl) ?_
      refine At.wqn ?_
      refine At.we ?_
      refine S_alloc (some 7) 7 (zs := (List.replicate 32 0#8).map u8V) rfl ze22 rfl (fun b7 => ?_)
      refine At.we ?_
      refine S_storeA none (k := 7) (vs := (shX secret (((lowR 31).drop (0 + k27 * 32)).take 32)).map u8V) rfl rfl rfl (by rw [sz22]; exact congrArg some LN) rfl (one_map (fun _ => rfl)) NG rfl LN ?_
      refine At.wt rfl ?_
      refine At.p (some 8) (P_assign rfl rfl) ?_
      refine At.nil ?_
      refine At.next ?_
      refine At.seq ?_
      have q1 := low_law hsecret hk27
      refine At.region ?_
      refine At.s (S_callV (some 33) [] [] (vs := []) rfl en10 rfl V0 (by simp) (c_shares  ) (by rintro _ _ ⟨rfl, rfl⟩; rfl) ?_)
      rintro _ _ ⟨rfl, rfl⟩
      refine At.p (some 34) (P_move rfl rfl) ?_
      refine At.gy (t := 34) rfl (by first | (simp only [q1]; done) | (simp only [q1]; simp; done) | (simp only [q1]; decide) | (simp; done)) rfl rfl ?_
      refine At.p (some 35) (P_move rfl rfl) ?_
      refine At.gy (t := 34) rfl (by first | (simp only [q1]; done) | (simp only [q1]; simp; done) | (simp only [q1]; decide) | (simp; done)) rfl rfl ?_
      refine At.p (some 36) (P_not rfl rfl) ?_
      refine At.p (some 37) (P_pick_t rfl rfl (by first | (simp only [q1]; done) | (simp only [q1]; simp; done) | (simp only [q1]; decide) | (simp; done)) rfl) ?_
      refine At.p (some 38) (P_move rfl rfl) ?_
      refine At.gy (t := 38) rfl (by first | (simp only [q1]; done) | (simp only [q1]; simp; done) | (simp only [q1]; decide) | (simp; done)) rfl rfl ?_
      refine At.q (some 39) (Q_loadA (k := 7) rfl rfl Try.underlying22 rfl sz22 LN rfl) ?_
      refine At.gy (t := 38) rfl (by first | (simp only [q1]; done) | (simp only [q1]; simp; done) | (simp only [q1]; decide) | (simp; done)) rfl rfl ?_
      refine At.p (some 40) (P_build_arr (cs := ((List.replicate 32 0#8).map u8V).toArray) (parts := _) (vs := []) rfl Try.underlying22 sz5 ze22 rfl rfl) ?_
      refine At.gy (t := 38) rfl (by first | (simp only [q1]; done) | (simp only [q1]; simp; done) | (simp only [q1]; decide) | (simp; done)) rfl rfl ?_
      refine At.p (some 41) (P_eql_arr (k := .u8) (xs := (shX secret (((lowR 31).drop (0 + k27 * 32)).take 32))) (ys := (List.replicate 32 0#8)) rfl Try.underlying22 Try.underlying5 sz5 Try.eqGuardType22 rfl rfl LN LN) ?_
      refine At.p (some 42) (P_pick_t rfl rfl (by first | (simp only [q1]; done) | (simp only [q1]; simp; done) | (simp only [q1]; decide) | (simp; done)) rfl) ?_
      refine At.p (some 4) (P_assign rfl rfl) ?_
      refine At.nil ?_
      refine At.next ?_
      refine At.ret ?_
      have hq0 : ((shX secret (((lowR 31).drop (0 + k27 * 32)).take 32)) == (List.replicate 32 0#8)) = true := (by first | (simp only [q1]; done) | (simp only [q1]; simp; done) | (simp only [q1]; decide) | (simp; done))
      refine At.give (.inl rfl) [] (rows' := []) (vs := [_]) rfl ⟨rfl, trivial⟩ rfl (by simp) (by simp) ⟨(by first | (rw [hq0]; try rfl; done) | (rw [← hq0]; try rfl; done) | (simp only [hq0]; try rfl; done) | (simp only [← hq0]; try rfl; done) | rfl), (by first | (rw [hq0]; try rfl; done) | (rw [← hq0]; try rfl; done) | (simp only [hq0]; try rfl; done) | (simp only [← hq0]; try rfl; done) | rfl)⟩

end Go.Proofs.Ytnhjmapapbhhpaa
