import Derived.Test.YtnhjmapapbhhpaaCV1
namespace Go.Proofs.Ytnhjmapapbhhpaa
set_option maxRecDepth 20000
set_option linter.unusedVariables false
set_option linter.unusedSimpArgs false
open Go.SE Go.RowKit
/-! primes -/
def Pr (n : Nat) : Prop := 1 < n ∧ ∀ m, m ∣ n → m = 1 ∨ m = n
theorem Pr.cop {p a : Nat} (h : Pr p) (ha : ¬ p ∣ a) : Nat.gcd p a = 1 := by
  rcases h.2 _ (Nat.gcd_dvd_left p a) with h1 | h1
  · exact h1
  · exact absurd (h1 ▸ Nat.gcd_dvd_right p a) ha
theorem Pr.euclid {p a b : Nat} (h : Pr p) (hd : p ∣ a * b) : p ∣ a ∨ p ∣ b := by
  by_cases ha : p ∣ a
  · exact .inl ha
  · exact .inr (Nat.Coprime.dvd_of_dvd_mul_left (h.cop ha) hd)
theorem has_prime (n : Nat) : 1 < n → ∃ p, Pr p ∧ p ∣ n := by
  induction n using Nat.strongRecOn with
  | _ n ih =>
    intro hn
    by_cases h : ∃ m, m ∣ n ∧ m ≠ 1 ∧ m ≠ n
    · obtain ⟨m, hm, h1, h2⟩ := h
      have hle := Nat.le_of_dvd (by omega) hm
      have h0 : m ≠ 0 := by rintro rfl; have := Nat.eq_zero_of_zero_dvd hm; omega
      obtain ⟨p, hp, hd⟩ := ih m (by omega) (by omega)
      exact ⟨p, hp, Nat.dvd_trans hd hm⟩
    · refine ⟨n, ⟨hn, fun m hm => ?_⟩, Nat.dvd_refl n⟩
      by_cases h1 : m = 1
      · exact .inl h1
      · by_cases h2 : m = n
        · exact .inr h2
        · exact absurd ⟨m, hm, h1, h2⟩ h
/-! the little theorem -/
def ch : Nat → Nat → Nat
  | _, 0 => 1
  | 0, _ + 1 => 0
  | n + 1, k + 1 => ch n k + ch n (k + 1)
theorem ch_zero (n : Nat) : ch n 0 = 1 := by cases n <;> rfl
theorem ch_succ (n k : Nat) : ch (n + 1) (k + 1) = ch n k + ch n (k + 1) := rfl
theorem ch_abs : ∀ n k, (k + 1) * ch (n + 1) (k + 1) = (n + 1) * ch n k
  | 0, 0 => rfl
  | 0, k + 1 => by simp [ch]
  | n + 1, 0 => by
    have h := ch_abs n 0
    rw [ch_succ, ch_zero]
    simp only [Nat.zero_add, Nat.one_mul, ch_zero, Nat.mul_one] at *
    omega
  | n + 1, k + 1 => by
    have h1 := ch_abs n k
    have h2 := ch_abs n (k + 1)
    rw [ch_succ (n + 1) (k + 1), Nat.mul_add, h2]
    have e : (k + 1 + 1) * ch (n + 1) (k + 1) = (n + 1) * ch n k + ch (n + 1) (k + 1) := by rw [Nat.add_mul, h1, Nat.one_mul]
    rw [e, ch_succ n k, Nat.add_mul (n + 1) 1, Nat.mul_add, Nat.one_mul]
    omega
theorem ch_big : ∀ n k, n < k → ch n k = 0
  | 0, k + 1, _ => rfl
  | n + 1, k + 1, h => by rw [ch_succ, ch_big n k (by omega), ch_big n (k + 1) (by omega)]
theorem ch_self : ∀ n, ch n n = 1
  | 0 => rfl
  | n + 1 => by rw [ch_succ, ch_self n, ch_big n (n + 1) (by omega)]
def bsum (n a : Nat) : Nat → Nat
  | 0 => 0
  | m + 1 => bsum n a m + ch n m * a ^ m
theorem bsum_succ (n a : Nat) : ∀ m, bsum (n + 1) a (m + 1) = bsum n a (m + 1) + a * bsum n a m
  | 0 => by simp [bsum, ch_zero]
  | m + 1 => by
    rw [bsum, bsum_succ n a m, ch_succ, bsum.eq_2 n a (m + 1), bsum.eq_2 n a m, Nat.add_mul, Nat.mul_add, Nat.pow_succ]
    have e : a * (ch n m * a ^ m) = ch n m * (a ^ m * a) := by rw [Nat.mul_left_comm, Nat.mul_comm a]
    rw [e]; omega
theorem bsum_all (a : Nat) : ∀ n m, n < m → bsum n a m = (a + 1) ^ n
  | 0, m + 1, _ => by
    induction m with
    | zero => simp [bsum, ch]
    | succ m ih => rw [bsum, ih (by omega)]; simp [ch]
  | n + 1, m + 1, h => by
    rw [bsum_succ, bsum_all a n (m + 1) (by omega), bsum_all a n m (by omega), Nat.pow_succ, Nat.mul_add, Nat.mul_one, Nat.mul_comm]
    omega
theorem ch_dvd {p k : Nat} (h : Pr p) (h1 : k + 1 < p) : p ∣ ch p (k + 1) := by
  obtain ⟨q, rfl⟩ : ∃ q, p = q + 1 := ⟨p - 1, by have := h.1; omega⟩
  have e := ch_abs q k
  rcases h.euclid (a := k + 1) (b := ch (q + 1) (k + 1)) (e ▸ Nat.dvd_mul_right _ _) with h2 | h2
  · have := Nat.le_of_dvd (by omega) h2; omega
  · exact h2
theorem bsum_mod {p a : Nat} (h : Pr p) : ∀ m, m + 1 ≤ p → bsum p a (m + 1) % p = 1 % p
  | 0, _ => by simp [bsum, ch_zero]
  | m + 1, hm => by
    obtain ⟨c, hc⟩ := ch_dvd h (k := m) (by omega)
    rw [bsum, hc, Nat.mul_assoc, Nat.add_mul_mod_self_left, bsum_mod h m (by omega)]
theorem pow_p {p : Nat} (h : Pr p) : ∀ a, a ^ p % p = a % p
  | 0 => by rw [Nat.zero_pow (by have := h.1; omega)]
  | a + 1 => by
    have h1 := h.1
    obtain ⟨q, rfl⟩ : ∃ q, p = q + 1 := ⟨p - 1, by omega⟩
    rw [← bsum_all a (q + 1) (q + 1 + 1) (by omega), bsum, ch_self, Nat.one_mul, Nat.add_mod, bsum_mod h q (by omega), pow_p h a, ← Nat.add_mod, Nat.add_comm]
theorem fermat {p a : Nat} (h : Pr p) (ha : ¬ p ∣ a) : a ^ (p - 1) % p = 1 := by
  have h1 := h.1
  obtain ⟨q, rfl⟩ : ∃ q, p = q + 1 := ⟨p - 1, by omega⟩
  have e := pow_p h a
  rw [Nat.add_sub_cancel]
  have pos : 0 < a ^ q := Nat.pow_pos (Nat.pos_of_ne_zero fun h => ha (h ▸ Nat.dvd_zero _))
  have d : (q + 1) ∣ a * (a ^ q - 1) := by
    rw [Nat.mul_sub, Nat.mul_one, Nat.mul_comm a, ← Nat.pow_succ]
    exact Nat.dvd_of_mod_eq_zero (Nat.sub_mod_eq_zero_of_mod_eq e)
  rcases h.euclid d with h2 | ⟨c, hc⟩
  · exact absurd h2 ha
  · rw [show a ^ q = 1 + (q + 1) * c by omega, Nat.add_mul_mod_self_left, Nat.mod_eq_of_lt h1]
/-! powers that are one -/
theorem pow_one_gcd {n b : Nat} (hn : 1 < n) : ∀ x y, b ^ x % n = 1 → b ^ y % n = 1 → b ^ Nat.gcd x y % n = 1 := by
  intro x y
  induction x, y using Nat.gcd.induction with
  | H0 y => intro _ h; simpa using h
  | H1 x y hx ih =>
    intro h1 h2
    rw [Nat.gcd_rec]
    refine ih ?_ h1
    have e : b ^ y = b ^ (y % x) * (b ^ x) ^ (y / x) := by
      rw [← Nat.pow_mul, ← Nat.pow_add, Nat.mod_add_div]
    rw [e, Nat.mul_mod, Nat.pow_mod (b ^ x), h1, Nat.one_pow, Nat.mod_eq_of_lt hn, Nat.mul_one, Nat.mod_mod] at h2
    exact h2
/-- powers, reckoned -/
def pm (n : Nat) : Nat → Nat → Nat → Nat
  | 0, _, _ => 1 % n
  | f + 1, a, e => if e % 2 = 1 then pm n f (a * a % n) (e / 2) * a % n else pm n f (a * a % n) (e / 2)
theorem pm_eq (n : Nat) : ∀ f a e, e < 2 ^ f → pm n f a e = a ^ e % n
  | 0, a, e, h => by
    obtain rfl : e = 0 := by simpa using h
    rfl
  | f + 1, a, e, h => by
    rw [Nat.pow_succ] at h
    have ih := pm_eq n f (a * a % n) (e / 2) (by omega)
    rw [← Nat.pow_mod] at ih
    have e1 : (a * a) ^ (e / 2) = a ^ (2 * (e / 2)) := by rw [Nat.pow_mul, Nat.pow_two]
    have d := Nat.div_add_mod e 2
    unfold pm
    rw [ih, e1]
    split
    · rename_i h1
      rw [Nat.mod_mul_mod, ← Nat.pow_succ, show (2 * (e / 2)).succ = e by omega]
    · rename_i h1
      rw [show 2 * (e / 2) = e by omega]
/-- what divides n is one more than a multiple of q -/
theorem pock_div {n a q r : Nat} (hq : Pr q) (hd : q ∣ n - 1) (h1 : a ^ (n - 1) % n = 1) (h2 : Nat.gcd (a ^ ((n - 1) / q) % n + (n - 1)) n = 1) (hn : 1 < n) (hr : Pr r) (hrn : r ∣ n) : q ∣ r - 1 := by
  have r1 := hr.1
  let b := a ^ ((n - 1) / q)
  have bq : b ^ q % n = 1 := by
    show (a ^ ((n - 1) / q)) ^ q % n = 1
    rw [← Nat.pow_mul, Nat.div_mul_cancel hd]; exact h1
  have bqr : b ^ q % r = 1 := by
    rw [← Nat.mod_mod_of_dvd (b ^ q) hrn, bq, Nat.mod_eq_of_lt r1]
  have hb : ¬ r ∣ b := by
    intro h
    obtain ⟨q', rfl⟩ : ∃ q', q = q' + 1 := ⟨q - 1, by have := hq.1; omega⟩
    have : r ∣ b ^ (q' + 1) := by rw [Nat.pow_succ]; exact Nat.dvd_trans h (Nat.dvd_mul_left _ _)
    have := Nat.mod_eq_zero_of_dvd this
    omega
  have bf := fermat hr hb
  have hne : b % r ≠ 1 := by
    intro h
    have hm : (b % n + (n - 1)) % r = 0 := by
      have e : (b % n) % r = 1 := by rw [Nat.mod_mod_of_dvd b hrn]; exact h
      obtain ⟨c, hc⟩ := hrn
      have e2 := Nat.div_add_mod (b % n) r
      have : b % n + (n - 1) = r * (b % n / r + c) := by rw [Nat.mul_add, ← hc]; omega
      rw [this, Nat.mul_mod_right]
    have := Nat.dvd_gcd (Nat.dvd_of_mod_eq_zero hm) hrn
    rw [h2] at this
    have := Nat.le_of_dvd (by decide) this
    omega
  by_cases hx : q ∣ r - 1
  · exact hx
  · have g := pow_one_gcd r1 q (r - 1) bqr bf
    rw [hq.cop hx, Nat.pow_one] at g
    exact absurd g hne
theorem pock_end {n F : Nat} (hn : 1 < n) (hF : n < F * F) (h : ∀ r, Pr r → r ∣ n → F ≤ r) : Pr n := by
  obtain ⟨r, hr, m, hm⟩ := has_prime n hn
  by_cases h1 : m = 1
  · rw [hm, h1, Nat.mul_one]; exact hr
  · have m1 : 1 < m := by
      rcases Nat.lt_or_ge 1 m with h2 | h2
      · exact h2
      · have : m = 0 := by omega
        rw [this, Nat.mul_zero] at hm; omega
    obtain ⟨s, hs, hd⟩ := has_prime m m1
    have a := h r hr ⟨m, hm⟩
    have b := h s hs (Nat.dvd_trans hd ⟨r, by rw [hm, Nat.mul_comm]⟩)
    have c := Nat.le_of_dvd (by omega) hd
    have := Nat.mul_le_mul a (Nat.le_trans b c)
    omega
theorem pock1 {n q : Nat} (a : Nat) (f : Nat) (hq : Pr q) (hf : (n - 1) < 2 ^ f) (h : (decide (1 < n) && decide (n < q * q) && decide ((n - 1) % q = 0) && decide (pm n f a (n - 1) = 1) && decide (Nat.gcd (pm n f a ((n - 1) / q) + (n - 1)) n = 1)) = true) : Pr n := by
  simp only [Bool.and_eq_true, decide_eq_true_eq] at h
  obtain ⟨⟨⟨⟨h1, h2⟩, h3⟩, h4⟩, h5⟩ := h
  rw [pm_eq _ _ _ _ hf] at h4
  rw [pm_eq _ _ _ _ (Nat.lt_of_le_of_lt (Nat.div_le_self _ _) hf)] at h5
  refine pock_end h1 h2 fun r hr hd => ?_
  have := pock_div hq (Nat.dvd_of_mod_eq_zero h3) h4 h5 h1 hr hd
  have := Nat.le_of_dvd (by have := hr.1; omega) this
  omega
theorem pock2 {n q s : Nat} (a : Nat) (f : Nat) (hq : Pr q) (hs : Pr s) (hf : (n - 1) < 2 ^ f) (h : (decide (1 < n) && decide (n < (q * s) * (q * s)) && decide ((n - 1) % q = 0) && decide ((n - 1) % s = 0) && decide (Nat.gcd q s = 1) && decide (pm n f a (n - 1) = 1) && decide (Nat.gcd (pm n f a ((n - 1) / q) + (n - 1)) n = 1) && decide (Nat.gcd (pm n f a ((n - 1) / s) + (n - 1)) n = 1)) = true) : Pr n := by
  simp only [Bool.and_eq_true, decide_eq_true_eq] at h
  obtain ⟨⟨⟨⟨⟨⟨⟨h1, h2⟩, h3⟩, h3'⟩, hc⟩, h4⟩, h5⟩, h5'⟩ := h
  rw [pm_eq _ _ _ _ hf] at h4
  rw [pm_eq _ _ _ _ (Nat.lt_of_le_of_lt (Nat.div_le_self _ _) hf)] at h5 h5'
  refine pock_end h1 h2 fun r hr hd => ?_
  have a1 := pock_div hq (Nat.dvd_of_mod_eq_zero h3) h4 h5 h1 hr hd
  have a2 := pock_div hs (Nat.dvd_of_mod_eq_zero h3') h4 h5' h1 hr hd
  have a3 := Nat.Coprime.mul_dvd_of_dvd_of_dvd hc a1 a2
  have := Nat.le_of_dvd (by have := hr.1; omega) a3
  omega
/-- by trial -/
def noDiv (n : Nat) : Nat → Bool
  | 0 => true
  | k + 1 => (n % (k + 2) != 0) && noDiv n k
theorem noDiv_spec {n : Nat} : ∀ k, noDiv n k = true → ∀ m, 2 ≤ m → m < k + 2 → ¬ m ∣ n
  | 0, _, m, h1, h2 => by omega
  | k + 1, h, m, h1, h2 => by
    simp only [noDiv, Bool.and_eq_true, bne_iff_ne, ne_eq] at h
    by_cases e : m = k + 2
    · subst e; exact fun hd => h.1 (Nat.mod_eq_zero_of_dvd hd)
    · exact noDiv_spec k h.2 m h1 (by omega)
theorem small {n : Nat} (k : Nat) (h : (decide (1 < n) && decide (n < (k + 2) * (k + 2)) && noDiv n k) = true) : Pr n := by
  simp only [Bool.and_eq_true, decide_eq_true_eq] at h
  refine pock_end h.1.1 h.1.2 fun r hr hd => ?_
  by_cases hk : k + 2 ≤ r
  · exact hk
  · exact absurd hd (noDiv_spec k h.2 r hr.1 (by omega))
theorem pr0 : Pr 75707 := small 275 (by decide +kernel)
theorem pr1 : Pr 127 := small 11 (by decide +kernel)
theorem pr2 : Pr 1923133 := small 1386 (by decide +kernel)
theorem pr3 : Pr 8574133 := small 2928 (by decide +kernel)
theorem pr4 : Pr 1919519569386763 := pock2 2 51 pr3 pr1 (by decide +kernel) (by decide +kernel)
theorem pr5 : Pr 75445702479781427272750846543864801 := pock2 2 116 pr4 pr0 (by decide +kernel) (by decide +kernel)
theorem pr6 : Pr 74058212732561358302231226437062788676166966415465897661863160754340907 := pock2 2 236 pr5 pr2 (by decide +kernel) (by decide +kernel)
theorem pr7 : Pr 57896044618658097711785492504343953926634992332820282019728792003956564819949 := pock1 2 255 pr6 (by decide +kernel) (by decide +kernel)
theorem pr8 : Pr 1224481 := small 1106 (by decide +kernel)
theorem pr9 : Pr 531581 := small 729 (by decide +kernel)
theorem pr10 : Pr 1257559732178653 := pock2 2 51 pr8 pr9 (by decide +kernel) (by decide +kernel)
theorem pr11 : Pr 4434155615661930479 := pock1 2 62 pr10 (by decide +kernel) (by decide +kernel)
theorem pr12 : Pr 172054593956031949258510691 := pock1 2 88 pr11 (by decide +kernel) (by decide +kernel)
theorem pr13 : Pr 19757330305831588566944191468367130476339 := pock1 2 134 pr12 (by decide +kernel) (by decide +kernel)
theorem pr14 : Pr 276602624281642239937218680557139826668747 := pock1 2 138 pr13 (by decide +kernel) (by decide +kernel)
theorem pr15 : Pr 7237005577332262213973186563042994240857116359379907606001950938285454250989 := pock1 2 253 pr14 (by decide +kernel) (by decide +kernel)

end Go.Proofs.Ytnhjmapapbhhpaa
