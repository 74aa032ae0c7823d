import Derived.Test.YtnhjmapapbhhpaaCG1
namespace Go.Proofs.Ytnhjmapapbhhpaa
set_option maxRecDepth 20000
set_option linter.unusedVariables false
set_option linter.unusedSimpArgs false
open Go.SE Go.RowKit
/-! the field -/
theorem pN_prime : Pr pN := pr7
instance nzp : NeZero pN := ⟨by decide⟩
abbrev FF := Fin pN
def fpow (a : FF) (k : Nat) : FF := ⟨a.val ^ k % pN, Nat.mod_lt _ pN_pos⟩
def finv (a : FF) : FF := fpow a (pN - 2)
theorem ff_val_ne {a : FF} (h : a ≠ 0) : ¬ pN ∣ a.val := by
  intro hd
  have := Nat.eq_zero_of_dvd_of_lt hd a.isLt
  exact h (Fin.ext this)
theorem fpow_mul (a : FF) (e : Nat) : a * fpow a e = fpow a (e + 1) := by
  apply Fin.ext
  show a.val * (a.val ^ e % pN) % pN = a.val ^ (e + 1) % pN
  rw [Nat.mul_mod_mod, Nat.mul_comm, ← Nat.pow_succ]
theorem fpow_one {a : FF} (h : a ≠ 0) {e : Nat} (he : e = pN - 1) : fpow a e = 1 := by
  apply Fin.ext
  show a.val ^ e % pN = 1
  rw [he, fermat pN_prime (ff_val_ne h)]
theorem finv_mul {a : FF} (h : a ≠ 0) : a * finv a = 1 := by
  rw [finv, fpow_mul]
  exact fpow_one h (by decide)
theorem finv_zero : finv 0 = 0 := by
  have key : ∀ e, 0 < e → fpow 0 e = 0 := by
    intro e he
    apply Fin.ext
    show 0 ^ e % pN = 0
    rw [Nat.zero_pow he, Nat.zero_mod]
  exact key _ (by decide)
theorem fcancel {a b c : FF} (h : a ≠ 0) (e : a * b = a * c) : b = c := by
  have := finv_mul h
  grind
theorem fprod {a b : FF} (h : a * b = 0) : a = 0 ∨ b = 0 := by
  by_cases ha : a = 0
  · exact .inl ha
  · exact .inr (fcancel ha (by grind))
theorem fmul_ne {a b : FF} (h : a ≠ 0) (g : b ≠ 0) : a * b ≠ 0 := fun e => (fprod e).elim h g
theorem two_ne : (2 : FF) ≠ 0 := by decide
/-- the curve's number, no square -/
def dE : FF := ⟨20800338683988658368647408995589388737092878452977063003340006470870624536394, by decide⟩
theorem dE_eq : dE * 121666 = 121665 := by decide +kernel
theorem dE_nsq {s t : FF} (h : s * s = dE * t * t) : t = 0 := by
  apply Decidable.byContradiction
  intro ht
  have e1 : (s.val * s.val) ^ ((pN - 1) / 2) % pN = (dE.val * (t.val * t.val)) ^ ((pN - 1) / 2) % pN := by
    have h1 := congrArg Fin.val h
    have h2 : s.val * s.val % pN = dE.val * t.val % pN * t.val % pN := h1
    rw [Nat.mod_mul_mod, Nat.mul_assoc] at h2
    rw [Nat.pow_mod, h2, ← Nat.pow_mod]
  have e2 : ∀ z : Nat, (z * z) ^ ((pN - 1) / 2) = z ^ (pN - 1) := by
    intro z
    rw [show z * z = z ^ 2 from (Nat.pow_two z).symm, ← Nat.pow_mul]
    congr 1
  have e3 : dE.val ^ ((pN - 1) / 2) % pN = pN - 1 := by
    rw [← pm_eq pN 255 _ _ (by decide +kernel)]
    decide +kernel
  rw [e2 s.val, Nat.mul_pow, e2 t.val, Nat.mul_mod, fermat pN_prime (ff_val_ne ht), e3] at e1
  by_cases hs : s = 0
  · subst hs
    have e4 : ∀ e, 0 < e → ((0 : FF).val) ^ e % pN = 0 := by
      intro e he
      show 0 ^ e % pN = 0
      rw [Nat.zero_pow he, Nat.zero_mod]
    rw [e4 _ (by decide)] at e1
    exact absurd e1 (by decide)
  · rw [fermat pN_prime (ff_val_ne hs)] at e1
    exact absurd e1 (by decide)
theorem dE_ne : dE ≠ 0 := by decide
theorem one_sub_ne (y : FF) : 1 - dE * y * y ≠ 0 := by
  intro h
  have : y = 0 := dE_nsq (s := 1) (by grind)
  subst this
  exact absurd h (by decide)
/-! the curve's points -/
theorem complete {d x1 y1 x2 y2 e : FF} (hd : ∀ s t : FF, s * s = d * t * t → t = 0) (e1 : x1 * x1 + y1 * y1 = 1 + d * x1 * x1 * y1 * y1) (e2 : x2 * x2 + y2 * y2 = 1 + d * x2 * x2 * y2 * y2) (he : e * e = 1) : d * x1 * x2 * y1 * y2 ≠ e := by
  intro h
  have a : (x1 + e * y1) * (x1 + e * y1) = d * (x1 * y1 * (x2 + y2)) * (x1 * y1 * (x2 + y2)) := by grind
  have b : (x1 - e * y1) * (x1 - e * y1) = d * (x1 * y1 * (x2 - y2)) * (x1 * y1 * (x2 - y2)) := by grind
  have a0 := hd _ _ a
  have b0 := hd _ _ b
  have c : (x1 * y1) * (2 * x2) = 0 := by grind
  have n2 := two_ne
  have n1 : (1 : FF) ≠ 0 := by decide
  rcases fprod c with c | c
  · grind
  · rcases fprod c with c | c
    · exact n2 c
    · grind
structure EP where
  x : FF
  y : FF
  on : x * x + y * y = 1 + dE * x * x * y * y
theorem EP.ext2 {P Q : EP} (hx : P.x = Q.x) (hy : P.y = Q.y) : P = Q := by
  cases P; cases Q; simp only at hx hy; subst hx; subst hy; rfl
theorem den_p (P Q : EP) : 1 + dE * P.x * Q.x * P.y * Q.y ≠ 0 := by
  intro h
  exact complete (e := -1) (fun _ _ => dE_nsq) P.on Q.on (by decide) (by grind)
theorem den_m (P Q : EP) : 1 - dE * P.x * Q.x * P.y * Q.y ≠ 0 := by
  intro h
  exact complete (e := 1) (fun _ _ => dE_nsq) P.on Q.on (by decide) (by grind)
theorem closed_id {d x1 y1 x2 y2 : FF} (e1 : x1 * x1 + y1 * y1 = 1 + d * x1 * x1 * y1 * y1) (e2 : x2 * x2 + y2 * y2 = 1 + d * x2 * x2 * y2 * y2) : (x1 * y2 + y1 * x2) * (x1 * y2 + y1 * x2) * ((1 - d * x1 * x2 * y1 * y2) * (1 - d * x1 * x2 * y1 * y2)) + (y1 * y2 - x1 * x2) * (y1 * y2 - x1 * x2) * ((1 + d * x1 * x2 * y1 * y2) * (1 + d * x1 * x2 * y1 * y2)) = (1 + d * x1 * x2 * y1 * y2) * (1 - d * x1 * x2 * y1 * y2) * ((1 + d * x1 * x2 * y1 * y2) * (1 - d * x1 * x2 * y1 * y2)) + d * ((x1 * y2 + y1 * x2) * (x1 * y2 + y1 * x2)) * ((y1 * y2 - x1 * x2) * (y1 * y2 - x1 * x2)) := by grind
theorem closed {d x1 y1 x2 y2 x3 y3 : FF} (e1 : x1 * x1 + y1 * y1 = 1 + d * x1 * x1 * y1 * y1) (e2 : x2 * x2 + y2 * y2 = 1 + d * x2 * x2 * y2 * y2) (hB : 1 + d * x1 * x2 * y1 * y2 ≠ 0) (hE : 1 - d * x1 * x2 * y1 * y2 ≠ 0)
    (hx : (1 + d * x1 * x2 * y1 * y2) * x3 = x1 * y2 + y1 * x2) (hy : (1 - d * x1 * x2 * y1 * y2) * y3 = y1 * y2 - x1 * x2) : x3 * x3 + y3 * y3 = 1 + d * x3 * x3 * y3 * y3 := by
  refine fcancel (a := ((1 + d * x1 * x2 * y1 * y2) * (1 - d * x1 * x2 * y1 * y2)) * ((1 + d * x1 * x2 * y1 * y2) * (1 - d * x1 * x2 * y1 * y2))) (fmul_ne (fmul_ne hB hE) (fmul_ne hB hE)) ?_
  have k := closed_id e1 e2
  rw [← hx, ← hy] at k
  clear hx hy hB hE e1 e2
  generalize 1 + d * x1 * x2 * y1 * y2 = B at *
  generalize 1 - d * x1 * x2 * y1 * y2 = E at *
  grind
def eadd (P Q : EP) : EP := ⟨(P.x * Q.y + P.y * Q.x) * finv (1 + dE * P.x * Q.x * P.y * Q.y), (P.y * Q.y - P.x * Q.x) * finv (1 - dE * P.x * Q.x * P.y * Q.y), by
  have h1 := finv_mul (den_p P Q)
  have h2 := finv_mul (den_m P Q)
  refine closed P.on Q.on (den_p P Q) (den_m P Q) ?_ ?_
  · generalize finv (1 + dE * P.x * Q.x * P.y * Q.y) = z at *; grind
  · generalize finv (1 - dE * P.x * Q.x * P.y * Q.y) = z at *; grind⟩
theorem eadd_x (P Q : EP) : (1 + dE * P.x * Q.x * P.y * Q.y) * (eadd P Q).x = P.x * Q.y + P.y * Q.x := by
  have h1 := finv_mul (den_p P Q)
  show _ * ((P.x * Q.y + P.y * Q.x) * finv (1 + dE * P.x * Q.x * P.y * Q.y)) = _
  generalize finv (1 + dE * P.x * Q.x * P.y * Q.y) = z at *; grind
theorem eadd_y (P Q : EP) : (1 - dE * P.x * Q.x * P.y * Q.y) * (eadd P Q).y = P.y * Q.y - P.x * Q.x := by
  have h1 := finv_mul (den_m P Q)
  show _ * ((P.y * Q.y - P.x * Q.x) * finv (1 - dE * P.x * Q.x * P.y * Q.y)) = _
  generalize finv (1 - dE * P.x * Q.x * P.y * Q.y) = z at *; grind
theorem eadd_comm (P Q : EP) : eadd P Q = eadd Q P := by
  apply EP.ext2
  · refine fcancel (den_p P Q) ?_
    have a := eadd_x P Q; have b := eadd_x Q P
    grind
  · refine fcancel (den_m P Q) ?_
    have a := eadd_y P Q; have b := eadd_y Q P
    grind
theorem assoc_x (d x1 y1 x2 y2 x3 y3 : FF) (e1 : x1 * x1 + y1 * y1 = 1 + d * x1 * x1 * y1 * y1) (e2 : x2 * x2 + y2 * y2 = 1 + d * x2 * x2 * y2 * y2) (e3 : x3 * x3 + y3 * y3 = 1 + d * x3 * x3 * y3 * y3) : ((x1 * y2 + y1 * x2) * (1 - d * x1 * x2 * y1 * y2) * y3 + (y1 * y2 - x1 * x2) * (1 + d * x1 * x2 * y1 * y2) * x3) * ((1 + d * x2 * x3 * y2 * y3) * (1 - d * x2 * x3 * y2 * y3) + d * x1 * y1 * (x2 * y3 + y2 * x3) * (y2 * y3 - x2 * x3)) = (x1 * (y2 * y3 - x2 * x3) * (1 + d * x2 * x3 * y2 * y3) + y1 * (x2 * y3 + y2 * x3) * (1 - d * x2 * x3 * y2 * y3)) * ((1 + d * x1 * x2 * y1 * y2) * (1 - d * x1 * x2 * y1 * y2) + d * (x1 * y2 + y1 * x2) * (y1 * y2 - x1 * x2) * x3 * y3) := by grind
theorem assoc_y (d x1 y1 x2 y2 x3 y3 : FF) (e1 : x1 * x1 + y1 * y1 = 1 + d * x1 * x1 * y1 * y1) (e2 : x2 * x2 + y2 * y2 = 1 + d * x2 * x2 * y2 * y2) (e3 : x3 * x3 + y3 * y3 = 1 + d * x3 * x3 * y3 * y3) : ((y1 * y2 - x1 * x2) * (1 + d * x1 * x2 * y1 * y2) * y3 - (x1 * y2 + y1 * x2) * (1 - d * x1 * x2 * y1 * y2) * x3) * ((1 + d * x2 * x3 * y2 * y3) * (1 - d * x2 * x3 * y2 * y3) - d * x1 * y1 * (x2 * y3 + y2 * x3) * (y2 * y3 - x2 * x3)) = (y1 * (y2 * y3 - x2 * x3) * (1 + d * x2 * x3 * y2 * y3) - x1 * (x2 * y3 + y2 * x3) * (1 - d * x2 * x3 * y2 * y3)) * ((1 + d * x1 * x2 * y1 * y2) * (1 - d * x1 * x2 * y1 * y2) - d * (x1 * y2 + y1 * x2) * (y1 * y2 - x1 * x2) * x3 * y3) := by grind
theorem frac_p {d B E A C x y u v L : FF} (hB : B ≠ 0) (hE : E ≠ 0) (hx : B * x = A) (hy : E * y = C) (hD : 1 + d * x * u * y * v ≠ 0) (hL : (1 + d * x * u * y * v) * L = x * v + y * u) : B * E + d * A * C * u * v ≠ 0 ∧ (B * E + d * A * C * u * v) * L = A * E * v + C * B * u := by
  have e : B * E + d * A * C * u * v = B * E * (1 + d * x * u * y * v) := by subst hx; subst hy; clear hB hE hD hL; grind
  refine ⟨e ▸ fmul_ne (fmul_ne hB hE) hD, ?_⟩
  have f : B * E * (1 + d * x * u * y * v) * L = B * E * (x * v + y * u) := by rw [← hL]; clear hB hE hD hL hx hy e; grind
  rw [e, f]; subst hx; subst hy; clear hB hE hD hL e f; grind
theorem frac_m {d B E A C x y u v L : FF} (hB : B ≠ 0) (hE : E ≠ 0) (hx : B * x = A) (hy : E * y = C) (hD : 1 - d * x * u * y * v ≠ 0) (hL : (1 - d * x * u * y * v) * L = y * v - x * u) : B * E - d * A * C * u * v ≠ 0 ∧ (B * E - d * A * C * u * v) * L = C * B * v - A * E * u := by
  have e : B * E - d * A * C * u * v = B * E * (1 - d * x * u * y * v) := by subst hx; subst hy; clear hB hE hD hL; grind
  refine ⟨e ▸ fmul_ne (fmul_ne hB hE) hD, ?_⟩
  have f : B * E * (1 - d * x * u * y * v) * L = B * E * (y * v - x * u) := by rw [← hL]; clear hB hE hD hL hx hy e; grind
  rw [e, f]; subst hx; subst hy; clear hB hE hD hL e f; grind
theorem cross {W V L R M N : FF} (hW : W ≠ 0) (hV : V ≠ 0) (h1 : W * L = M) (h2 : V * R = N) (h : M * V = N * W) : L = R := by
  refine fcancel (fmul_ne hW hV) ?_
  subst h1; subst h2; clear hW hV; grind
theorem eadd_assoc (P Q R : EP) : eadd (eadd P Q) R = eadd P (eadd Q R) := by
  have a1 := frac_p (den_p P Q) (den_m P Q) (eadd_x P Q) (eadd_y P Q) (den_p (eadd P Q) R) (eadd_x (eadd P Q) R)
  have b1 := frac_m (den_p P Q) (den_m P Q) (eadd_x P Q) (eadd_y P Q) (den_m (eadd P Q) R) (eadd_y (eadd P Q) R)
  rw [eadd_comm P (eadd Q R)]
  have a2 := frac_p (den_p Q R) (den_m Q R) (eadd_x Q R) (eadd_y Q R) (den_p (eadd Q R) P) (eadd_x (eadd Q R) P)
  have b2 := frac_m (den_p Q R) (den_m Q R) (eadd_x Q R) (eadd_y Q R) (den_m (eadd Q R) P) (eadd_y (eadd Q R) P)
  have ax := assoc_x dE P.x P.y Q.x Q.y R.x R.y P.on Q.on R.on
  have ay := assoc_y dE P.x P.y Q.x Q.y R.x R.y P.on Q.on R.on
  apply EP.ext2
  · refine cross a1.1 a2.1 a1.2 a2.2 ?_
    clear a1 b1 a2 b2 ay; grind
  · refine cross b1.1 b2.1 b1.2 b2.2 ?_
    clear a1 b1 a2 b2 ax; grind
def e0 : EP := ⟨0, 1, by decide⟩
theorem zero_eadd (P : EP) : eadd e0 P = P := by
  apply EP.ext2
  · refine fcancel (den_p e0 P) ((eadd_x e0 P).trans ?_)
    show 0 * P.y + 1 * P.x = (1 + dE * 0 * P.x * 1 * P.y) * P.x
    grind
  · refine fcancel (den_m e0 P) ((eadd_y e0 P).trans ?_)
    show 1 * P.y - 0 * P.x = (1 - dE * 0 * P.x * 1 * P.y) * P.y
    grind
theorem eadd_zero (P : EP) : eadd P e0 = P := by rw [eadd_comm, zero_eadd]
def eneg (P : EP) : EP := ⟨-P.x, P.y, by have := P.on; grind⟩
theorem eadd_neg (P : EP) : eadd P (eneg P) = e0 := by
  have h := P.on
  apply EP.ext2
  · refine fcancel (den_p P (eneg P)) ((eadd_x P (eneg P)).trans ?_)
    show P.x * P.y + P.y * (-P.x) = _ * 0
    grind
  · refine fcancel (den_m P (eneg P)) ((eadd_y P (eneg P)).trans ?_)
    show P.y * P.y - P.x * (-P.x) = (1 - dE * P.x * (-P.x) * P.y * P.y) * 1
    grind
def emul : Nat → EP → EP
  | 0, _ => e0
  | n + 1, P => eadd (emul n P) P
theorem emul_add (m n : Nat) (P : EP) : emul (m + n) P = eadd (emul m P) (emul n P) := by
  induction n with
  | zero => rw [Nat.add_zero, emul, eadd_zero]
  | succ n ih => rw [← Nat.add_assoc, emul, ih, emul, eadd_assoc]
theorem emul_mul (m n : Nat) (P : EP) : emul (m * n) P = emul m (emul n P) := by
  induction m with
  | zero => rw [Nat.zero_mul]; rfl
  | succ m ih => rw [Nat.succ_mul, emul_add, ih, emul]
theorem emul_zero : ∀ n, emul n e0 = e0
  | 0 => rfl
  | n + 1 => by rw [emul, emul_zero n, zero_eadd]
theorem emul_one (P : EP) : emul 1 P = P := by rw [emul, emul, zero_eadd]
theorem emul_comm (m n : Nat) (P : EP) : emul m (emul n P) = emul n (emul m P) := by rw [← emul_mul, Nat.mul_comm, emul_mul]

end Go.Proofs.Ytnhjmapapbhhpaa
