import Derived.Test.YtnhjmapapbhhpaaCG2
import Derived.Test.YtnhjmapapbhhpaaCV5
namespace Go.Proofs.Ytnhjmapapbhhpaa
set_option maxRecDepth 20000
set_option linter.unusedVariables false
set_option linter.unusedSimpArgs false
open Go.SE Go.RowKit
/-! the ladder goes along the multiples of a point -/
def ffo (a : Nat) : FF := Fin.ofNat pN a
theorem ffo_val {a : Nat} (h : a < pN) : (ffo a).val = a := Nat.mod_eq_of_lt h
theorem ffo_of (a : FF) : ffo a.val = a := Fin.ext (Nat.mod_eq_of_lt a.isLt)
theorem ffo_mul (a b : Nat) : ffo (fmul a b) = ffo a * ffo b := by
  apply Fin.ext
  show a * b % pN % pN = (a % pN) * (b % pN) % pN
  rw [Nat.mod_mod, ← Nat.mul_mod]
theorem ffo_add (a b : Nat) : ffo (fadd a b) = ffo a + ffo b := by
  apply Fin.ext
  show (a + b) % pN % pN = (a % pN + b % pN) % pN
  rw [Nat.mod_mod, ← Nat.add_mod]
theorem ffo_sub {a b : Nat} (hb : b < pN) : ffo (fsub a b) = ffo a - ffo b := by
  apply Fin.ext
  show (a + (pN - b)) % pN % pN = ((pN - b % pN) + a % pN) % pN
  rw [Nat.mod_mod, Nat.mod_eq_of_lt hb, Nat.add_comm (pN - b), Nat.mod_add_mod]
/-- these two stand for a point -/
def RepP (X Z : FF) (P : EP) : Prop := X + Z ≠ 0 ∧ X - Z = (X + Z) * P.y
/-- the squares of a point on the curve -/
theorem on_sq {d x y : FF} (hd : d * 121666 = 121665) (h : x * x + y * y = 1 + d * x * x * y * y) : 121666 * (1 - d * y * y) * (1 - x * x) = y * y := by grind
theorem dbl_id {d x y : FF} (hd : d * 121666 = 121665) (h : x * x + y * y = 1 + d * x * x * y * y) : (y * y + (1 - y * y) * (1 + 121665 * (1 - y * y))) = 121666 * (1 - d * y * y) * (1 - d * x * x * y * y) ∧ (y * y - (1 - y * y) * (1 + 121665 * (1 - y * y))) = 121666 * (1 - d * y * y) * (y * y - x * x) := by
  constructor <;> grind
theorem n66_ne : (121666 : FF) ≠ 0 := by decide
theorem rep_dbl {X Z : FF} {P : EP} (h : RepP X Z P) : RepP (((X + Z) * (X + Z)) * ((X - Z) * (X - Z))) (((X + Z) * (X + Z) - (X - Z) * (X - Z)) * ((X + Z) * (X + Z) + 121665 * ((X + Z) * (X + Z) - (X - Z) * (X - Z)))) (eadd P P) := by
  obtain ⟨h1, h2⟩ := h
  rw [h2]
  generalize X + Z = a at *
  obtain ⟨i1, i2⟩ := dbl_id dE_eq P.on
  have m := den_m P P
  have yy := eadd_y P P
  have n := one_sub_ne P.y
  have e1 : a * a * (a * P.y * (a * P.y)) + (a * a - a * P.y * (a * P.y)) * (a * a + 121665 * (a * a - a * P.y * (a * P.y))) = (a * a) * (a * a) * (121666 * (1 - dE * P.y * P.y) * (1 - dE * P.x * P.x * P.y * P.y)) := by
    rw [← i1]; clear h1 h2 i1 i2 m yy n; grind
  have e2 : a * a * (a * P.y * (a * P.y)) - (a * a - a * P.y * (a * P.y)) * (a * a + 121665 * (a * a - a * P.y * (a * P.y))) = (a * a) * (a * a) * (121666 * (1 - dE * P.y * P.y) * (P.y * P.y - P.x * P.x)) := by
    rw [← i2]; clear h1 h2 i1 i2 m yy n e1; grind
  refine ⟨?_, ?_⟩
  · rw [e1]
    exact fmul_ne (fmul_ne (fmul_ne h1 h1) (fmul_ne h1 h1)) (fmul_ne (fmul_ne n66_ne n) m)
  · rw [e1, e2, ← yy]; clear h1 h2 i1 i2 m yy n e1 e2; grind
theorem dif_id {d x1 y1 x2 y2 : FF} (e1 : x1 * x1 + y1 * y1 = 1 + d * x1 * x1 * y1 * y1) (e2 : x2 * x2 + y2 * y2 = 1 + d * x2 * x2 * y2 * y2) : ((1 - d * x1 * x2 * y1 * y2) + (y1 * y2 - x1 * x2)) * ((1 + d * x1 * x2 * y1 * y2) + (y1 * y2 + x1 * x2)) * ((y1 - y2) * (y1 - y2)) = ((1 - d * x1 * x2 * y1 * y2) - (y1 * y2 - x1 * x2)) * ((1 + d * x1 * x2 * y1 * y2) - (y1 * y2 + x1 * x2)) * ((y1 + y2) * (y1 + y2)) := by grind
/-- the sum's and the difference's place -/
theorem dif_law (S T : EP) : (1 + (eadd S T).y) * (1 + (eadd S (eneg T)).y) * ((S.y - T.y) * (S.y - T.y)) = (1 - (eadd S T).y) * (1 - (eadd S (eneg T)).y) * ((S.y + T.y) * (S.y + T.y)) := by
  have k := dif_id S.on T.on
  have m := den_m S T; have y := eadd_y S T
  have p : 1 + dE * S.x * T.x * S.y * T.y ≠ 0 := den_p S T
  have z : (1 + dE * S.x * T.x * S.y * T.y) * (eadd S (eneg T)).y = S.y * T.y + S.x * T.x := by
    have h := eadd_y S (eneg T)
    have hx : (eneg T).x = -T.x := rfl
    have hy : (eneg T).y = T.y := rfl
    rw [hx, hy] at h
    clear k m y p; grind
  rw [← y, ← z] at k
  generalize 1 - dE * S.x * T.x * S.y * T.y = E at *
  generalize 1 + dE * S.x * T.x * S.y * T.y = B at *
  refine fcancel (fmul_ne m p) ?_
  clear m p y z; grind
theorem one_id {a b : FF} (h : a * a = 1) (g : b * b = 1) : (1 - a * b) * (1 + a * b) = 0 := by grind
theorem zmul {y : FF} (hy : y = 0) (k : FF) : y * k = 0 := by rw [hy]; exact Fin.zero_mul k
theorem on0 {d x y : FF} (h : x * x + y * y = 1 + d * x * x * y * y) (hy : y = 0) : x * x = 1 := by
  have e : x * x = 1 + y * (d * x * x * y - y) := by grind
  rw [e, zmul hy]; decide
theorem yq0 {d x z y v q : FF} (h : (1 + d * x * z * y * v) * q = y * v + x * z) (hy : y = 0) (hv : v = 0) : q = x * z := by
  have e : q = x * z + y * (v - d * x * z * v * q) := by grind
  rw [e, zmul hy]; exact Fin.add_zero _
theorem rep_dif {X Z V W u : FF} {S T Q : EP} (hT : RepP X Z T) (hS : RepP V W S) (hQ : S = eadd T Q) (hu : u * (1 - Q.y) = 1 + Q.y) (hu0 : u ≠ 0) (hq : 1 - Q.y ≠ 0) (hq2 : 1 + Q.y ≠ 0) :
    RepP (((V - W) * (X + Z) + (V + W) * (X - Z)) * ((V - W) * (X + Z) + (V + W) * (X - Z))) (u * (((V - W) * (X + Z) - (V + W) * (X - Z)) * ((V - W) * (X + Z) - (V + W) * (X - Z)))) (eadd T S) := by
  obtain ⟨t1, t2⟩ := hT
  obtain ⟨s1, s2⟩ := hS
  rw [t2, s2]
  generalize X + Z = a at *
  generalize V + W = b at *
  have hd : eadd S (eneg T) = Q := by rw [hQ, eadd_comm T Q, eadd_assoc, eadd_neg, eadd_zero]
  have k := dif_law S T
  rw [hd, eadd_comm S T] at k
  have yq : (1 + dE * S.x * T.x * S.y * T.y) * Q.y = S.y * T.y + S.x * T.x := by
    have h := eadd_y S (eneg T)
    have hx : (eneg T).x = -T.x := rfl
    have hy : (eneg T).y = T.y := rfl
    rw [hx, hy, hd] at h
    clear k hu; grind
  generalize hy5 : (eadd T S).y = y5 at k
  have e1 : (b * S.y * a + b * (a * T.y)) * (b * S.y * a + b * (a * T.y)) = (a * b) * (a * b) * ((S.y + T.y) * (S.y + T.y)) := by clear hu k yq; grind
  have e2 : (b * S.y * a - b * (a * T.y)) * (b * S.y * a - b * (a * T.y)) = (a * b) * (a * b) * ((S.y - T.y) * (S.y - T.y)) := by clear hu k yq e1; grind
  rw [e1, e2]
  have c : (1 + y5) * (u * ((a * b) * (a * b) * ((S.y - T.y) * (S.y - T.y)))) = (1 - y5) * ((a * b) * (a * b) * ((S.y + T.y) * (S.y + T.y))) := by
    refine fcancel hq ?_
    generalize (S.y - T.y) * (S.y - T.y) = m at *
    generalize (S.y + T.y) * (S.y + T.y) = n at *
    generalize (a * b) * (a * b) = w at *
    clear t1 t2 s1 s2 e1 e2 yq hd hq hq2 hu0 hQ
    have : (1 - Q.y) * ((1 + y5) * (u * (w * m))) = u * (1 - Q.y) * (1 + y5) * m * w := by clear hu k; grind
    rw [this, hu]
    have : (1 + Q.y) * (1 + y5) * m * w = (1 + y5) * (1 + Q.y) * m * w := by clear hu k this; grind
    rw [this, k]
    clear hu k; grind
  have hab : a * b ≠ 0 := fmul_ne t1 s1
  have hw := fmul_ne hab hab
  have key : (a * b) * (a * b) * ((S.y + T.y) * (S.y + T.y)) - u * ((a * b) * (a * b) * ((S.y - T.y) * (S.y - T.y))) = ((a * b) * (a * b) * ((S.y + T.y) * (S.y + T.y)) + u * ((a * b) * (a * b) * ((S.y - T.y) * (S.y - T.y)))) * y5 := by
    generalize (a * b) * (a * b) * ((S.y + T.y) * (S.y + T.y)) = p at *
    generalize u * ((a * b) * (a * b) * ((S.y - T.y) * (S.y - T.y))) = q at *
    clear hu k yq e1 e2 hy5; grind
  refine ⟨fun h => ?_, by rw [hy5]; exact key⟩
  rw [h] at key
  have q0 : (a * b) * (a * b) * ((S.y + T.y) * (S.y + T.y)) = 0 := by
    generalize (a * b) * (a * b) * ((S.y + T.y) * (S.y + T.y)) = p at *
    generalize u * ((a * b) * (a * b) * ((S.y - T.y) * (S.y - T.y))) = q at *
    have n2 := two_ne
    have : 2 * p = 0 := by clear hu k yq e1 e2 hy5 c; grind
    rcases fprod this with h1 | h1
    · exact absurd h1 n2
    · exact h1
  have q1 : u * ((a * b) * (a * b) * ((S.y - T.y) * (S.y - T.y))) = 0 := by rw [q0] at h; generalize u * ((a * b) * (a * b) * ((S.y - T.y) * (S.y - T.y))) = q at *; clear hu k yq e1 e2 hy5 c key; grind
  have r0 : S.y + T.y = 0 := by
    rcases fprod q0 with h1 | h1
    · exact absurd h1 hw
    · exact (fprod h1).elim id id
  have r1 : S.y - T.y = 0 := by
    rcases fprod q1 with h1 | h1
    · exact absurd h1 hu0
    · rcases fprod h1 with h1 | h1
      · exact absurd h1 hw
      · exact (fprod h1).elim id id
  have n2 := two_ne
  have sy : S.y = 0 := by
    have : 2 * S.y = 0 := by clear hu k yq e1 e2 hy5 c key q0 q1; grind
    rcases fprod this with h1 | h1
    · exact absurd h1 n2
    · exact h1
  have ty : T.y = 0 := by clear hu k yq e1 e2 hy5 c key q0 q1; grind
  have on1 := S.on; have on2 := T.on
  have this : (1 - Q.y) * (1 + Q.y) = 0 := by
    have a1 : S.x * S.x = 1 := on0 on1 sy
    have a2 : T.x * T.x = 1 := on0 on2 ty
    have a3 : Q.y = S.x * T.x := yq0 yq sy ty
    rw [a3]; exact one_id a1 a2
  rcases fprod this with h1 | h1
  · exact hq h1
  · exact hq2 h1
theorem rep_dif2 {X Z V W u : FF} {S T Q : EP} (hT : RepP X Z T) (hS : RepP V W S) (hQ : T = eadd S Q) (hu : u * (1 - Q.y) = 1 + Q.y) (hu0 : u ≠ 0) (hq : 1 - Q.y ≠ 0) (hq2 : 1 + Q.y ≠ 0) :
    RepP (((V - W) * (X + Z) + (V + W) * (X - Z)) * ((V - W) * (X + Z) + (V + W) * (X - Z))) (u * (((V - W) * (X + Z) - (V + W) * (X - Z)) * ((V - W) * (X + Z) - (V + W) * (X - Z)))) (eadd S T) := by
  have h := rep_dif hS hT hQ hu hu0 hq hq2
  have e1 : ((X - Z) * (V + W) + (X + Z) * (V - W)) * ((X - Z) * (V + W) + (X + Z) * (V - W)) = ((V - W) * (X + Z) + (V + W) * (X - Z)) * ((V - W) * (X + Z) + (V + W) * (X - Z)) := by clear h hu hT hS; grind
  have e2 : ((X - Z) * (V + W) - (X + Z) * (V - W)) * ((X - Z) * (V + W) - (X + Z) * (V - W)) = ((V - W) * (X + Z) - (V + W) * (X - Z)) * ((V - W) * (X + Z) - (V + W) * (X - Z)) := by clear h hu hT hS e1; grind
  rw [e1, e2] at h
  exact h
/-- where the ladder stands: at m Q and (m + 1) Q -/
def At2 (Q : EP) (m : Nat) (s : S4 Nat) : Prop := RepP (ffo s.x2) (ffo s.z2) (emul m Q) ∧ RepP (ffo s.x3) (ffo s.z3) (emul (m + 1) Q)
theorem step_ff {u : Nat} {s : S4 Nat} (l : LtS s) :
    ffo (stepG fadd fsub fmul 121665 u s).x2 = ((ffo s.x2 + ffo s.z2) * (ffo s.x2 + ffo s.z2)) * ((ffo s.x2 - ffo s.z2) * (ffo s.x2 - ffo s.z2)) ∧
    ffo (stepG fadd fsub fmul 121665 u s).z2 = ((ffo s.x2 + ffo s.z2) * (ffo s.x2 + ffo s.z2) - (ffo s.x2 - ffo s.z2) * (ffo s.x2 - ffo s.z2)) * ((ffo s.x2 + ffo s.z2) * (ffo s.x2 + ffo s.z2) + 121665 * ((ffo s.x2 + ffo s.z2) * (ffo s.x2 + ffo s.z2) - (ffo s.x2 - ffo s.z2) * (ffo s.x2 - ffo s.z2))) ∧
    ffo (stepG fadd fsub fmul 121665 u s).x3 = ((ffo s.x3 - ffo s.z3) * (ffo s.x2 + ffo s.z2) + (ffo s.x3 + ffo s.z3) * (ffo s.x2 - ffo s.z2)) * ((ffo s.x3 - ffo s.z3) * (ffo s.x2 + ffo s.z2) + (ffo s.x3 + ffo s.z3) * (ffo s.x2 - ffo s.z2)) ∧
    ffo (stepG fadd fsub fmul 121665 u s).z3 = ffo u * (((ffo s.x3 - ffo s.z3) * (ffo s.x2 + ffo s.z2) - (ffo s.x3 + ffo s.z3) * (ffo s.x2 - ffo s.z2)) * ((ffo s.x3 - ffo s.z3) * (ffo s.x2 + ffo s.z2) - (ffo s.x3 + ffo s.z3) * (ffo s.x2 - ffo s.z2))) := by
  have c : ffo 121665 = 121665 := rfl
  have l2 := l.2.1; have l3 := l.2.2.2
  refine ⟨?_, ?_, ?_, ?_⟩
  · show ffo (fmul _ _) = _
    simp only [ffo_mul, ffo_add, ffo_sub l2]
  · show ffo (fmul (fsub _ (fmul _ _)) (fadd _ (fmul _ (fsub _ (fmul _ _))))) = _
    simp only [ffo_mul, ffo_add, ffo_sub l2, ffo_sub (fmul_lt _ _), c]
  · show ffo (fmul _ _) = _
    simp only [ffo_mul, ffo_add, ffo_sub l2, ffo_sub l3]
  · show ffo (fmul _ (fmul (fsub _ (fmul _ _)) (fsub _ (fmul _ _)))) = _
    simp only [ffo_mul, ffo_add, ffo_sub l2, ffo_sub l3, ffo_sub (fmul_lt _ _)]
theorem at2_step {Q : EP} {u m : Nat} {s : S4 Nat} (b : Bool) (l : LtS s) (h : At2 Q m s) (hu : ffo u * (1 - Q.y) = 1 + Q.y) (hu0 : ffo u ≠ 0) (hq : 1 - Q.y ≠ 0) (hq2 : 1 + Q.y ≠ 0) :
    At2 Q (2 * m + b.toNat) (swapS b (stepG fadd fsub fmul 121665 u (swapS b s))) := by
  obtain ⟨h1, h2⟩ := h
  have e : emul (m + 1) Q = eadd (emul m Q) Q := rfl
  cases b
  · obtain ⟨f1, f2, f3, f4⟩ := step_ff (u := u) l
    have a := rep_dbl h1
    have d := rep_dif h1 h2 e hu hu0 hq hq2
    rw [← emul_add] at a d
    show RepP (ffo (stepG fadd fsub fmul 121665 u s).x2) (ffo (stepG fadd fsub fmul 121665 u s).z2) _ ∧ RepP (ffo (stepG fadd fsub fmul 121665 u s).x3) (ffo (stepG fadd fsub fmul 121665 u s).z3) _
    rw [f1, f2, f3, f4]
    rw [show m + m = 2 * m + false.toNat from (Nat.two_mul m).symm] at a
    rw [show m + (m + 1) = 2 * m + false.toNat + 1 by simp only [Bool.toNat_false]; omega] at d
    exact ⟨a, d⟩
  · have l' : LtS (swapS true s) := swap_lt true l
    obtain ⟨f1, f2, f3, f4⟩ := step_ff (u := u) l'
    have a := rep_dbl h2
    have d := rep_dif2 h2 h1 e hu hu0 hq hq2
    rw [← emul_add] at a d
    show RepP (ffo (stepG fadd fsub fmul 121665 u (swapS true s)).x3) (ffo (stepG fadd fsub fmul 121665 u (swapS true s)).z3) _ ∧ RepP (ffo (stepG fadd fsub fmul 121665 u (swapS true s)).x2) (ffo (stepG fadd fsub fmul 121665 u (swapS true s)).z2) _
    rw [f1, f2, f3, f4]
    rw [show m + 1 + (m + 1) = 2 * m + true.toNat + 1 by simp only [Bool.toNat_true]; omega] at a
    rw [show m + (m + 1) = 2 * m + true.toNat by simp only [Bool.toNat_true]; omega] at d
    exact ⟨d, a⟩
theorem bit_split (k j : Nat) : k / 2 ^ j = 2 * (k / 2 ^ (j + 1)) + (k.testBit j).toNat := by
  rw [Nat.testBit_eq_decide_div_mod_eq, Nat.pow_succ, ← Nat.div_div_eq_div_mul]
  have h := Nat.mod_lt (k / 2 ^ j) (show 2 > 0 by decide)
  have d := Nat.div_add_mod (k / 2 ^ j) 2
  by_cases e : k / 2 ^ j % 2 = 1
  · simp only [e, decide_true, Bool.toNat_true]; omega
  · simp only [e, decide_false, Bool.toNat_false]; omega
theorem emul_one' (Q : EP) : emul (0 + 1) Q = Q := emul_one Q
theorem rep_c1 {u y : FF} (hu : u * (1 - y) = 1 + y) (h : u + 1 = 0) : (2 : FF) = 0 := by
  have e : (2 : FF) = (u + 1) * (1 - y) + ((1 + y) - u * (1 - y)) := by clear h hu; grind
  rw [e, hu, zmul h]; clear e h hu; grind
theorem rep_c2 {u y : FF} (hu : u * (1 - y) = 1 + y) : u - 1 = (u + 1) * y := by grind
theorem lad_at {Q : EP} {u k : Nat} (hul : u < pN) (hk : k < 2 ^ 255) (hu : ffo u * (1 - Q.y) = 1 + Q.y) (hu0 : ffo u ≠ 0) (hq : 1 - Q.y ≠ 0) (hq2 : 1 + Q.y ≠ 0) :
    ∀ n, n ≤ 255 → At2 Q (k / 2 ^ (255 - n)) (ladG fadd fsub fmul 121665 1 0 u k n)
  | 0, _ => by
    rw [Nat.div_eq_of_lt hk]
    refine ⟨⟨show ffo 1 + ffo 0 ≠ 0 by decide, ?_⟩, ?_, ?_⟩
    · show ffo 1 - ffo 0 = (ffo 1 + ffo 0) * (1 : FF)
      decide
    · show ffo u + ffo 1 ≠ 0
      intro h
      have e1 : ffo 1 = 1 := rfl
      rw [e1] at h
      have n2 := two_ne
      exact two_ne (rep_c1 hu h)
    · rw [emul_one']
      show ffo u - ffo 1 = (ffo u + ffo 1) * Q.y
      have e1 : ffo 1 = 1 := rfl
      rw [e1]; exact rep_c2 hu
  | n + 1, h => by
    have ih := at2_step (k.testBit (254 - n)) (lad_lt u k hul n) (lad_at hul hk hu hu0 hq hq2 n (by omega)) hu hu0 hq hq2
    have e := bit_split k (254 - n)
    rw [show 254 - n + 1 = 255 - n by omega] at e
    rw [show 255 - (n + 1) = 254 - n by omega, e]
    exact ih
theorem fsub0 (a : FF) : a - 0 = a := by grind
/-! what comes out -/
theorem fpow_add (a : FF) (m n : Nat) : fpow a m * fpow a n = fpow a (m + n) := by
  apply Fin.ext
  show (a.val ^ m % pN) * (a.val ^ n % pN) % pN = a.val ^ (m + n) % pN
  rw [← Nat.mul_mod, Nat.pow_add]
theorem fpow_1 (a : FF) : fpow a 1 = a := by
  apply Fin.ext
  show a.val ^ 1 % pN = a.val
  rw [Nat.pow_one, Nat.mod_eq_of_lt a.isLt]
def exq : Nat → Nat
  | 0 => 1
  | n + 1 => if n = 251 ∨ n = 249 then exq n + exq n else exq n + exq n + 1
theorem exq_all : exq 254 = pN - 2 := by decide +kernel
theorem inv_ff (z : Nat) : ∀ n, ffo (invG fmul z n) = fpow (ffo z) (exq n)
  | 0 => (fpow_1 _).symm
  | n + 1 => by
    have ih := inv_ff z n
    unfold invG exq
    by_cases h : n = 251 ∨ n = 249
    · rw [if_pos h, if_pos h, ffo_mul, ih, fpow_add]
    · rw [if_neg h, if_neg h, ffo_mul, ffo_mul, ih, fpow_add, ← fpow_add _ _ 1, fpow_1]
theorem inv_all (z : Nat) : ffo (invG fmul z 254) = finv (ffo z) := by rw [inv_ff, exq_all]; rfl
/-- a point's place on the other curve -/
def uqf (y : FF) : FF := (1 + y) * finv (1 - y)
theorem rep_x1 {X Z y : FF} (h : X - Z = (X + Z) * y) : 2 * Z = (X + Z) * (1 - y) := by grind
theorem rep_x2 {X Z y : FF} (h : X - Z = (X + Z) * y) : (1 - y) * X = (1 + y) * Z := by grind
theorem fin_a {X Z y a b : FF} (h : (1 - y) * X = (1 + y) * Z) (ha : Z * a = 1) (hb : (1 - y) * b = 1) : Z * (1 - y) * (X * a) = Z * (1 - y) * ((1 + y) * b) := by
  have e1 : Z * (1 - y) * (X * a) = (1 - y) * X * (Z * a) := by clear h ha hb; grind
  have e2 : Z * (1 - y) * ((1 + y) * b) = (1 + y) * Z * ((1 - y) * b) := by clear h ha hb e1; grind
  rw [e1, e2, ha, hb, h]
theorem rep_out {X Z : FF} {P : EP} (h : RepP X Z P) : X * finv Z = uqf P.y := by
  obtain ⟨h1, h2⟩ := h
  have a := rep_x1 h2
  have b := rep_x2 h2
  unfold uqf
  by_cases hy : 1 - P.y = 0
  · have hz : Z = 0 := by
      have : 2 * Z = 0 := by rw [a, hy]; exact Fin.mul_zero _
      exact (fprod this).elim (fun h => absurd h two_ne) id
    rw [hz, hy, finv_zero, Fin.mul_zero, Fin.mul_zero]
  · have hz : Z ≠ 0 := by
      intro hz
      rw [hz] at a
      have e : (X + 0) * (1 - P.y) = 0 := a.symm.trans (Fin.mul_zero _)
      rw [hz] at h1
      exact (fprod e).elim h1 hy
    exact fcancel (fmul_ne hz hy) (fin_a b (finv_mul hz) (finv_mul hy))
theorem uqf_zero {y : FF} (h : uqf y = 0) : y = 1 ∨ y = -1 := by
  rcases fprod h with h1 | h1
  · exact .inr (by clear h; grind)
  · by_cases hy : 1 - y = 0
    · exact .inl (by clear h h1; grind)
    · have := finv_mul hy
      rw [h1, Fin.mul_zero] at this
      exact absurd this (by decide)
theorem uqf_1 : uqf 1 = 0 := by
  unfold uqf
  rw [show (1 : FF) - 1 = 0 by decide, finv_zero, Fin.mul_zero]
theorem uqf_m : uqf (-1) = 0 := by
  unfold uqf
  rw [show (1 : FF) + -1 = 0 by decide, Fin.zero_mul]
/-- points of order two at most -/
def Low2 (P : EP) : Prop := P.x = 0 ∧ (P.y = 1 ∨ P.y = -1)
theorem low2_x {d x y : FF} (h : x * x + y * y = 1 + d * x * x * y * y) (hy : y * y = 1) : (1 - d) * (x * x) = 0 := by
  have e : (1 - d) * (x * x) = (x * x + y * y - (1 + d * x * x * y * y)) + (1 - y * y) * (1 - d * x * x) := by clear h hy; grind
  rw [e, h, hy]; clear e h hy; grind
theorem low2_of {P : EP} (h : P.y = 1 ∨ P.y = -1) : Low2 P := by
  refine ⟨?_, h⟩
  have hy : P.y * P.y = 1 := by rcases h with h | h <;> rw [h] <;> decide
  have e := low2_x P.on hy
  rcases fprod e with h1 | h1
  · exact absurd h1 (by decide)
  · exact (fprod h1).elim id id
theorem low2_add {P Q : EP} (hP : Low2 P) (hQ : Low2 Q) : Low2 (eadd P Q) := by
  refine low2_of ?_
  have h := eadd_y P Q
  have e1 : P.x * Q.x = 0 := by rw [hP.1]; exact Fin.zero_mul _
  have e2 : dE * P.x * Q.x * P.y * Q.y = 0 := by
    have : dE * P.x * Q.x * P.y * Q.y = P.x * (dE * Q.x * P.y * Q.y) := by clear h; grind
    rw [this, hP.1]; exact Fin.zero_mul _
  rw [e1, e2] at h
  have e3 : (eadd P Q).y = P.y * Q.y := by
    have a : (1 - 0 : FF) = 1 := by decide
    rw [a, Fin.one_mul, fsub0] at h
    exact h
  rw [e3]
  rcases hP.2 with a | a <;> rcases hQ.2 with b | b <;> rw [a, b]
  · exact .inl (by decide)
  · exact .inr (by decide)
  · exact .inr (by decide)
  · exact .inl (by decide)
theorem low2_mul {P : EP} (h : Low2 P) : ∀ n, Low2 (emul n P)
  | 0 => ⟨rfl, .inl rfl⟩
  | n + 1 => low2_add (low2_mul h n) h
theorem low2_dbl {P : EP} (h : Low2 P) : eadd P P = e0 := by
  have hs := low2_add h h
  apply EP.ext2 hs.1
  have g := eadd_y P P
  have e2 : dE * P.x * P.x * P.y * P.y = 0 := by
    have : dE * P.x * P.x * P.y * P.y = P.x * (dE * P.x * P.y * P.y) := by clear g; grind
    rw [this, h.1]; exact Fin.zero_mul _
  have e1 : P.x * P.x = 0 := by rw [h.1]; exact Fin.zero_mul _
  have e3 : P.y * P.y = 1 := by rcases h.2 with a | a <;> rw [a] <;> decide
  rw [e2, e1, e3] at g
  have a : (1 - 0 : FF) = 1 := by decide
  rw [a, Fin.one_mul] at g
  exact g
theorem low2_u {P : EP} (h : Low2 P) : uqf P.y = 0 := by
  rcases h.2 with a | a <;> rw [a]
  · exact uqf_1
  · exact uqf_m
theorem u_one {y u : FF} (h : u = uqf y) (hy : 1 - y ≠ 0) : u * (1 - y) = 1 + y := by
  have f := finv_mul hy
  rw [h, uqf, Fin.mul_assoc, Fin.mul_comm (finv _), f, Fin.mul_one]
theorem ffo_zero {u : Nat} (hu : u < pN) (h : ffo u = 0) : u = 0 := by
  have := congrArg Fin.val h
  rw [ffo_val hu] at this
  exact this
/-- the ladder's end is the multiple's place -/
theorem lad_val {Q : EP} {u k : Nat} (hul : u < pN) (hk : k < 2 ^ 255) (hu : ffo u = uqf Q.y) : ffo (xN k u) = uqf (emul k Q).y := by
  by_cases h0 : uqf Q.y = 0
  · have z := ffo_zero hul (hu.trans h0)
    rw [z, x_zero, low2_u (low2_mul (low2_of (uqf_zero h0)) k)]
    rfl
  · have hq : 1 - Q.y ≠ 0 := by
      intro h
      apply h0
      unfold uqf
      rw [h, finv_zero, Fin.mul_zero]
    have hq2 : 1 + Q.y ≠ 0 := by
      intro h
      apply h0
      unfold uqf
      rw [h, Fin.zero_mul]
    have h := (lad_at hul hk (u_one hu hq) (by rw [hu]; exact h0) hq hq2 255 (Nat.le_refl _)).1
    rw [Nat.sub_self, Nat.pow_zero, Nat.div_one] at h
    have := rep_out h
    rw [← this, ← inv_all, ← ffo_mul]
    rfl
/-! the base point -/
def eB : EP := ⟨⟨9771384041963202563870679428059935816164187996444183106833894008023910952347, by decide⟩, ⟨46316835694926478169428394003475163141307993866256225615783033603165251855960, by decide⟩, by decide +kernel⟩
theorem eB_u : ffo 9 = uqf eB.y := by
  have hy : 1 - eB.y ≠ 0 := by decide +kernel
  have h : (9 : FF) * (1 - eB.y) = 1 + eB.y := by decide +kernel
  unfold uqf
  rw [← h, Fin.mul_assoc, finv_mul hy, Fin.mul_one]
  rfl
theorem eB_val {k : Nat} (hk : k < 2 ^ 255) : ffo (xN k 9) = uqf (emul k eB).y := lad_val (by decide) hk eB_u
theorem ffo_inj {a b : Nat} (ha : a < pN) (hb : b < pN) (h : ffo a = ffo b) : a = b := by
  have := congrArg Fin.val h
  rwa [ffo_val ha, ffo_val hb] at this
theorem x_two {a b : Nat} (ha : a < 2 ^ 255) (hb : b < 2 ^ 255) : xN a (xN b 9) = xN b (xN a 9) := by
  refine ffo_inj (xN_lt _ _) (xN_lt _ _) ?_
  rw [lad_val (xN_lt _ _) ha (eB_val hb), lad_val (xN_lt _ _) hb (eB_val ha), emul_comm]
theorem x_three {a b c : Nat} (ha : a < 2 ^ 255) (hb : b < 2 ^ 255) (hc : c < 2 ^ 255) : xN c (xN b (xN a 9)) = xN b (xN a (xN c 9)) := by
  refine ffo_inj (xN_lt _ _) (xN_lt _ _) ?_
  rw [lad_val (xN_lt _ _) hc (lad_val (xN_lt _ _) hb (eB_val ha)), lad_val (xN_lt _ _) hb (lad_val (xN_lt _ _) ha (eB_val hc)), emul_comm c b, emul_comm c a]
/-! its order -/
def ellN : Nat := 7237005577332262213973186563042994240857116359379907606001950938285454250989
theorem ell_prime : Pr ellN := pr15
theorem ell_z : (ladG fadd fsub fmul 121665 1 0 9 ellN 255).z2 = 0 := by decide +kernel
theorem rep_z {X y : FF} (h : X - 0 = (X + 0) * y) (h0 : X + 0 ≠ 0) : y = 1 := by
  have e : (X + 0) = X := Fin.add_zero _
  have e2 : X - 0 = X := fsub0 _
  rw [e] at h h0; rw [e2] at h
  exact (fcancel h0 ((Fin.mul_one X).trans h)).symm
theorem ell_eB : emul ellN eB = e0 := by
  have hy : 1 - eB.y ≠ 0 := by decide +kernel
  have hy2 : 1 + eB.y ≠ 0 := by decide +kernel
  have h := (lad_at (Q := eB) (u := 9) (k := ellN) (by decide) (by decide) (u_one eB_u hy) (by decide) hy hy2 255 (Nat.le_refl _)).1
  rw [Nat.sub_self, Nat.pow_zero, Nat.div_one, ell_z] at h
  obtain ⟨h1, h2⟩ := h
  have y1 := rep_z h2 h1
  exact EP.ext2 (low2_of (.inl y1)).1 y1
theorem ell_div {n : Nat} (h : emul n eB = e0) : ellN ∣ n := by
  apply Decidable.byContradiction
  intro hd
  have hc := ell_prime.cop hd
  have key : ∀ x y, emul x eB = e0 → emul y eB = e0 → emul (Nat.gcd x y) eB = e0 := by
    intro x y
    induction x, y using Nat.gcd.induction with
    | H0 y => intro _ h; simpa using h
    | H1 x y hx ih =>
      intro h1 h2
      rw [Nat.gcd_rec]
      refine ih ?_ h1
      have e : y = y / x * x + y % x := by rw [Nat.mul_comm, Nat.div_add_mod]
      rw [e, emul_add, emul_mul, h1, emul_zero, zero_eadd] at h2
      exact h2
  have := key _ _ ell_eB h
  rw [hc, emul_one] at this
  exact absurd (congrArg EP.x this) (by decide +kernel)
theorem x_nz {m : Nat} (h : ¬ ellN ∣ m) : uqf (emul m eB).y ≠ 0 := by
  intro h0
  have l := low2_dbl (low2_of (uqf_zero h0))
  rw [← emul_add] at l
  have := ell_div l
  rw [show m + m = 2 * m by omega] at this
  rcases ell_prime.euclid this with h1 | h1
  · exact absurd h1 (by decide)
  · exact h h1
/-- a secret that counts -/
def Clm (k : Nat) : Prop := k < 2 ^ 255 ∧ 0 < k ∧ 8 ∣ k
theorem clm_ell {k : Nat} (h : Clm k) : ¬ ellN ∣ k := by
  obtain ⟨h1, h2, j, rfl⟩ := h
  intro hd
  rcases ell_prime.euclid hd with h3 | h3
  · exact absurd h3 (by decide)
  · have := Nat.le_of_dvd (by omega) h3
    unfold ellN at this
    omega
theorem clm_mul {a b : Nat} (h : ¬ ellN ∣ a) (g : ¬ ellN ∣ b) : ¬ ellN ∣ a * b := fun hd => (ell_prime.euclid hd).elim h g
theorem x_two_ne {a b : Nat} (ha : Clm a) (hb : Clm b) : xN a (xN b 9) ≠ 0 := by
  intro h
  have e := lad_val (xN_lt _ _) ha.1 (eB_val hb.1)
  rw [h, ← emul_mul] at e
  exact x_nz (clm_mul (clm_ell ha) (clm_ell hb)) e.symm
theorem x_three_ne {a b c : Nat} (ha : Clm a) (hb : Clm b) (hc : Clm c) : xN c (xN b (xN a 9)) ≠ 0 := by
  intro h
  have e := lad_val (xN_lt _ _) hc.1 (lad_val (xN_lt _ _) hb.1 (eB_val ha.1))
  rw [h, ← emul_mul, ← emul_mul] at e
  exact x_nz (clm_mul (clm_mul (clm_ell hc) (clm_ell hb)) (clm_ell ha)) e.symm
/-! secrets and publics in bytes -/
theorem uN_pack (V : Nat) : uN (packN V) % pN = V % pN := by
  unfold uN packN
  have h := Nat.mod_lt V pN_pos
  have hp := pN_eq
  rw [leN_gd, Nat.mod_eq_of_lt (show V % pN < 256 ^ 32 by rw [show 256 ^ 32 = 115792089237316195423570985008687907853269984665640564039457584007913129639936 from rfl]; omega), Nat.mod_eq_of_lt (show V % pN < 57896044618658097711785492504343953926634992332820282019728792003956564819968 by omega), Nat.mod_mod]
theorem sh_num (s b : List (BitVec 8)) : uN (shX s b) % pN = xN (leN (clampS s)) (uN b % pN) := by
  rw [shX, uN_pack, Nat.mod_eq_of_lt (xN_lt _ _)]
theorem u_nine : uN (9#8 :: List.replicate 31 0#8) % pN = 9 := by decide +kernel
theorem low_three : ∀ x : BitVec 8, (x &&& ~~~7#8).toNat % 8 = 0 := by decide +kernel
theorem top_two : ∀ x : BitVec 8, 64 ≤ (x &&& 63#8 ||| 64#8).toNat ∧ (x &&& 63#8 ||| 64#8).toNat < 128 := by decide +kernel
theorem leN_app : ∀ (l m : List (BitVec 8)), leN (l ++ m) = leN l + 256 ^ l.length * leN m
  | [], m => by simp [leN]
  | x :: l, m => by
    rw [List.cons_append, leN, leN, leN_app l m, List.length_cons, Nat.pow_succ, Nat.mul_add, Nat.mul_comm (256 ^ l.length) 256, Nat.mul_assoc]
    omega
theorem clm_of {s : List (BitVec 8)} (h : s.length = 32) : Clm (leN (clampS s)) := by
  obtain ⟨x, t, rfl⟩ : ∃ x t, s = x :: t := by cases s with
    | nil => simp at h
    | cons x t => exact ⟨x, t, rfl⟩
  have ht : t.length = 31 := by simpa using h
  have e : clampS (x :: t) = (x &&& ~~~7#8) :: (t.take 30 ++ [t.getD 30 0#8 &&& 63#8 ||| 64#8]) := by
    unfold clampS
    simp only [List.set_cons_zero, List.getD_cons_zero, List.set_cons_succ, List.getD_cons_succ]
    congr 1
    refine List.ext_getElem (by simp [ht]) fun j h1 h2 => ?_
    rw [List.length_set] at h1
    by_cases hj : j = 30
    · subst hj
      rw [List.getElem_set_self, List.getElem_append_right (by simp [ht])]
      simp [ht]
    · rw [List.getElem_set_ne (by omega), List.getElem_append_left (by simp [ht]; omega), List.getElem_take]
  have hl : (t.take 30).length = 30 := by simp [ht]
  have l1 := leN_lt (t.take 30)
  have a := low_three x
  have b := (x &&& ~~~7#8).isLt
  have c := top_two (t.getD 30 0#8)
  rw [e, leN, leN_app, hl, leN, leN]
  rw [hl] at l1
  generalize (x &&& ~~~7#8).toNat = X at *
  generalize (t.getD 30 0#8 &&& 63#8 ||| 64#8).toNat = T at *
  generalize leN (t.take 30) = M at *
  have p : 256 ^ 30 = 1766847064778384329583297500742918515827483896875618958121606201292619776 := rfl
  rw [p] at l1 ⊢
  refine ⟨?_, ?_, ?_⟩
  · rw [show 2 ^ 255 = 57896044618658097711785492504343953926634992332820282019728792003956564819968 from rfl]; omega
  · omega
  · omega
theorem pack_zero {V : Nat} (h : V < pN) (h0 : packN V = List.replicate 32 0#8) : V = 0 := by
  unfold packN at h0
  rw [Nat.mod_eq_of_lt h, ← gd_zero 8 8 32] at h0
  have hp := pN_eq
  refine gd_inj (n := 32) ?_ ?_ h0
  · rw [show 256 ^ 32 = 115792089237316195423570985008687907853269984665640564039457584007913129639936 from rfl]; omega
  · exact Nat.pow_pos (by decide)
abbrev nine : List (BitVec 8) := 9#8 :: List.replicate 31 0#8
theorem shX_n (s b : List (BitVec 8)) : shX s b = packN (xN (leN (clampS s)) (uN b % pN)) := rfl
theorem chain_eq {a b c : List (BitVec 8)} (ha : a.length = 32) (hb : b.length = 32) (hc : c.length = 32) : shX c (shX b (shX a nine)) = shX b (shX a (shX c nine)) := by
  rw [shX_n c (shX b (shX a nine)), shX_n b (shX a (shX c nine))]
  simp only [sh_num, u_nine]
  rw [x_three (clm_of ha).1 (clm_of hb).1 (clm_of hc).1]
theorem chain_ne {a b c : List (BitVec 8)} (ha : a.length = 32) (hb : b.length = 32) (hc : c.length = 32) : shX c (shX b (shX a nine)) ≠ List.replicate 32 0#8 := by
  intro h
  rw [shX, sh_num, sh_num, u_nine] at h
  exact x_three_ne (clm_of ha) (clm_of hb) (clm_of hc) (pack_zero (xN_lt _ _) h)
theorem two_eq {a b : List (BitVec 8)} (ha : a.length = 32) (hb : b.length = 32) : shX a (shX b nine) = shX b (shX a nine) := by
  rw [shX_n a (shX b nine), shX_n b (shX a nine)]
  simp only [sh_num, u_nine]
  rw [x_two (clm_of ha).1 (clm_of hb).1]
theorem two_ne0 {a b : List (BitVec 8)} (ha : a.length = 32) (hb : b.length = 32) : shX a (shX b nine) ≠ List.replicate 32 0#8 := by
  intro h
  rw [shX, sh_num, u_nine] at h
  exact x_two_ne (clm_of ha) (clm_of hb) (pack_zero (xN_lt _ _) h)

end Go.Proofs.Ytnhjmapapbhhpaa
