/- An array's part of more cells than one; and, or of integers. Generic (no program). -/
import Derived.Test.YtdingfinclcbgaaSE29
import Derived.Test.YtdingfinclcbgaaSE26
namespace Go
namespace SE
open Go.RowKit
set_option linter.unusedVariables false
set_option linter.unusedSimpArgs false
section
variable {P : Program} {fr : Fr} {o : Oper} {t ty : TypeId} {x y : Operand} {v : Value}
theorem P_indexN {e : TypeId} {len j n : Nat} {cs xs : List Value} {k : IntKind} {i : Int} {ix : Operand} {D : TypeDesc} (ho : o.op = .index t x ix) (ht : P.underlying t = some (.array len e)) (hD : P.underlying e = some D) (hz : tsz P e = some n)
    (hx : fr.ev x = some (.agg cs.toArray)) (hi : fr.ev ix = some (.int k i)) (hj : i = (j : Int)) (hlt : j < len) (hc : (cs.drop (j * n)).take n = xs) (hn : xs.length = n) (h1 : aggD D = false → n = 1) : PStep P fr o (vof P e xs) := by
  intro a ha w
  have h := run_part_flat (P := P) (w := w) hD hz hc hn h1
  obtain ⟨i0, hi0, hi1⟩ := Option.map_eq_some_iff.1 (show (P.info? e).map (·.size) = _ from hz)
  subst hj
  unfold execOp
  simp [ho, ha.ev hx, ha.ev hi, Instr.index, run_underlying ht, asIntOf, sizeOf, typeInfo, hi0, hi1, hlt, h]
theorem P_or_nat {a b : Nat} (ho : o.op = .binOp .or t x y ty) (hx : fr.ev x = some (.int .i64 (a : Int))) (hy : fr.ev y = some (.int .i64 (b : Int))) (ha : a < 9223372036854775808) (hb : b < 9223372036854775808) : PStep P fr o (.int .i64 ((a ||| b : Nat) : Int)) :=
  P_bin' ho hx hy rfl (fun h => absurd h (by decide)) (by
    show Value.int _ (IntKind.i64.wrap ((BitVec.ofInt 64 (a : Int) ||| BitVec.ofInt 64 (b : Int)).toNat : Int)) = _
    have e : (BitVec.ofInt 64 (a : Int) ||| BitVec.ofInt 64 (b : Int)).toNat = a ||| b := by
      rw [BitVec.toNat_or, BitVec.ofInt_natCast, BitVec.ofInt_natCast, BitVec.toNat_ofNat, BitVec.toNat_ofNat, Nat.mod_eq_of_lt (by omega), Nat.mod_eq_of_lt (by omega)]
    have h63 : a ||| b < 2 ^ 63 := Nat.or_lt_two_pow ha hb
    rw [e, i64_in _ (by omega)])
/-- A number moved by eight bits, and a byte. -/
theorem P_or_i8 {a c : Nat} (ho : o.op = .binOp .or t x y ty) (hx : fr.ev x = some (.int .i64 ((a : Int) * 2 ^ 8))) (hy : fr.ev y = some (.int .i64 (c : Int))) (ha : a < 36028797018963968) (hc : c < 256) : PStep P fr o (.int .i64 (((a * 256 + c : Nat)) : Int)) := by
  have h := P_or_nat (P := P) (a := a * 256) (b := c) ho (by rw [hx]; rfl) hy (by omega) (by omega)
  have e : a * 256 ||| c = a * 256 + c := by
    rw [show a * 256 = 2 ^ 8 * a by omega, ← Nat.two_pow_add_eq_or_of_lt (by omega)]
  rw [e] at h
  exact h
/-- The lowest bits. -/
theorem P_and_mask {a : Int} (m : Nat) (hm : m ≤ 62) {b : Int} (hb : b = ((2 ^ m - 1 : Nat) : Int)) (ho : o.op = .binOp .and t x y ty) (hx : fr.ev x = some (.int .i64 a)) (hy : fr.ev y = some (.int .i64 b)) : PStep P fr o (.int .i64 (a % ((2 ^ m : Nat) : Int))) :=
  P_bin' ho hx hy rfl (fun h => absurd h (by decide)) (by
    subst hb
    show Value.int _ (IntKind.i64.wrap ((BitVec.ofInt 64 a &&& BitVec.ofInt 64 ((2 ^ m - 1 : Nat) : Int)).toNat : Int)) = _
    have p : 2 ^ m ≤ 2 ^ 62 := Nat.pow_le_pow_right (by decide) hm
    have q : 0 < 2 ^ m := Nat.pow_pos (by decide)
    have e : ((BitVec.ofInt 64 a &&& BitVec.ofInt 64 ((2 ^ m - 1 : Nat) : Int)).toNat : Int) = a % ((2 ^ m : Nat) : Int) := by
      rw [BitVec.toNat_and, BitVec.ofInt_natCast, BitVec.toNat_ofNat, Nat.mod_eq_of_lt (show 2 ^ m - 1 < 2 ^ 64 by omega), Nat.and_two_pow_sub_one_eq_mod, BitVec.toNat_ofInt]
      have h1 := Int.emod_nonneg a (b := ((2 ^ 64 : Nat) : Int)) (by decide)
      rw [Int.natCast_emod, Int.toNat_of_nonneg h1]
      refine Int.emod_emod_of_dvd _ ?_
      refine Int.natCast_dvd_natCast.2 (Nat.pow_dvd_pow 2 (by omega))
    have h2 := Int.emod_nonneg a (b := ((2 ^ m : Nat) : Int)) (by omega)
    have h3 := Int.emod_lt_of_pos a (show (0 : Int) < ((2 ^ m : Nat) : Int) by omega)
    rw [e, i64_in _ (by omega)])
end
end SE
end Go
