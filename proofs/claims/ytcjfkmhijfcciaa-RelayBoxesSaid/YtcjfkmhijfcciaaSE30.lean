/- An array's part of more cells than one; and, or of integers. Generic (no program). -/
import Derived.Test.YtcjfkmhijfcciaaSE29
import Derived.Test.YtcjfkmhijfcciaaSE26
namespace Go
namespace SE
open Go.RowKit
set_option linter.unusedVariables false
set_option linter.unusedSimpArgs false
section
variable {P : Program} {fr : Fr} {o : Oper} {t ty : TypeId} {x y : Operand} {v : Value}
theorem P_indexN {e : TypeId} {len j n : Nat} {cs xs : List Value} {k : IntKind} {i : Int} {ix : Operand} {D : TypeDesc} (ho : o.op = .index t x ix) (ht : P.underlying t = some (.array len e)) (hD : P.underlying e = some D) (hz : tsz P e = some n)
  (hx : fr.ev x = some (.agg cs.toArray)) (hi : fr.ev ix = some (.int k i)) (hj : i = (j : Int)) (hlt : j < len) (hc : (cs.drop (j * n)).take n = xs) (hn : xs.length = n) (h1 : aggD D = false → n = 1) : PStep P fr o (vof P e xs) := by
 intro a ha w
 have h := run_part_flat (P := P) (w := w) hD hz hc hn h1
 obtain ⟨i0, hi0, hi1⟩ := Option.map_eq_some_iff.1 (show (P.info? e).map (·.size) = _ from hz)
 subst hj
 unfold execOp
 simp [ho, ha.ev hx, ha.ev hi, Instr.index, run_underlying ht, asIntOf, sizeOf, typeInfo, hi0, hi1, hlt, h]
end
end SE
end Go

