/- A slice's array. Generic (no program). -/
import Derived.Test.YtdingfinclcbgaaSE17
namespace Go
namespace SE
open Go.RowKit
set_option linter.unusedVariables false
set_option linter.unusedSimpArgs false
section
variable {P : Program} {E : Env} {fr : Fr} {H : Hp} {o : Oper} {x y : Operand}
theorem P_s2a {t e : TypeId} {n len c : Nat} {A : Option Addr} (ho : o.op = .sliceToArrayPointer t x) (ht : P.underlying t = some (.array n e)) (hx : fr.ev x = some (.slice A len c)) (h : n ≤ len) : PStep P fr o (.pointer A) := by
  intro a ha w; unfold execOp
  simp [ho, ha.ev hx, Instr.arrayAt, run_underlying ht, Nat.not_lt.2 h]
end
end SE
end Go
