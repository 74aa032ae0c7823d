/- append of noughts: append(x, make([]T, n)...), which the translation hands to append as a number. Generic (no program). -/
import Derived.Test.YtcjfkmhijfcciaaSE14
namespace Go
namespace SE
open Go.RowKit
set_option linter.unusedVariables false
set_option linter.unusedSimpArgs false
section
variable {P : Program} {E : Env} {fr : Fr} {H : Hp} {o : Oper} {x y : Operand}
theorem wrap_i64 (m : Nat) (h : m ≤ 140737488355328) : IntKind.i64.wrap (m : Int) = (m : Int) := by
 unfold IntKind.wrap
 simp [IntKind.bits, IntKind.signed]
 omega
end
end SE
end Go

