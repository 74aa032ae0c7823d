/- A string turned to bytes; a byte of a string. Generic (no program). -/
import Derived.Test.YtcjfkmhijfcciaaSE27
namespace Go
namespace SE
open Go.RowKit
set_option linter.unusedVariables false
set_option linter.unusedSimpArgs false
section
variable {P : Program} {E : Env} {fr : Fr} {H : Hp} {o : Oper} {t ty : TypeId} {x y : Operand} {v : Value}
end
end SE
end Go

