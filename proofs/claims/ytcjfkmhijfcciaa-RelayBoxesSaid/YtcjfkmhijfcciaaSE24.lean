/- append that may leave the old block as it was, beside a new one; rows of which less is known. Generic (no program). -/
import Derived.Test.YtcjfkmhijfcciaaSE20
namespace Go
namespace SE
open Go.RowKit
set_option linter.unusedVariables false
set_option linter.unusedSimpArgs false
section
variable {P : Program} {E : Env} {fr : Fr} {H : Hp} {o : Oper} {x y : Operand}
end
end SE
end Go

