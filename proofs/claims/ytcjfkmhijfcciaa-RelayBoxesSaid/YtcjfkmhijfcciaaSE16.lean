/- Regions that draw their order, walked by all orders of what acts, what is pure put first; rows under other labels; append of nothing. Generic (no program). -/
import Derived.Test.YtcjfkmhijfcciaaSE15
namespace Go
namespace SE
open Go.RowKit
set_option linter.unusedVariables false
set_option linter.unusedSimpArgs false
section
variable {P : Program} {E : Env} {fr : Fr} {H : Hp} {l : List Oper} {Q : Exit → Act → World → Prop} {v : Value} {i : Nat}
variable {o : Oper} {x y : Operand}
end
end SE
end Go

