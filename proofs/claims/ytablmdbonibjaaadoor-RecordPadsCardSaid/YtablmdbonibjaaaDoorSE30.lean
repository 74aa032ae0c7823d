/- An array's part of more cells than one; and, or of integers. Generic (no program). -/
import Derived.Test.YtablmdbonibjaaaDoorSE29
import Derived.Test.YtablmdbonibjaaaDoorSE26
namespace Go
namespace SE
open Go.RowKit
set_option linter.unusedVariables false
set_option linter.unusedSimpArgs false
section
variable {P : Program} {fr : Fr} {o : Oper} {t ty : TypeId} {x y : Operand} {v : Value}
end
end SE
end Go

