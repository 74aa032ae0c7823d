/- All orders of a region that draws, by what is done so far. Generic (no program). -/
import Derived.Test.YtcjfkmhijfcciaaSE20
namespace Go
namespace SE
open Go.RowKit
set_option linter.unusedVariables false
set_option linter.unusedSimpArgs false
section
variable {P : Program} {E : Env} {fr : Fr} {H : Hp} {l : List Oper} {Q : Exit → Act → World → Prop}
variable {v : Value} {i : Nat}
end
end SE
end Go

