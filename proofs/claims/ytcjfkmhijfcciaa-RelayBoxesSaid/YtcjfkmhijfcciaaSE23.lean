/- Rows of laws that need the bound that each argument's own bytes have; openers that hand it on. Generic (no program). -/
import Derived.Test.YtcjfkmhijfcciaaSE21
import Derived.SizedLaws
namespace Go
namespace ROW
open Go.ChangeShapes Go.WideShapes Go.ChangeAt Go.RowKit Go.SE
set_option linter.unusedVariables false
set_option linter.unusedSimpArgs false
end ROW
end Go

