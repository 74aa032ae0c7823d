/- A law's parameter that is a struct of two arrays of words. Generic (no program). -/
import Derived.Test.YtcjfkmhijfcciaaSE18
namespace Go
namespace ROW
open Go.ChangeShapes Go.WideShapes Go.ChangeAt Go.RowKit Go.SE
set_option linter.unusedVariables false
set_option linter.unusedSimpArgs false
end ROW
end Go

