import Derived.Test.YtcjfkmhijfcciaaXS1
import Derived.Test.YtcjfkmhijfcciaaG1
namespace Go.Proofs.Ytcjfkmhijfcciaa
set_option maxRecDepth 20000
set_option linter.unusedVariables false
set_option linter.unusedSimpArgs false
open Go.SE Go.RowKit


end Go.Proofs.Ytcjfkmhijfcciaa

