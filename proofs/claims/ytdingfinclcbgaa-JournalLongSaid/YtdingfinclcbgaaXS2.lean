import Derived.Test.YtdingfinclcbgaaXS1
import Derived.Test.YtdingfinclcbgaaG1
namespace Go.Proofs.Ytdingfinclcbgaa
set_option maxRecDepth 20000
set_option linter.unusedVariables false
set_option linter.unusedSimpArgs false
open Go.SE Go.RowKit


end Go.Proofs.Ytdingfinclcbgaa

