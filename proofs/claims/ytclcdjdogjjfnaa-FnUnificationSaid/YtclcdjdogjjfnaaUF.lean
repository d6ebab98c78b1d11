/-
  The family of small functions: sizes, copies, equalities.
-/
import Derived.Test.YtclcdjdogjjfnaaUS0
import Derived.Test.YtclcdjdogjjfnaaVE
set_option linter.unusedVariables false
set_option linter.unusedSimpArgs false
set_option maxRecDepth 1000000
set_option maxHeartbeats 4000000
set_option linter.unusedVariables false
set_option linter.unusedSimpArgs false
namespace Go.V
open Go

end Go.V
