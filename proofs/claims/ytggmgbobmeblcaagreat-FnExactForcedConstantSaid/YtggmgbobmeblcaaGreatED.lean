/-
  The facts of the program's text that the row asks for.
-/
import Derived.Test.YtggmgbobmeblcaaGreatVE
import Derived.Test.YtggmgbobmeblcaaGreatRows
import Derived.WalkKit
import Derived.ProofKit
set_option linter.unusedVariables false
set_option linter.unusedSimpArgs false
namespace Go.Proofs.YtggmgbobmeblcaaGreat.row7
open Go Go.V Go.ChangeShapes Go.WideShapes Go.ChangeAt Go.RowKit
theorem joined:joinedFacts Tryz.pinned.checked.prog 7 Tryz.f7 Rows.fnExactForcedConstantSpec Rows.fnExactForcedConstantRow=true:=by kernel_rfl
end Go.Proofs.YtggmgbobmeblcaaGreat.row7

