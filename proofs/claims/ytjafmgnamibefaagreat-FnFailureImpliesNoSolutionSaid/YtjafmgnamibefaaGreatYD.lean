/-
  The facts of the program's text that the row asks for.
-/
import Derived.Test.YtjafmgnamibefaaGreatVE
import Derived.Test.YtjafmgnamibefaaGreatRows
import Derived.WalkKit
import Derived.ProofKit
set_option linter.unusedVariables false
set_option linter.unusedSimpArgs false
namespace Go.Proofs.YtjafmgnamibefaaGreat.row4
open Go Go.V Go.ChangeShapes Go.WideShapes Go.ChangeAt Go.RowKit
theorem z0de:joinedFacts Tryz.pinned.checked.prog 3 Tryz.f3 Rows.fnFailureImpliesNoSolutionSpec Rows.fnFailureImpliesNoSolutionRow=true:=by kernel_rfl
end Go.Proofs.YtjafmgnamibefaaGreat.row4

