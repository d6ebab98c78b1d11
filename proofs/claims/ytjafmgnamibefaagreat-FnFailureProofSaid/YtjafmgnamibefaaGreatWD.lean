/-
  The facts of the program's text that the row asks for.
-/
import Derived.Test.YtjafmgnamibefaaGreatVE
import Derived.Test.YtjafmgnamibefaaGreatRows
import Derived.WalkKit
import Derived.ProofKit
set_option linter.unusedVariables false
set_option linter.unusedSimpArgs false
namespace Go.Proofs.YtjafmgnamibefaaGreat.row3
open Go Go.V Go.ChangeShapes Go.WideShapes Go.ChangeAt Go.RowKit
theorem joined:joinedFacts Tryz.pinned.checked.prog 4 Tryz.f4 Rows.fnFailureProofSpec Rows.fnFailureProofRow=true:=by kernel_rfl
end Go.Proofs.YtjafmgnamibefaaGreat.row3

