/-
  The facts of the program's text that the row asks for.
-/
import Derived.Test.YtnnblcfiifdenaaVE
import Derived.Test.YtnnblcfiifdenaaRows
import Derived.WalkKit
import Derived.ProofKit
set_option linter.unusedVariables false
set_option linter.unusedSimpArgs false
namespace Go.Proofs.Ytnnblcfiifdenaa.row3
open Go Go.V Go.ChangeShapes Go.WideShapes Go.ChangeAt Go.RowKit
theorem joined:joinedFacts Try.pinned.checked.prog 3 Try.f3 Rows.fnExactStatisticsSpec Rows.fnExactStatisticsRow=true:=by kernel_rfl
end Go.Proofs.Ytnnblcfiifdenaa.row3

