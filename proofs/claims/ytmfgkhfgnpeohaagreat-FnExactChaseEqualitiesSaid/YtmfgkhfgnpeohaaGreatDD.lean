/-
  The facts of the program's text that the row asks for.
-/
import Derived.Test.YtmfgkhfgnpeohaaGreatVE
import Derived.Test.YtmfgkhfgnpeohaaGreatRows
import Derived.WalkKit
import Derived.ProofKit
set_option linter.unusedVariables false
set_option linter.unusedSimpArgs false
namespace Go.Proofs.YtmfgkhfgnpeohaaGreat.row5
open Go Go.V Go.ChangeShapes Go.WideShapes Go.ChangeAt Go.RowKit
theorem joined:joinedFacts Tryz.pinned.checked.prog 5 Tryz.f5 Rows.fnExactChaseEqualitiesSpec Rows.fnExactChaseEqualitiesRow=true:=by kernel_rfl
end Go.Proofs.YtmfgkhfgnpeohaaGreat.row5

