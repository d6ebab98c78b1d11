/-
  The facts of the program's text that the row asks for.
-/
import Derived.Test.YtmfgkhfgnpeohaaGreatVE
import Derived.Test.YtmfgkhfgnpeohaaGreatRows
import Derived.WalkKit
import Derived.ProofKit
set_option linter.unusedVariables false
set_option linter.unusedSimpArgs false
namespace Go.Proofs.YtmfgkhfgnpeohaaGreat.row6
open Go Go.V Go.ChangeShapes Go.WideShapes Go.ChangeAt Go.RowKit
theorem joined:joinedFacts Tryz.pinned.checked.prog 6 Tryz.f6 Rows.fnExactSkolemChaseSpec Rows.fnExactSkolemChaseRow=true:=by kernel_rfl
end Go.Proofs.YtmfgkhfgnpeohaaGreat.row6

