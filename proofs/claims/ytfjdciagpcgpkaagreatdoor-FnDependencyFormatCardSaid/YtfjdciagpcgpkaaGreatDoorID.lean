/-
  The facts of the program's text that the row asks for.
-/
import Derived.Test.YtfjdciagpcgpkaaGreatDoorVE
import Derived.Test.YtfjdciagpcgpkaaGreatDoorRows
import Derived.WalkKit
import Derived.ProofKit
set_option linter.unusedVariables false
set_option linter.unusedSimpArgs false
namespace Go.Proofs.YtfjdciagpcgpkaaGreatDoor.row3
open Go Go.V Go.ChangeShapes Go.WideShapes Go.ChangeAt Go.RowKit
theorem joined:joinedFacts Tryz.pinned.checked.prog 3 Tryz.f3 Rows.fnDependencyFormatSpec Rows.fnDependencyFormatRow=true:=by kernel_rfl
end Go.Proofs.YtfjdciagpcgpkaaGreatDoor.row3

