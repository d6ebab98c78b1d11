/-
  The facts of the program's text that the row asks for.
-/
import Derived.Test.YtohcpefohbhigaaGreatDoorVE
import Derived.Test.YtohcpefohbhigaaGreatDoorRows
import Derived.WalkKit
import Derived.ProofKit
set_option linter.unusedVariables false
set_option linter.unusedSimpArgs false
namespace Go.Proofs.YtohcpefohbhigaaGreatDoor.row3
open Go Go.V Go.ChangeShapes Go.WideShapes Go.ChangeAt Go.RowKit
theorem joined:joinedFacts Tryz.pinned.checked.prog 3 Tryz.f3 Rows.fnExactFormatStatisticsSpec Rows.fnExactFormatStatisticsRow=true:=by kernel_rfl
end Go.Proofs.YtohcpefohbhigaaGreatDoor.row3

