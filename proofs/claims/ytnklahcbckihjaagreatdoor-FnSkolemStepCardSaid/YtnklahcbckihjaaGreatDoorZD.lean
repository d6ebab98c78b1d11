/-
  The facts of the program's text that the row asks for.
-/
import Derived.Test.YtnklahcbckihjaaGreatDoorVE
import Derived.Test.YtnklahcbckihjaaGreatDoorRows
import Derived.WalkKit
import Derived.ProofKit
set_option linter.unusedVariables false
set_option linter.unusedSimpArgs false
namespace Go.Proofs.YtnklahcbckihjaaGreatDoor.row3
open Go Go.V Go.ChangeShapes Go.WideShapes Go.ChangeAt Go.RowKit
theorem z0f0:joinedFacts Tryz.pinned.checked.prog 3 Tryz.f3 Rows.fnSkolemStepSpec Rows.fnSkolemStepRow=true:=by kernel_rfl
end Go.Proofs.YtnklahcbckihjaaGreatDoor.row3

