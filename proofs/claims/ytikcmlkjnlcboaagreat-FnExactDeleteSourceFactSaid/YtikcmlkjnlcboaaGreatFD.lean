/-
  The facts of the program's text that the row asks for.
-/
import Derived.Test.YtikcmlkjnlcboaaGreatVE
import Derived.Test.YtikcmlkjnlcboaaGreatRows
import Derived.WalkKit
import Derived.ProofKit
set_option linter.unusedVariables false
set_option linter.unusedSimpArgs false
namespace Go.Proofs.YtikcmlkjnlcboaaGreat.row4
open Go Go.V Go.ChangeShapes Go.WideShapes Go.ChangeAt Go.RowKit
theorem z0mn:joinedFacts Tryz.pinned.checked.prog 4 Tryz.f4 Rows.fnExactDeleteSourceFactSpec Rows.fnExactDeleteSourceFactRow=true:=by kernel_rfl
end Go.Proofs.YtikcmlkjnlcboaaGreat.row4

