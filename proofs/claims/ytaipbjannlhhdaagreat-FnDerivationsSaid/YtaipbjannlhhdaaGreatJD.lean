/-
  The facts of the program's text that the row asks for.
-/
import Derived.Test.YtaipbjannlhhdaaGreatVE
import Derived.Test.YtaipbjannlhhdaaGreatRows
import Derived.WalkKit
import Derived.ProofKit
set_option linter.unusedVariables false
set_option linter.unusedSimpArgs false
namespace Go.Proofs.YtaipbjannlhhdaaGreat.row4
open Go Go.V Go.ChangeShapes Go.WideShapes Go.ChangeAt Go.RowKit
theorem z0gz:joinedFacts Tryz.pinned.checked.prog 4 Tryz.f4 Rows.fnDerivationsSpec Rows.fnDerivationsRow=true:=by kernel_rfl
end Go.Proofs.YtaipbjannlhhdaaGreat.row4

