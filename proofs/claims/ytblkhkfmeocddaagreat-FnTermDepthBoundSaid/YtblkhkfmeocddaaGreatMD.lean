/-
  The facts of the program's text that the row asks for.
-/
import Derived.Test.YtblkhkfmeocddaaGreatVE
import Derived.Test.YtblkhkfmeocddaaGreatRows
import Derived.WalkKit
import Derived.ProofKit
set_option linter.unusedVariables false
set_option linter.unusedSimpArgs false
namespace Go.Proofs.YtblkhkfmeocddaaGreat.row3
open Go Go.V Go.ChangeShapes Go.WideShapes Go.ChangeAt Go.RowKit
theorem z0ez:joinedFacts Tryz.pinned.checked.prog 3 Tryz.f3 Rows.fnTermDepthBoundSpec Rows.fnTermDepthBoundRow=true:=by kernel_rfl
end Go.Proofs.YtblkhkfmeocddaaGreat.row3

