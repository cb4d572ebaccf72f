/-
 Squares, outlines: the contracts.
-/
import Derived.Test.YtmnaghfndigfkaaDoorCJZ
set_option maxRecDepth 1000000
set_option linter.unusedVariables false
set_option linter.unusedSimpArgs false
namespace Go.Proofs.YtmnaghfndigfkaaDoor.X
open Go Go.Ab

theorem bx (b : Bool) : (bif b then b && true else true) = true := by cases b <;> rfl
/-! ### Outlines -/
end Go.Proofs.YtmnaghfndigfkaaDoor.X
