/-
 Sorting cells: where nothing is listed and draws are counted.
-/
import Derived.Test.YtmnaghfndigfkaaDoorDAZ
import Derived.Test.YtmnaghfndigfkaaDoorAb7
set_option maxRecDepth 1000000
set_option linter.unusedVariables false
namespace Go.Proofs.YtmnaghfndigfkaaDoor.X
open Go Go.Ab

/-- What is known of memory where nothing is listed, draws counted. -/
noncomputable def Gs : GL := { g := fun _ => none, cm := cmOf Tryd.prog, strong := True }
end Go.Proofs.YtmnaghfndigfkaaDoor.X
