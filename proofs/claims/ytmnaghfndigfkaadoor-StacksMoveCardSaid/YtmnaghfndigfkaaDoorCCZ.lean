/-
 The contracts of union, common cells and difference.
-/
import Derived.Test.YtmnaghfndigfkaaDoorCBZ
import Derived.Test.YtmnaghfndigfkaaDoorOCZ
set_option maxRecDepth 1000000
set_option linter.unusedVariables false
set_option linter.unusedSimpArgs false
namespace Go.Proofs.YtmnaghfndigfkaaDoor.X
open Go Go.Ab

end Go.Proofs.YtmnaghfndigfkaaDoor.X
