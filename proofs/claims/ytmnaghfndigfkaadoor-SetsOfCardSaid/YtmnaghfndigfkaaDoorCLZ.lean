/-
 Connected: the contract.
-/
import Derived.Test.YtmnaghfndigfkaaDoorPCZ
import Derived.Test.YtmnaghfndigfkaaDoorOIZ
import Derived.Test.YtmnaghfndigfkaaDoorCKZ
set_option maxRecDepth 1000000
set_option linter.unusedVariables false
set_option linter.unusedSimpArgs false
namespace Go.Proofs.YtmnaghfndigfkaaDoor.X
open Go Go.Ab

end Go.Proofs.YtmnaghfndigfkaaDoor.X
