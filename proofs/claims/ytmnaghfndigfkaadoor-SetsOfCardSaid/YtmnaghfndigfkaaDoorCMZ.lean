/-
 Text: the contract.
-/
import Derived.Test.YtmnaghfndigfkaaDoorOJZ
import Derived.Test.YtmnaghfndigfkaaDoorCKZ
import Derived.Test.YtmnaghfndigfkaaDoorPCZ
import Derived.Test.YtmnaghfndigfkaaDoorNZ
set_option maxRecDepth 1000000
set_option linter.unusedVariables false
set_option linter.unusedSimpArgs false
namespace Go.Proofs.YtmnaghfndigfkaaDoor.X
open Go Go.Ab

end Go.Proofs.YtmnaghfndigfkaaDoor.X
