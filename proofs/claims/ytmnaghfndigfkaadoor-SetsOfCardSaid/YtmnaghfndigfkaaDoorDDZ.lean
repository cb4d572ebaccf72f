/-
 The law on union and common cells in other orders: its contracts.
-/
import Derived.Test.YtmnaghfndigfkaaDoorDCZ
import Derived.Test.YtmnaghfndigfkaaDoorLZ
set_option maxRecDepth 1000000
set_option linter.unusedVariables false
namespace Go.Proofs.YtmnaghfndigfkaaDoor.X
open Go Go.Ab

end Go.Proofs.YtmnaghfndigfkaaDoor.X
