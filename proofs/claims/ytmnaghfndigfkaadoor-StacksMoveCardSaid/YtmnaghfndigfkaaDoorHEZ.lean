/-
 The law on At: proved.
-/
import Derived.Test.YtmnaghfndigfkaaDoorHCZ
import Derived.Test.YtmnaghfndigfkaaDoorOHcZ
set_option maxRecDepth 1000000
set_option linter.unusedVariables false
set_option linter.unusedSimpArgs false
namespace Go.Proofs.YtmnaghfndigfkaaDoor.X
open Go Go.Ab

end Go.Proofs.YtmnaghfndigfkaaDoor.X
