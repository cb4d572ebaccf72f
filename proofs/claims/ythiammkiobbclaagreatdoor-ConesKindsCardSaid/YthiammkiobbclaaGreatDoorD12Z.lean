/-
 Cones: what the laws compute (valid orders).
-/
import Derived.Test.YthiammkiobbclaaGreatDoorD11Z
set_option maxRecDepth 1000000
set_option linter.unusedVariables false
namespace Go.Proofs.YthiammkiobbclaaGreatDoor.X
open Go Go.Ab

end Go.Proofs.YthiammkiobbclaaGreatDoor.X
