/-
 Contracts: the reference's crease and Of.
-/
import Derived.Test.YtfpcbimohikhmaaDoorQYO3Z
import Derived.Test.YtfpcbimohikhmaaDoorQYC3Z
set_option maxRecDepth 1000000
set_option linter.unusedVariables false
set_option linter.unusedSimpArgs false
namespace Go.Proofs.YtfpcbimohikhmaaDoor.X
open Go Go.Ab

end Go.Proofs.YtfpcbimohikhmaaDoor.X
