/-
 Cones: what the law of folding computes.
-/
import Derived.Test.YthiammkiobbclaaDoorD11Z
import Derived.Test.YthiammkiobbclaaDoorD10Z
set_option maxRecDepth 1000000
set_option linter.unusedVariables false
namespace Go.Proofs.YthiammkiobbclaaDoor.X
open Go Go.Ab

def t33:List (Nat×CtE):=[(4,e25),(5,e16c),(6,e31c),(7,e11)]
def T33:Tab:=tabL t33 noCh
/-! ### All choices -/
end Go.Proofs.YthiammkiobbclaaDoor.X
