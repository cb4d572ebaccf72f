/-
 Cones: what the laws of turning and of folding compute.
-/
import Derived.Test.YthiammkiobbclaaGreatDoorD11Z
import Derived.Test.YthiammkiobbclaaGreatDoorD9Z
set_option maxRecDepth 1000000
set_option linter.unusedVariables false
namespace Go.Proofs.YthiammkiobbclaaGreatDoor.X
open Go Go.Ab

def e22z:CtE
 |[.agg [.imm (.ints .i64 a) n _,.imm (.ints .u8 k) m _],.int .i64 i]=>some ⟨.tup [.agg [.fullc 1 0 0,.fullc 0 0 0],.int .i64 0],[⟨.ints .u8 [],1,0,none,some true,true,false⟩,⟨.ints .i64 [],1,0,none,some true,true,false⟩],some (n=0∧m=0∧a=[]∧k=[]∧i=0)⟩
 |_=>none
def t5:List (Nat×CtE):=[(10,e25),(16,e16c),(23,e20),(24,e21),(11,e11)]
def T5:Tab:=tabL ((22,e19m)::t5) noCh
def T5z:Tab:=tabL ((22,e22z)::t5) noCh
end Go.Proofs.YthiammkiobbclaaGreatDoor.X
