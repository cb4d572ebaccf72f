/-
 The law on union and common cells in other orders: its contracts.
-/
import Derived.Test.YtmnaghfndigfkaaDoorDCZ
import Derived.Test.YtmnaghfndigfkaaDoorLZ
set_option maxRecDepth 1000000
set_option linter.unusedVariables false
namespace Go.Proofs.YtmnaghfndigfkaaDoor.X
open Go Go.Ab

/-- A raw set, as it is given. -/
def rwS (l : List Cl) : AV := .imm (.vals (flatS l)) l.length none
def tD8 : List (Nat × CtE) := [(31, e31), (32, eMg 89), (33, eMg 90), (34, eMg 91), (35, e35), (37, e37)]
def TD8 : Tab := tabL tD8 noCh
end Go.Proofs.YtmnaghfndigfkaaDoor.X
