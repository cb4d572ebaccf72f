/-
 What union, common cells and difference compute.
-/
import Derived.Test.YtmnaghfndigfkaaDoorDBZ
import Derived.Test.YtmnaghfndigfkaaDoorAb6
set_option maxRecDepth 1000000
set_option linter.unusedVariables false
namespace Go.Proofs.YtmnaghfndigfkaaDoor.X
open Go Go.Ab

def e99 : CtE
 | [.imm (.vals a) n _] => some ⟨.imm (.vals a) n (some n), [], some (okL a n)⟩
 | _ => none
/-! ### The heap of the range -/
structure L164 where (a b o : List AV) (n m k : Nat)
def okS (l : List Cl) : Prop := okQ l ∧ chkI l = 0
end Go.Proofs.YtmnaghfndigfkaaDoor.X
