/-
 What is to be shown of the functions (made by a program).
-/
import Derived.Test.YtmnaghfndigfkaaDoorDCZ
import Derived.KernelRfl
set_option maxRecDepth 1000000
set_option linter.unusedVariables false
namespace Go.Proofs.YtmnaghfndigfkaaDoor.X
open Go Go.Ab

theorem ob_o99 (a : List Cl) : fnP (T0) G 10000 fe99 (.r [] 0 (.r [] 5 .nil)) ([cls a]) ([.imm (.vals (flatK a)) a.length (some a.length)]) ([]) = (
Int.toNat (↑(List.length a) : Int) = List.length a ∧ Int.toNat (↑(List.length a) : Int) = List.length a ∧ Cont.size (Cont.vals (flatK a)) = List.length a * 3 ∧ Cont.vals (flatK a) = Cont.vals (flatK
a) ∧ List.length a = List.length a ∧ List.length a = List.length a ∧ True) := by kernel_rfl

end Go.Proofs.YtmnaghfndigfkaaDoor.X
