/-
 What is to be shown of the functions (made by a program).
-/
import Derived.Test.YtmnaghfndigfkaaDoorDDZ
import Derived.KernelRfl
set_option maxRecDepth 1000000
set_option linter.unusedVariables false
namespace Go.Proofs.YtmnaghfndigfkaaDoor.X
open Go Go.Ab

theorem ob_o8 (l1 l2 l3 : List Cl) : fnP (TD8) G 10000 fe8 (.r [] 0 (.r [] 1911 (.r [] 6 (.r [] 6 (.r [] 6 (.r [] 6 (.r [] 6 (.r [] 6 (.r [] 6 (.r [] 6 (.r [] 16383 (.lit (.r [yL 837, yL 838, yL 839, yL 840, yL 843] 3820 .nil))))))))))))) ([.agg [rwS l1, rwS l2, rwS l3]]) ([.bool true]) ([]) = (
(flatS l1 = flatS (unS (flatS l1)) ∧ List.length l1 = List.length (unS (flatS l1)) ∧ rawP (unS (flatS l1))) ∧ (flatS l2 = flatS (unS (flatS l2)) ∧ List.length l2 = List.length (unS (flatS l2)) ∧ rawP
(unS (flatS l2))) ∧ (flatS l3 = flatS (unS (flatS l3)) ∧ List.length l3 = List.length (unS (flatS l3)) ∧ rawP (unS (flatS l3))) ∧ (okL (flatK (sOf (unS (flatS l1)))) (List.length (sOf (unS (flatS
l1)))) ∧ okL (flatK (sOf (unS (flatS l2)))) (List.length (sOf (unS (flatS l2)))) ∧ okS (unK (flatK (sOf (unS (flatS l1))))) ∧ okS (unK (flatK (sOf (unS (flatS l2))))) ∧ List.length (mrg 89 (unK (flatK
(sOf (unS (flatS l1))))) (unK (flatK (sOf (unS (flatS l2)))))) ≤ 1024) ∧ (okL (flatK (sOf (unS (flatS l2)))) (List.length (sOf (unS (flatS l2)))) ∧ okL (flatK (sOf (unS (flatS l3)))) (List.length (sOf
(unS (flatS l3)))) ∧ okS (unK (flatK (sOf (unS (flatS l2))))) ∧ okS (unK (flatK (sOf (unS (flatS l3))))) ∧ List.length (mrg 89 (unK (flatK (sOf (unS (flatS l2))))) (unK (flatK (sOf (unS (flatS
l3)))))) ≤ 1024) ∧ (okL (flatK (mrg 89 (unK (flatK (sOf (unS (flatS l1))))) (unK (flatK (sOf (unS (flatS l2))))))) (List.length (mrg 89 (unK (flatK (sOf (unS (flatS l1))))) (unK (flatK (sOf (unS
(flatS l2))))))) ∧ okL (flatK (sOf (unS (flatS l3)))) (List.length (sOf (unS (flatS l3)))) ∧ okS (unK (flatK (mrg 89 (unK (flatK (sOf (unS (flatS l1))))) (unK (flatK (sOf (unS (flatS l2)))))))) ∧ okS
(unK (flatK (sOf (unS (flatS l3))))) ∧ List.length (mrg 89 (unK (flatK (mrg 89 (unK (flatK (sOf (unS (flatS l1))))) (unK (flatK (sOf (unS (flatS l2)))))))) (unK (flatK (sOf (unS (flatS l3)))))) ≤
1024) ∧ (okL (flatK (sOf (unS (flatS l1)))) (List.length (sOf (unS (flatS l1)))) ∧ okL (flatK (mrg 89 (unK (flatK (sOf (unS (flatS l2))))) (unK (flatK (sOf (unS (flatS l3))))))) (List.length (mrg 89
(unK (flatK (sOf (unS (flatS l2))))) (unK (flatK (sOf (unS (flatS l3))))))) ∧ okS (unK (flatK (sOf (unS (flatS l1))))) ∧ okS (unK (flatK (mrg 89 (unK (flatK (sOf (unS (flatS l2))))) (unK (flatK (sOf
(unS (flatS l3)))))))) ∧ List.length (mrg 89 (unK (flatK (sOf (unS (flatS l1))))) (unK (flatK (mrg 89 (unK (flatK (sOf (unS (flatS l2))))) (unK (flatK (sOf (unS (flatS l3))))))))) ≤ 1024) ∧ (okL
(flatK (sOf (unS (flatS l1)))) (List.length (sOf (unS (flatS l1)))) ∧ okL (flatK (sOf (unS (flatS l2)))) (List.length (sOf (unS (flatS l2)))) ∧ okS (unK (flatK (sOf (unS (flatS l1))))) ∧ okS (unK
(flatK (sOf (unS (flatS l2))))) ∧ List.length (mrg 90 (unK (flatK (sOf (unS (flatS l1))))) (unK (flatK (sOf (unS (flatS l2)))))) ≤ 1024) ∧ (okL (flatK (sOf (unS (flatS l2)))) (List.length (sOf (unS
(flatS l2)))) ∧ okL (flatK (sOf (unS (flatS l3)))) (List.length (sOf (unS (flatS l3)))) ∧ okS (unK (flatK (sOf (unS (flatS l2))))) ∧ okS (unK (flatK (sOf (unS (flatS l3))))) ∧ List.length (mrg 90 (unK
(flatK (sOf (unS (flatS l2))))) (unK (flatK (sOf (unS (flatS l3)))))) ≤ 1024) ∧ (okL (flatK (mrg 90 (unK (flatK (sOf (unS (flatS l1))))) (unK (flatK (sOf (unS (flatS l2))))))) (List.length (mrg 90
(unK (flatK (sOf (unS (flatS l1))))) (unK (flatK (sOf (unS (flatS l2))))))) ∧ okL (flatK (sOf (unS (flatS l3)))) (List.length (sOf (unS (flatS l3)))) ∧ okS (unK (flatK (mrg 90 (unK (flatK (sOf (unS
(flatS l1))))) (unK (flatK (sOf (unS (flatS l2)))))))) ∧ okS (unK (flatK (sOf (unS (flatS l3))))) ∧ List.length (mrg 90 (unK (flatK (mrg 90 (unK (flatK (sOf (unS (flatS l1))))) (unK (flatK (sOf (unS
(flatS l2)))))))) (unK (flatK (sOf (unS (flatS l3)))))) ≤ 1024) ∧ (okL (flatK (sOf (unS (flatS l1)))) (List.length (sOf (unS (flatS l1)))) ∧ okL (flatK (mrg 90 (unK (flatK (sOf (unS (flatS l2)))))
(unK (flatK (sOf (unS (flatS l3))))))) (List.length (mrg 90 (unK (flatK (sOf (unS (flatS l2))))) (unK (flatK (sOf (unS (flatS l3))))))) ∧ okS (unK (flatK (sOf (unS (flatS l1))))) ∧ okS (unK (flatK
(mrg 90 (unK (flatK (sOf (unS (flatS l2))))) (unK (flatK (sOf (unS (flatS l3)))))))) ∧ List.length (mrg 90 (unK (flatK (sOf (unS (flatS l1))))) (unK (flatK (mrg 90 (unK (flatK (sOf (unS (flatS l2)))))
(unK (flatK (sOf (unS (flatS l3))))))))) ≤ 1024) ∧ (okL (flatK (mrg 89 (unK (flatK (mrg 89 (unK (flatK (sOf (unS (flatS l1))))) (unK (flatK (sOf (unS (flatS l2)))))))) (unK (flatK (sOf (unS (flatS
l3))))))) (List.length (mrg 89 (unK (flatK (mrg 89 (unK (flatK (sOf (unS (flatS l1))))) (unK (flatK (sOf (unS (flatS l2)))))))) (unK (flatK (sOf (unS (flatS l3))))))) ∧ okL (flatK (mrg 89 (unK (flatK
(sOf (unS (flatS l1))))) (unK (flatK (mrg 89 (unK (flatK (sOf (unS (flatS l2))))) (unK (flatK (sOf (unS (flatS l3)))))))))) (List.length (mrg 89 (unK (flatK (sOf (unS (flatS l1))))) (unK (flatK (mrg
89 (unK (flatK (sOf (unS (flatS l2))))) (unK (flatK (sOf (unS (flatS l3))))))))))) ∧ (bI (Nat.beq (List.length (mrg 89 (unK (flatK (mrg 89 (unK (flatK (sOf (unS (flatS l1))))) (unK (flatK (sOf (unS
(flatS l2)))))))) (unK (flatK (sOf (unS (flatS l3))))))) (List.length (mrg 89 (unK (flatK (mrg 89 (unK (flatK (sOf (unS (flatS l1))))) (unK (flatK (sOf (unS (flatS l2)))))))) (unK (flatK (sOf (unS
(flatS l3))))))) && eqLC (unK (flatK (mrg 89 (unK (flatK (mrg 89 (unK (flatK (sOf (unS (flatS l1))))) (unK (flatK (sOf (unS (flatS l2)))))))) (unK (flatK (sOf (unS (flatS l3)))))))) (unK (flatK (mrg
89 (unK (flatK (sOf (unS (flatS l1))))) (unK (flatK (mrg 89 (unK (flatK (sOf (unS (flatS l2))))) (unK (flatK (sOf (unS (flatS l3)))))))))))) 1 0 == 1) = true ∧ (okL (flatK (mrg 90 (unK (flatK (mrg 90
(unK (flatK (sOf (unS (flatS l1))))) (unK (flatK (sOf (unS (flatS l2)))))))) (unK (flatK (sOf (unS (flatS l3))))))) (List.length (mrg 90 (unK (flatK (mrg 90 (unK (flatK (sOf (unS (flatS l1))))) (unK
(flatK (sOf (unS (flatS l2)))))))) (unK (flatK (sOf (unS (flatS l3))))))) ∧ okL (flatK (mrg 90 (unK (flatK (sOf (unS (flatS l1))))) (unK (flatK (mrg 90 (unK (flatK (sOf (unS (flatS l2))))) (unK (flatK
(sOf (unS (flatS l3)))))))))) (List.length (mrg 90 (unK (flatK (sOf (unS (flatS l1))))) (unK (flatK (mrg 90 (unK (flatK (sOf (unS (flatS l2))))) (unK (flatK (sOf (unS (flatS l3))))))))))) ∧ (bI
(Nat.beq (List.length (mrg 90 (unK (flatK (mrg 90 (unK (flatK (sOf (unS (flatS l1))))) (unK (flatK (sOf (unS (flatS l2)))))))) (unK (flatK (sOf (unS (flatS l3))))))) (List.length (mrg 90 (unK (flatK
(mrg 90 (unK (flatK (sOf (unS (flatS l1))))) (unK (flatK (sOf (unS (flatS l2)))))))) (unK (flatK (sOf (unS (flatS l3))))))) && eqLC (unK (flatK (mrg 90 (unK (flatK (mrg 90 (unK (flatK (sOf (unS (flatS
l1))))) (unK (flatK (sOf (unS (flatS l2)))))))) (unK (flatK (sOf (unS (flatS l3)))))))) (unK (flatK (mrg 90 (unK (flatK (sOf (unS (flatS l1))))) (unK (flatK (mrg 90 (unK (flatK (sOf (unS (flatS
l2))))) (unK (flatK (sOf (unS (flatS l3)))))))))))) 1 0 == 1) = true ∧ true = true ∧ True) := by kernel_rfl

end Go.Proofs.YtmnaghfndigfkaaDoor.X
