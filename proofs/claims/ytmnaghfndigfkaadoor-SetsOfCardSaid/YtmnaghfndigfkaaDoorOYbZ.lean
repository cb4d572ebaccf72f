/-
 What is to be shown of the functions (made by a program).
-/
import Derived.Test.YtmnaghfndigfkaaDoorDOZ
import Derived.KernelRfl
set_option maxRecDepth 1000000
set_option linter.unusedVariables false
namespace Go.Proofs.YtmnaghfndigfkaaDoor.X
open Go Go.Ab

theorem ob_o167z (g : Nat) : fnP (T0) G 10000 fe167 (.r [] 1 (.un (.r [] 0 (.lit .nil)))) ([.imm (.vals []) 0 none, .int .i64 0, .int .i64 0, .fn g [] []]) ([]) ([]) = (
True) := by kernel_rfl

theorem ob_o133z (g : Nat) : fnP (TZ133) G 10000 fe133 (.r [] 0 (.r [] 0 (.un (.r [] 1 (.r [] 0 (.lit (.r [] 0 .nil))))))) ([.imm (.vals []) 0 none, .int .i64 0, .int .i64 0, .int .i64 0, .fn g [] []]) ([]) ([]) = (
(0 = 0 ∧ ([] : List AV) = [] ∧ iI 0 = 0 ∧ iI 0 = 0) ∧ True) := by kernel_rfl

theorem ob_o162z  : fnP (T0) G 10000 fe162 (.r [] 0 (.r [] 0 (.lit (.r [] 0 (.lit (.r [] 0 (.lit (.r [] 31 .nil)))))))) ([.int .u64 0]) ([.int .i64 0]) ([]) = (
iI 0 = 0 ∧ True) := by kernel_rfl

theorem ob_o126z  : fnP (TZ126) G 10000 fe126 (.r [] 0 (.lit (.r [] 0 .nil))) ([.int .u64 0]) ([.int .i64 0]) ([]) = (
iI 0 = 0 ∧ iI 0 = 0 ∧ True) := by kernel_rfl

theorem ob_o94z (g : Nat) : fnP (TZ94) G 10000 fe94 (.r [] 0 (.r [] 1 .nil)) ([.imm (.vals []) 0 none, .fn g [] []]) ([]) ([]) = (
iI 0 = 0 ∧ (0 = 0 ∧ ([] : List AV) = [] ∧ iI 0 = 0 ∧ iI 0 = 0 ∧ iI 0 = 0) ∧ True) := by kernel_rfl

theorem ob_o117z  : fnP (T0) G 10000 fe117 (.r [] 0 (.r [] 0 (.lit (.r [] 0 (.frz 2 0 .nil))))) ([.imm (.vals []) 0 none]) ([.imm (.vals []) 0 none]) ([]) = (
Cont.vals [] = Cont.vals [] ∧ 0 = 0 ∧ True) := by kernel_rfl

theorem ob_o116z  : fnP (T0) G 10000 fe116 (.r [] 0 (.nl 1 [] 0 3 (.r [] 0 (.lit (.r [] 0 (.frz 2 0 .nil)))) (.r [] 0 (.lit (.r [] 7 (.frz 2 1 .nil)))))) ([.imm (.vals []) 0 none]) ([.imm (.vals []) 0 none]) ([]) = (
(0 = 0 ∧ 0 = 0 → 0 = 0 ∧ 0 = 0 ∧ True) ∧ Cont.vals [] = Cont.vals [] ∧ 0 = 0 ∧ True) := by kernel_rfl

theorem ob_o59z  : fnP (TZ59z) G 10000 fe59 (.r [] 0 (.r [] 0 (.lit (.r [] 0 (.r [] 0 (.r [] 0 (.r [] 0 (.lit (.r [] 0 .nil))))))))) ([.imm (.vals []) 0 none]) ([.imm (.vals []) 0 (some 0), .int .i64 0]) ([]) = (
okL [] 0 ∧ (0 = 0 ∧ ([] : List AV) = []) ∧ (0 = 0 ∧ ([] : List AV) = []) ∧ (0 = 0 ∧ ([] : List AV) = []) ∧ okL [] 0 ∧ Cont.vals [] = Cont.vals [] ∧ 0 = 0 ∧ 0 = 0 ∧ iI 0 = 0 ∧ True) := by kernel_rfl

theorem ob_o59 (l : List Cl) : fnP (TZ59 l) G 10000 fe59 (.r [] 0 (.r [] 0 (.cnd (.r [] 0 .nil) (.r [] 0 (.r [(321, .auto, Dr.heap)] 0 (.r [(385, .auto, Dr.heap)] 0 (.r [] 0 (.ff (.r [] 0 .nil))))))))) ([cls l]) ([.imm (.vals (flatK (ofX l))) (ofX l).length (some (ofX l).length), .int .i64 (bI (badL l) 1 0)]) ([]) = (
okL (flatK l) (List.length l) ∧ (badL (unK (flatK l)) = true → Cont.size (Cont.vals (flatK (ofX l))) = 0 ∧ List.length (ofX l) = 0 ∧ List.length (ofX l) = 0 ∧ 1 = bI (badL l) 1 0 ∧ True) ∧ (badL (unK
(flatK l)) = false → (okL (flatK l) (List.length l) ∧ 0 < List.length l) ∧ ([(16448, HO.blk (Blk.mk (Cont.vals (flatK l)) 3 (List.length l) none (some false) true false))] = [(16448, HO.blk (Blk.mk
(Cont.vals (flatK l)) 3 (List.length l) none (some false) true false))] ∧ List.length l = List.length l ∧ List.length l < 1000000 ∧ okQ l) ∧ ([(16448, HO.blk (Blk.mk (Cont.vals (flatK (srtQ l))) 3
(List.length l) none (some false) true false))] = [(16448, HO.blk (Blk.mk (Cont.vals (flatK (srtQ l))) 3 (List.length l) none (some false) true false))] ∧ List.length l = List.length (srtQ l) ∧
List.length l < 1000000) ∧ List.length l = List.length l ∧ ltb 1024 (↑(List.length (cptL (srtQ l))) : Int) = false ∧ List.length l = List.length l ∧ okL (List.take (List.length (cptL (srtQ l)) * 3)
(List.drop 0 (flatK (cpR (srtQ l))))) (List.length (cptL (srtQ l))) ∧ Cont.vals (List.take (List.length (cptL (srtQ l)) * 3) (List.drop 0 (flatK (cpR (srtQ l))))) = Cont.vals (flatK (ofX l)) ∧
List.length (cptL (srtQ l)) = List.length (ofX l) ∧ List.length (cptL (srtQ l)) = List.length (ofX l) ∧ 0 = bI (badL l) 1 0 ∧ True)) := by kernel_rfl

end Go.Proofs.YtmnaghfndigfkaaDoor.X
