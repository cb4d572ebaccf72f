/-
 What is to be shown of the functions (made by a program).
-/
import Derived.Test.YtmnaghfndigfkaaDoorDQZ
import Derived.KernelRfl
set_option maxRecDepth 1000000
set_option linter.unusedVariables false
namespace Go.Proofs.YtmnaghfndigfkaaDoor.X
open Go Go.Ab

theorem ob_o138_1 (c x y : Int) : fnP (TQ138) G 10000 fe138 (.r [] 0 (.r [] 15 (.r [] 371 (.r [] 73 .nil)))) ([.agg [.int .u8 1, .int .i64 c], .agg [.int .i64 x, .int .i64 y]]) ([.agg [.int .i64 (rfX 1 c x y), .int .i64 (rfY 1 c x y)]]) ([]) = (
(sml c ∧ sml x ∧ sml y) ∧ inR IntKind.i64 (2 * (1 * x + 0 * y - 2 * c)) = true ∧ inR IntKind.i64 (Int.tdiv (2 * (1 * x + 0 * y - 2 * c)) 1) = true ∧ inR IntKind.i64 (Int.tdiv (2 * (1 * x + 0 * y - 2 *
c)) 1 * 1) = true ∧ inR IntKind.i64 (x - Int.tdiv (2 * (1 * x + 0 * y - 2 * c)) 1 * 1) = true ∧ inR IntKind.i64 (Int.tdiv (2 * (1 * x + 0 * y - 2 * c)) 1 * 0) = true ∧ inR IntKind.i64 (y - Int.tdiv (2
* (1 * x + 0 * y - 2 * c)) 1 * 0) = true ∧ x - Int.tdiv (2 * (1 * x + 0 * y - 2 * c)) 1 * 1 = rfX 1 c x y ∧ y - Int.tdiv (2 * (1 * x + 0 * y - 2 * c)) 1 * 0 = rfY 1 c x y ∧ True) := by kernel_rfl

theorem ob_o138_2 (c x y : Int) : fnP (TQ138) G 10000 fe138 (.r [] 0 (.r [] 15 (.r [] 371 (.r [] 73 .nil)))) ([.agg [.int .u8 2, .int .i64 c], .agg [.int .i64 x, .int .i64 y]]) ([.agg [.int .i64 (rfX 2 c x y), .int .i64 (rfY 2 c x y)]]) ([]) = (
(sml c ∧ sml x ∧ sml y) ∧ inR IntKind.i64 (2 * (0 * x + 1 * y - 2 * c)) = true ∧ inR IntKind.i64 (Int.tdiv (2 * (0 * x + 1 * y - 2 * c)) 1) = true ∧ inR IntKind.i64 (Int.tdiv (2 * (0 * x + 1 * y - 2 *
c)) 1 * 0) = true ∧ inR IntKind.i64 (x - Int.tdiv (2 * (0 * x + 1 * y - 2 * c)) 1 * 0) = true ∧ inR IntKind.i64 (Int.tdiv (2 * (0 * x + 1 * y - 2 * c)) 1 * 1) = true ∧ inR IntKind.i64 (y - Int.tdiv (2
* (0 * x + 1 * y - 2 * c)) 1 * 1) = true ∧ x - Int.tdiv (2 * (0 * x + 1 * y - 2 * c)) 1 * 0 = rfX 2 c x y ∧ y - Int.tdiv (2 * (0 * x + 1 * y - 2 * c)) 1 * 1 = rfY 2 c x y ∧ True) := by kernel_rfl

theorem ob_o138_3 (c x y : Int) : fnP (TQ138) G 10000 fe138 (.r [] 0 (.r [] 15 (.r [] 371 (.r [] 73 .nil)))) ([.agg [.int .u8 3, .int .i64 c], .agg [.int .i64 x, .int .i64 y]]) ([.agg [.int .i64 (rfX 3 c x y), .int .i64 (rfY 3 c x y)]]) ([]) = (
(sml c ∧ sml x ∧ sml y) ∧ inR IntKind.i64 (2 * (1 * x + 1 * y - 2 * c)) = true ∧ inR IntKind.i64 (Int.tdiv (2 * (1 * x + 1 * y - 2 * c)) 2) = true ∧ inR IntKind.i64 (Int.tdiv (2 * (1 * x + 1 * y - 2 *
c)) 2 * 1) = true ∧ inR IntKind.i64 (x - Int.tdiv (2 * (1 * x + 1 * y - 2 * c)) 2 * 1) = true ∧ inR IntKind.i64 (Int.tdiv (2 * (1 * x + 1 * y - 2 * c)) 2 * 1) = true ∧ inR IntKind.i64 (y - Int.tdiv (2
* (1 * x + 1 * y - 2 * c)) 2 * 1) = true ∧ x - Int.tdiv (2 * (1 * x + 1 * y - 2 * c)) 2 * 1 = rfX 3 c x y ∧ y - Int.tdiv (2 * (1 * x + 1 * y - 2 * c)) 2 * 1 = rfY 3 c x y ∧ True) := by kernel_rfl

theorem ob_o138_4 (c x y : Int) : fnP (TQ138) G 10000 fe138 (.r [] 0 (.r [] 15 (.r [] 371 (.r [] 73 .nil)))) ([.agg [.int .u8 4, .int .i64 c], .agg [.int .i64 x, .int .i64 y]]) ([.agg [.int .i64 (rfX 4 c x y), .int .i64 (rfY 4 c x y)]]) ([]) = (
(sml c ∧ sml x ∧ sml y) ∧ inR IntKind.i64 (2 * (-1 * x + 1 * y - 2 * c)) = true ∧ inR IntKind.i64 (Int.tdiv (2 * (-1 * x + 1 * y - 2 * c)) 2) = true ∧ inR IntKind.i64 (Int.tdiv (2 * (-1 * x + 1 * y -
2 * c)) 2 * -1) = true ∧ inR IntKind.i64 (x - Int.tdiv (2 * (-1 * x + 1 * y - 2 * c)) 2 * -1) = true ∧ inR IntKind.i64 (Int.tdiv (2 * (-1 * x + 1 * y - 2 * c)) 2 * 1) = true ∧ inR IntKind.i64 (y -
Int.tdiv (2 * (-1 * x + 1 * y - 2 * c)) 2 * 1) = true ∧ x - Int.tdiv (2 * (-1 * x + 1 * y - 2 * c)) 2 * -1 = rfX 4 c x y ∧ y - Int.tdiv (2 * (-1 * x + 1 * y - 2 * c)) 2 * 1 = rfY 4 c x y ∧ True) := by kernel_rfl

end Go.Proofs.YtmnaghfndigfkaaDoor.X
