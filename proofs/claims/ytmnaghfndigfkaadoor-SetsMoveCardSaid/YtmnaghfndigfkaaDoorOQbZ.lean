/-
 What is to be shown of the functions (made by a program).
-/
import Derived.Test.YtmnaghfndigfkaaDoorDVZ
import Derived.KernelRfl

set_option maxRecDepth 1000000
set_option linter.unusedVariables false
namespace Go.Proofs.YtmnaghfndigfkaaDoor.X
open Go Go.Ab

theorem ob_o175 (k : Int) : fnP (T0) G 10000 fe175 (.r [] 0 (.r [] 0 (.cnd (.r [] 0 .nil) (.r [] 0 (.cnd (.r [] 0 .nil) (.r [] 0 (.cnd (.r [] 0 .nil) (.r [] 0 .nil)))))))) ([.int .u8 k]) ([.int .i64 (acA k), .int .i64 (acB k)]) ([]) = (
((k == 1) = true → 1 = acA k ∧ 0 = acB k ∧ True) ∧ ((k == 1) = false → ((k == 2) = true → 0 = acA k ∧ 1 = acB k ∧ True) ∧ ((k == 2) = false → ((k == 3) = true → 1 = acA k ∧ 1 = acB k ∧ True) ∧ ((k ==
3) = false → -1 = acA k ∧ 1 = acB k ∧ True)))) := by kernel_rfl

theorem ob_o134_0 (x y : Int) : fnP (T0) G 10000 fe134 (.r [] 0 (.r [] 5 (.r [] 16 (.r [] 63 (.r [] 1 (.lit (.r [] 508 .nil))))))) ([.agg [.int .i64 x, .int .i64 y, .int .u8 0]]) ([.agg (crL x y 0)]) ([]) = (
inR IntKind.i64 (2 * x) = true ∧ inR IntKind.i64 (2 * y) = true ∧ inR IntKind.i64 (2 * x + 2) = true ∧ inR IntKind.i64 (2 * x + 2) = true ∧ inR IntKind.i64 (2 * y + 2) = true ∧ inR IntKind.i64 (2 * y
+ 2) = true ∧ inR IntKind.i64 (2 * x + 1) = true ∧ inR IntKind.i64 (2 * y + 1) = true ∧ 2 * x + 1 = 2 * x + 1 ∧ 2 * y + 1 = 2 * y + 1 ∧ 2 * x = 2 * x + 0 ∧ 2 * y = 2 * y + 0 ∧ 2 * x + 2 = 2 * x + 2 ∧
2 * y = 2 * y + 0 ∧ True) := by kernel_rfl

theorem ob_o134_1 (x y : Int) : fnP (T0) G 10000 fe134 (.r [] 0 (.r [] 5 (.r [] 16 (.r [] 63 (.r [] 1 (.lit (.r [] 0 (.r [] 508 .nil)))))))) ([.agg [.int .i64 x, .int .i64 y, .int .u8 1]]) ([.agg (crL x y 1)]) ([]) = (
inR IntKind.i64 (2 * x) = true ∧ inR IntKind.i64 (2 * y) = true ∧ inR IntKind.i64 (2 * x + 2) = true ∧ inR IntKind.i64 (2 * x + 2) = true ∧ inR IntKind.i64 (2 * y + 2) = true ∧ inR IntKind.i64 (2 * y
+ 2) = true ∧ inR IntKind.i64 (2 * x + 1) = true ∧ inR IntKind.i64 (2 * y + 1) = true ∧ 2 * x + 1 = 2 * x + 1 ∧ 2 * y + 1 = 2 * y + 1 ∧ 2 * x + 2 = 2 * x + 2 ∧ 2 * y + 2 = 2 * y + 2 ∧ 2 * x + 2 = 2 *
x + 2 ∧ 2 * y = 2 * y + 0 ∧ True) := by kernel_rfl

theorem ob_o134_2 (x y : Int) : fnP (T0) G 10000 fe134 (.r [] 0 (.r [] 5 (.r [] 16 (.r [] 63 (.r [] 1 (.lit (.r [] 508 .nil))))))) ([.agg [.int .i64 x, .int .i64 y, .int .u8 2]]) ([.agg (crL x y 2)]) ([]) = (
inR IntKind.i64 (2 * x) = true ∧ inR IntKind.i64 (2 * y) = true ∧ inR IntKind.i64 (2 * x + 2) = true ∧ inR IntKind.i64 (2 * x + 2) = true ∧ inR IntKind.i64 (2 * y + 2) = true ∧ inR IntKind.i64 (2 * y
+ 2) = true ∧ inR IntKind.i64 (2 * x + 1) = true ∧ inR IntKind.i64 (2 * y + 1) = true ∧ 2 * x + 1 = 2 * x + 1 ∧ 2 * y + 1 = 2 * y + 1 ∧ 2 * x + 2 = 2 * x + 2 ∧ 2 * y + 2 = 2 * y + 2 ∧ 2 * x = 2 * x +
0 ∧ 2 * y + 2 = 2 * y + 2 ∧ True) := by kernel_rfl

theorem ob_o134_3 (x y : Int) : fnP (T0) G 10000 fe134 (.r [] 0 (.r [] 5 (.r [] 16 (.r [] 63 (.r [] 1 (.lit (.r [] 0 (.r [] 508 .nil)))))))) ([.agg [.int .i64 x, .int .i64 y, .int .u8 3]]) ([.agg (crL x y 3)]) ([]) = (
inR IntKind.i64 (2 * x) = true ∧ inR IntKind.i64 (2 * y) = true ∧ inR IntKind.i64 (2 * x + 2) = true ∧ inR IntKind.i64 (2 * x + 2) = true ∧ inR IntKind.i64 (2 * y + 2) = true ∧ inR IntKind.i64 (2 * y
+ 2) = true ∧ inR IntKind.i64 (2 * x + 1) = true ∧ inR IntKind.i64 (2 * y + 1) = true ∧ 2 * x + 1 = 2 * x + 1 ∧ 2 * y + 1 = 2 * y + 1 ∧ 2 * x = 2 * x + 0 ∧ 2 * y = 2 * y + 0 ∧ 2 * x = 2 * x + 0 ∧ 2 *
y + 2 = 2 * y + 2 ∧ True) := by kernel_rfl

theorem ob_o136a (x y q : Int) : fnP (TQ137) G 10000 fe136 (.r [] 0 (.r [] 0 (.un (.r [] 0 (.lit (.r [] 65535 (.r [yL 389, yL 390, yL 391, yL 392, yL 393] 1019 (.ff (.r [] 0 (.lp (l136 q) [] [] (fun b => (.r [] 0 (.tt (.r [] 409 (.r [] 5 (.jn (jP (neI b.i q)) [9] [] (.rs 5 [] 15 57 (.rs 6 [] 63 63 (.r [] 3 (.lit (.r [] 3 .nil))) (.rs 5 [] 15 68 (.r [] 255 (.cnd (.r [] 3 .nil) .nil)) (.r [] 15 (.lit .nil)))) (.rs 11 [] 63 68 (.r [] 255 (.cnd (.r [] 3 .nil) .nil)) (.r [] 15 (.lit .nil)))) (fun b_1 => (.r [] 0 .nil)))))))))))))))))) ([.agg (crL x y q)]) ([.agg [.int .i64 x, .int .i64 y, .int .u8 q]]) ([]) = (
(!Int.tmod (2 * x + 1) 2 == 0) = true ∧ (Int.tmod (2 * y + 1) 2 == 0) = false ∧ 1 = 1 ∧ 2 * x + 1 = 2 * x + 1 ∧ 2 * y + 1 = 2 * y + 1 ∧ 2 * x + 2 * crS q = 2 * x + 2 * crS q ∧ 2 * y + 2 * crS q = 2 *
y + 2 * crS q ∧ 2 * x + 2 * crX q = 2 * x + 2 * crX q ∧ 2 * y + 2 * crY q = 2 * y + 2 * crY q ∧ 1 = 1 ∧ iI 0 = 0 ∧ iI 0 = 0 ∧ iI 0 = 0 ∧ 1 = 1 ∧ 2 * x + 1 = 2 * x + 1 ∧ 2 * y + 1 = 2 * y + 1 ∧ 1 = 1 ∧
2 * x + 2 * crS q = 2 * x + 2 * crS q ∧ 2 * y + 2 * crS q = 2 * y + 2 * crS q ∧ 1 = 1 ∧ 2 * x + 2 * crX q = 2 * x + 2 * crX q ∧ 2 * y + 2 * crY q = 2 * y + 2 * crY q ∧ 0 = 0 ∧ 0 = 0 ∧ iI 0 = 0 ∧ 0 = 0
∧ 0 = 0 ∧ 0 = 0 ∧ 1 = 1 ∧ 2 * y + 1 = 2 * y + 1 ∧ Int.tmod (2 * y + 1) 2 = Int.tmod (2 * y + 1) 2 ∧ (Int.tmod (2 * y + 1) 2 == 0) = (Int.tmod (2 * y + 1) 2 == 0) ∧ iI 0 = 0 ∧ (iI 0 ≤ iI 0 ∧ 0 ≤ q) ∧ ∀
(b : L136), 0 ≤ b.i ∧ b.i ≤ q → ltb b.i 4 = true ∧ inR IntKind.i64 (2 * x + 1 - 1) = true ∧ inR IntKind.i64 (Int.tdiv (2 * x + 1 - 1) 2) = true ∧ inR IntKind.i64 (2 * y + 1 - 1) = true ∧ inR
IntKind.i64 (Int.tdiv (2 * y + 1 - 1) 2) = true ∧ (sml (Int.tdiv (2 * x + 1 - 1) 2) ∧ sml (Int.tdiv (2 * y + 1 - 1) 2) ∧ 0 ≤ b.i ∧ b.i ≤ 3) ∧ (((2 * Int.tdiv (2 * x + 1 - 1) 2 + 2 * crS b.i == 2 * x +
2 * crS q && 2 * Int.tdiv (2 * y + 1 - 1) 2 + 2 * crS b.i == 2 * y + 2 * crS q) = true → ((2 * Int.tdiv (2 * x + 1 - 1) 2 + 2 * crX b.i == 2 * x + 2 * crX q && 2 * Int.tdiv (2 * y + 1 - 1) 2 + 2 * crY
b.i == 2 * y + 2 * crY q) = true → Int.tdiv (2 * x + 1 - 1) 2 = x ∧ Int.tdiv (2 * y + 1 - 1) 2 = y ∧ b.i = q ∧ True) ∧ ((2 * Int.tdiv (2 * x + 1 - 1) 2 + 2 * crX b.i == 2 * x + 2 * crX q && 2 *
Int.tdiv (2 * y + 1 - 1) 2 + 2 * crY b.i == 2 * y + 2 * crY q) = false → ((2 * Int.tdiv (2 * x + 1 - 1) 2 + 2 * crS b.i == 2 * x + 2 * crX q && 2 * Int.tdiv (2 * y + 1 - 1) 2 + 2 * crS b.i == 2 * y +
2 * crY q) = true → ((2 * Int.tdiv (2 * x + 1 - 1) 2 + 2 * crX b.i == 2 * x + 2 * crS q && 2 * Int.tdiv (2 * y + 1 - 1) 2 + 2 * crY b.i == 2 * y + 2 * crS q) = true → Int.tdiv (2 * x + 1 - 1) 2 = x ∧
Int.tdiv (2 * y + 1 - 1) 2 = y ∧ b.i = q ∧ True) ∧ ((2 * Int.tdiv (2 * x + 1 - 1) 2 + 2 * crX b.i == 2 * x + 2 * crS q && 2 * Int.tdiv (2 * y + 1 - 1) 2 + 2 * crY b.i == 2 * y + 2 * crS q) = false → 1
= 1 ∧ 2 * x + 1 = 2 * x + 1 ∧ 2 * y + 1 = 2 * y + 1 ∧ 2 * x + 2 * crS q = 2 * x + 2 * crS q ∧ 2 * y + 2 * crS q = 2 * y + 2 * crS q ∧ 2 * x + 2 * crX q = 2 * x + 2 * crX q ∧ 2 * y + 2 * crY q = 2 * y
+ 2 * crY q ∧ 1 = 1 ∧ iI 0 = 0 ∧ iI 0 = 0 ∧ iI 0 = 0 ∧ 1 = 1 ∧ 2 * x + 1 = 2 * x + 1 ∧ 2 * y + 1 = 2 * y + 1 ∧ 1 = 1 ∧ 2 * x + 2 * crS q = 2 * x + 2 * crS q ∧ 2 * y + 2 * crS q = 2 * y + 2 * crS q ∧ 1
= 1 ∧ 2 * x + 2 * crX q = 2 * x + 2 * crX q ∧ 2 * y + 2 * crY q = 2 * y + 2 * crY q ∧ 1 = 1 ∧ Int.tdiv (2 * x + 1 - 1) 2 = Int.tdiv (2 * x + 1 - 1) 2 ∧ Int.tdiv (2 * y + 1 - 1) 2 = Int.tdiv (2 * y + 1
- 1) 2 ∧ b.i = b.i ∧ 3 = 3 ∧ 2 * Int.tdiv (2 * x + 1 - 1) 2 + 1 = 2 * Int.tdiv (2 * x + 1 - 1) 2 + 1 ∧ 2 * Int.tdiv (2 * y + 1 - 1) 2 + 1 = 2 * Int.tdiv (2 * y + 1 - 1) 2 + 1 ∧ 2 * Int.tdiv (2 * x + 1
- 1) 2 + 2 * crS b.i = 2 * Int.tdiv (2 * x + 1 - 1) 2 + 2 * crS b.i ∧ 2 * Int.tdiv (2 * y + 1 - 1) 2 + 2 * crS b.i = 2 * Int.tdiv (2 * y + 1 - 1) 2 + 2 * crS b.i ∧ 2 * Int.tdiv (2 * x + 1 - 1) 2 + 2 *
crX b.i = 2 * Int.tdiv (2 * x + 1 - 1) 2 + 2 * crX b.i ∧ 2 * Int.tdiv (2 * y + 1 - 1) 2 + 2 * crY b.i = 2 * Int.tdiv (2 * y + 1 - 1) 2 + 2 * crY b.i ∧ 0 = 0 ∧ 0 = 0 ∧ iI 0 = 0 ∧ 0 = 0 ∧ 0 = 0 ∧ 0 = 0
∧ 1 = 1 ∧ 2 * y + 1 = 2 * y + 1 ∧ Int.tmod (2 * y + 1) 2 = Int.tmod (2 * y + 1) 2 ∧ (Int.tmod (2 * y + 1) 2 == 0) = (Int.tmod (2 * y + 1) 2 == 0) ∧ b.i = b.i ∧ 0 = 0 ∧ neI b.i q ∧ True)) ∧ ((2 *
Int.tdiv (2 * x + 1 - 1) 2 + 2 * crS b.i == 2 * x + 2 * crX q && 2 * Int.tdiv (2 * y + 1 - 1) 2 + 2 * crS b.i == 2 * y + 2 * crY q) = false → 1 = 1 ∧ 2 * x + 1 = 2 * x + 1 ∧ 2 * y + 1 = 2 * y + 1 ∧ 2
* x + 2 * crS q = 2 * x + 2 * crS q ∧ 2 * y + 2 * crS q = 2 * y + 2 * crS q ∧ 2 * x + 2 * crX q = 2 * x + 2 * crX q ∧ 2 * y + 2 * crY q = 2 * y + 2 * crY q ∧ 1 = 1 ∧ iI 0 = 0 ∧ iI 0 = 0 ∧ iI 0 = 0 ∧ 1
= 1 ∧ 2 * x + 1 = 2 * x + 1 ∧ 2 * y + 1 = 2 * y + 1 ∧ 1 = 1 ∧ 2 * x + 2 * crS q = 2 * x + 2 * crS q ∧ 2 * y + 2 * crS q = 2 * y + 2 * crS q ∧ 1 = 1 ∧ 2 * x + 2 * crX q = 2 * x + 2 * crX q ∧ 2 * y + 2
* crY q = 2 * y + 2 * crY q ∧ 1 = 1 ∧ Int.tdiv (2 * x + 1 - 1) 2 = Int.tdiv (2 * x + 1 - 1) 2 ∧ Int.tdiv (2 * y + 1 - 1) 2 = Int.tdiv (2 * y + 1 - 1) 2 ∧ b.i = b.i ∧ 3 = 3 ∧ 2 * Int.tdiv (2 * x + 1 -
1) 2 + 1 = 2 * Int.tdiv (2 * x + 1 - 1) 2 + 1 ∧ 2 * Int.tdiv (2 * y + 1 - 1) 2 + 1 = 2 * Int.tdiv (2 * y + 1 - 1) 2 + 1 ∧ 2 * Int.tdiv (2 * x + 1 - 1) 2 + 2 * crS b.i = 2 * Int.tdiv (2 * x + 1 - 1) 2
+ 2 * crS b.i ∧ 2 * Int.tdiv (2 * y + 1 - 1) 2 + 2 * crS b.i = 2 * Int.tdiv (2 * y + 1 - 1) 2 + 2 * crS b.i ∧ 2 * Int.tdiv (2 * x + 1 - 1) 2 + 2 * crX b.i = 2 * Int.tdiv (2 * x + 1 - 1) 2 + 2 * crX
b.i ∧ 2 * Int.tdiv (2 * y + 1 - 1) 2 + 2 * crY b.i = 2 * Int.tdiv (2 * y + 1 - 1) 2 + 2 * crY b.i ∧ 0 = 0 ∧ 0 = 0 ∧ iI 0 = 0 ∧ 0 = 0 ∧ 0 = 0 ∧ 0 = 0 ∧ 1 = 1 ∧ 2 * y + 1 = 2 * y + 1 ∧ Int.tmod (2 * y +
1) 2 = Int.tmod (2 * y + 1) 2 ∧ (Int.tmod (2 * y + 1) 2 == 0) = (Int.tmod (2 * y + 1) 2 == 0) ∧ b.i = b.i ∧ 0 = 0 ∧ neI b.i q ∧ True))) ∧ ((2 * Int.tdiv (2 * x + 1 - 1) 2 + 2 * crS b.i == 2 * x + 2 *
crS q && 2 * Int.tdiv (2 * y + 1 - 1) 2 + 2 * crS b.i == 2 * y + 2 * crS q) = false → ((2 * Int.tdiv (2 * x + 1 - 1) 2 + 2 * crS b.i == 2 * x + 2 * crX q && 2 * Int.tdiv (2 * y + 1 - 1) 2 + 2 * crS
b.i == 2 * y + 2 * crY q) = true → ((2 * Int.tdiv (2 * x + 1 - 1) 2 + 2 * crX b.i == 2 * x + 2 * crS q && 2 * Int.tdiv (2 * y + 1 - 1) 2 + 2 * crY b.i == 2 * y + 2 * crS q) = true → Int.tdiv (2 * x +
1 - 1) 2 = x ∧ Int.tdiv (2 * y + 1 - 1) 2 = y ∧ b.i = q ∧ True) ∧ ((2 * Int.tdiv (2 * x + 1 - 1) 2 + 2 * crX b.i == 2 * x + 2 * crS q && 2 * Int.tdiv (2 * y + 1 - 1) 2 + 2 * crY b.i == 2 * y + 2 * crS
q) = false → 1 = 1 ∧ 2 * x + 1 = 2 * x + 1 ∧ 2 * y + 1 = 2 * y + 1 ∧ 2 * x + 2 * crS q = 2 * x + 2 * crS q ∧ 2 * y + 2 * crS q = 2 * y + 2 * crS q ∧ 2 * x + 2 * crX q = 2 * x + 2 * crX q ∧ 2 * y + 2 *
crY q = 2 * y + 2 * crY q ∧ 1 = 1 ∧ iI 0 = 0 ∧ iI 0 = 0 ∧ iI 0 = 0 ∧ 1 = 1 ∧ 2 * x + 1 = 2 * x + 1 ∧ 2 * y + 1 = 2 * y + 1 ∧ 1 = 1 ∧ 2 * x + 2 * crS q = 2 * x + 2 * crS q ∧ 2 * y + 2 * crS q = 2 * y +
2 * crS q ∧ 1 = 1 ∧ 2 * x + 2 * crX q = 2 * x + 2 * crX q ∧ 2 * y + 2 * crY q = 2 * y + 2 * crY q ∧ 1 = 1 ∧ Int.tdiv (2 * x + 1 - 1) 2 = Int.tdiv (2 * x + 1 - 1) 2 ∧ Int.tdiv (2 * y + 1 - 1) 2 =
Int.tdiv (2 * y + 1 - 1) 2 ∧ b.i = b.i ∧ 3 = 3 ∧ 2 * Int.tdiv (2 * x + 1 - 1) 2 + 1 = 2 * Int.tdiv (2 * x + 1 - 1) 2 + 1 ∧ 2 * Int.tdiv (2 * y + 1 - 1) 2 + 1 = 2 * Int.tdiv (2 * y + 1 - 1) 2 + 1 ∧ 2 *
Int.tdiv (2 * x + 1 - 1) 2 + 2 * crS b.i = 2 * Int.tdiv (2 * x + 1 - 1) 2 + 2 * crS b.i ∧ 2 * Int.tdiv (2 * y + 1 - 1) 2 + 2 * crS b.i = 2 * Int.tdiv (2 * y + 1 - 1) 2 + 2 * crS b.i ∧ 2 * Int.tdiv (2
* x + 1 - 1) 2 + 2 * crX b.i = 2 * Int.tdiv (2 * x + 1 - 1) 2 + 2 * crX b.i ∧ 2 * Int.tdiv (2 * y + 1 - 1) 2 + 2 * crY b.i = 2 * Int.tdiv (2 * y + 1 - 1) 2 + 2 * crY b.i ∧ 0 = 0 ∧ 0 = 0 ∧ iI 0 = 0 ∧ 0
= 0 ∧ 0 = 0 ∧ 0 = 0 ∧ 1 = 1 ∧ 2 * y + 1 = 2 * y + 1 ∧ Int.tmod (2 * y + 1) 2 = Int.tmod (2 * y + 1) 2 ∧ (Int.tmod (2 * y + 1) 2 == 0) = (Int.tmod (2 * y + 1) 2 == 0) ∧ b.i = b.i ∧ 0 = 0 ∧ neI b.i q ∧
True)) ∧ ((2 * Int.tdiv (2 * x + 1 - 1) 2 + 2 * crS b.i == 2 * x + 2 * crX q && 2 * Int.tdiv (2 * y + 1 - 1) 2 + 2 * crS b.i == 2 * y + 2 * crY q) = false → 1 = 1 ∧ 2 * x + 1 = 2 * x + 1 ∧ 2 * y + 1 =
2 * y + 1 ∧ 2 * x + 2 * crS q = 2 * x + 2 * crS q ∧ 2 * y + 2 * crS q = 2 * y + 2 * crS q ∧ 2 * x + 2 * crX q = 2 * x + 2 * crX q ∧ 2 * y + 2 * crY q = 2 * y + 2 * crY q ∧ 1 = 1 ∧ iI 0 = 0 ∧ iI 0 = 0
∧ iI 0 = 0 ∧ 1 = 1 ∧ 2 * x + 1 = 2 * x + 1 ∧ 2 * y + 1 = 2 * y + 1 ∧ 1 = 1 ∧ 2 * x + 2 * crS q = 2 * x + 2 * crS q ∧ 2 * y + 2 * crS q = 2 * y + 2 * crS q ∧ 1 = 1 ∧ 2 * x + 2 * crX q = 2 * x + 2 * crX
q ∧ 2 * y + 2 * crY q = 2 * y + 2 * crY q ∧ 1 = 1 ∧ Int.tdiv (2 * x + 1 - 1) 2 = Int.tdiv (2 * x + 1 - 1) 2 ∧ Int.tdiv (2 * y + 1 - 1) 2 = Int.tdiv (2 * y + 1 - 1) 2 ∧ b.i = b.i ∧ 3 = 3 ∧ 2 * Int.tdiv
(2 * x + 1 - 1) 2 + 1 = 2 * Int.tdiv (2 * x + 1 - 1) 2 + 1 ∧ 2 * Int.tdiv (2 * y + 1 - 1) 2 + 1 = 2 * Int.tdiv (2 * y + 1 - 1) 2 + 1 ∧ 2 * Int.tdiv (2 * x + 1 - 1) 2 + 2 * crS b.i = 2 * Int.tdiv (2 *
x + 1 - 1) 2 + 2 * crS b.i ∧ 2 * Int.tdiv (2 * y + 1 - 1) 2 + 2 * crS b.i = 2 * Int.tdiv (2 * y + 1 - 1) 2 + 2 * crS b.i ∧ 2 * Int.tdiv (2 * x + 1 - 1) 2 + 2 * crX b.i = 2 * Int.tdiv (2 * x + 1 - 1) 2
+ 2 * crX b.i ∧ 2 * Int.tdiv (2 * y + 1 - 1) 2 + 2 * crY b.i = 2 * Int.tdiv (2 * y + 1 - 1) 2 + 2 * crY b.i ∧ 0 = 0 ∧ 0 = 0 ∧ iI 0 = 0 ∧ 0 = 0 ∧ 0 = 0 ∧ 0 = 0 ∧ 1 = 1 ∧ 2 * y + 1 = 2 * y + 1 ∧
Int.tmod (2 * y + 1) 2 = Int.tmod (2 * y + 1) 2 ∧ (Int.tmod (2 * y + 1) 2 == 0) = (Int.tmod (2 * y + 1) 2 == 0) ∧ b.i = b.i ∧ 0 = 0 ∧ neI b.i q ∧ True))) ∧ ∀ (b_1 : Unit), neI b.i q → inR IntKind.u8
(b.i + 1) = true ∧ 1 = 1 ∧ 2 * x + 1 = 2 * x + 1 ∧ 2 * y + 1 = 2 * y + 1 ∧ 2 * x + 2 * crS q = 2 * x + 2 * crS q ∧ 2 * y + 2 * crS q = 2 * y + 2 * crS q ∧ 2 * x + 2 * crX q = 2 * x + 2 * crX q ∧ 2 * y
+ 2 * crY q = 2 * y + 2 * crY q ∧ 1 = 1 ∧ iI 0 = 0 ∧ iI 0 = 0 ∧ iI 0 = 0 ∧ 1 = 1 ∧ 2 * x + 1 = 2 * x + 1 ∧ 2 * y + 1 = 2 * y + 1 ∧ 1 = 1 ∧ 2 * x + 2 * crS q = 2 * x + 2 * crS q ∧ 2 * y + 2 * crS q = 2
* y + 2 * crS q ∧ 1 = 1 ∧ 2 * x + 2 * crX q = 2 * x + 2 * crX q ∧ 2 * y + 2 * crY q = 2 * y + 2 * crY q ∧ 0 = 0 ∧ 0 = 0 ∧ iI 0 = 0 ∧ 0 = 0 ∧ 0 = 0 ∧ 0 = 0 ∧ 1 = 1 ∧ 2 * y + 1 = 2 * y + 1 ∧ Int.tmod (2
* y + 1) 2 = Int.tmod (2 * y + 1) 2 ∧ (Int.tmod (2 * y + 1) 2 == 0) = (Int.tmod (2 * y + 1) 2 == 0) ∧ b.i + 1 = b.i + 1 ∧ (0 ≤ b.i + 1 ∧ b.i + 1 ≤ q) ∧ 4 - Int.toNat (b.i + 1) < 4 - Int.toNat b.i ∧
True) := by kernel_rfl

theorem ob_o136b (x y q : Int) : fnP (TQ137) G 10000 fe136 (.r [] 0 (.r [] 0 (.un (.r [] 0 (.lit (.r [] 65535 (.r [yL 389, yL 390, yL 391, yL 392, yL 393] 1019 (.ff (.r [] 0 (.lp (l136 q) [] [] (fun b => (.r [] 0 (.tt (.r [] 409 (.r [] 5 (.jn (jP (neI b.i q)) [9] [] (.rs 5 [] 15 57 (.rs 6 [] 63 63 (.r [] 3 (.lit (.r [] 3 .nil))) (.rs 5 [] 15 68 (.r [] 255 (.cnd (.r [] 3 .nil) .nil)) (.r [] 15 (.lit .nil)))) (.rs 11 [] 63 68 (.r [] 255 (.cnd (.r [] 3 .nil) .nil)) (.r [] 15 (.lit .nil)))) (fun b_1 => (.r [] 0 .nil)))))))))))))))))) ([.agg [.int .i64 (2 * x + 1), .int .i64 (2 * y + 1), .int .i64 (2 * x + 2 * crX q), .int .i64 (2 * y + 2 * crY q), .int .i64 (2 * x + 2 * crS q), .int .i64 (2 * y + 2 * crS q)]]) ([.agg [.int .i64 x, .int .i64 y, .int .u8 q]]) ([]) = (
(!Int.tmod (2 * x + 1) 2 == 0) = true ∧ (Int.tmod (2 * y + 1) 2 == 0) = false ∧ 1 = 1 ∧ 2 * x + 1 = 2 * x + 1 ∧ 2 * y + 1 = 2 * y + 1 ∧ 2 * x + 2 * crX q = 2 * x + 2 * crX q ∧ 2 * y + 2 * crY q = 2 *
y + 2 * crY q ∧ 2 * x + 2 * crS q = 2 * x + 2 * crS q ∧ 2 * y + 2 * crS q = 2 * y + 2 * crS q ∧ 1 = 1 ∧ iI 0 = 0 ∧ iI 0 = 0 ∧ iI 0 = 0 ∧ 1 = 1 ∧ 2 * x + 1 = 2 * x + 1 ∧ 2 * y + 1 = 2 * y + 1 ∧ 1 = 1 ∧
2 * x + 2 * crX q = 2 * x + 2 * crX q ∧ 2 * y + 2 * crY q = 2 * y + 2 * crY q ∧ 1 = 1 ∧ 2 * x + 2 * crS q = 2 * x + 2 * crS q ∧ 2 * y + 2 * crS q = 2 * y + 2 * crS q ∧ 0 = 0 ∧ 0 = 0 ∧ iI 0 = 0 ∧ 0 = 0
∧ 0 = 0 ∧ 0 = 0 ∧ 1 = 1 ∧ 2 * y + 1 = 2 * y + 1 ∧ Int.tmod (2 * y + 1) 2 = Int.tmod (2 * y + 1) 2 ∧ (Int.tmod (2 * y + 1) 2 == 0) = (Int.tmod (2 * y + 1) 2 == 0) ∧ iI 0 = 0 ∧ (iI 0 ≤ iI 0 ∧ 0 ≤ q) ∧ ∀
(b : L136), 0 ≤ b.i ∧ b.i ≤ q → ltb b.i 4 = true ∧ inR IntKind.i64 (2 * x + 1 - 1) = true ∧ inR IntKind.i64 (Int.tdiv (2 * x + 1 - 1) 2) = true ∧ inR IntKind.i64 (2 * y + 1 - 1) = true ∧ inR
IntKind.i64 (Int.tdiv (2 * y + 1 - 1) 2) = true ∧ (sml (Int.tdiv (2 * x + 1 - 1) 2) ∧ sml (Int.tdiv (2 * y + 1 - 1) 2) ∧ 0 ≤ b.i ∧ b.i ≤ 3) ∧ (((2 * Int.tdiv (2 * x + 1 - 1) 2 + 2 * crS b.i == 2 * x +
2 * crX q && 2 * Int.tdiv (2 * y + 1 - 1) 2 + 2 * crS b.i == 2 * y + 2 * crY q) = true → ((2 * Int.tdiv (2 * x + 1 - 1) 2 + 2 * crX b.i == 2 * x + 2 * crS q && 2 * Int.tdiv (2 * y + 1 - 1) 2 + 2 * crY
b.i == 2 * y + 2 * crS q) = true → Int.tdiv (2 * x + 1 - 1) 2 = x ∧ Int.tdiv (2 * y + 1 - 1) 2 = y ∧ b.i = q ∧ True) ∧ ((2 * Int.tdiv (2 * x + 1 - 1) 2 + 2 * crX b.i == 2 * x + 2 * crS q && 2 *
Int.tdiv (2 * y + 1 - 1) 2 + 2 * crY b.i == 2 * y + 2 * crS q) = false → ((2 * Int.tdiv (2 * x + 1 - 1) 2 + 2 * crS b.i == 2 * x + 2 * crS q && 2 * Int.tdiv (2 * y + 1 - 1) 2 + 2 * crS b.i == 2 * y +
2 * crS q) = true → ((2 * Int.tdiv (2 * x + 1 - 1) 2 + 2 * crX b.i == 2 * x + 2 * crX q && 2 * Int.tdiv (2 * y + 1 - 1) 2 + 2 * crY b.i == 2 * y + 2 * crY q) = true → Int.tdiv (2 * x + 1 - 1) 2 = x ∧
Int.tdiv (2 * y + 1 - 1) 2 = y ∧ b.i = q ∧ True) ∧ ((2 * Int.tdiv (2 * x + 1 - 1) 2 + 2 * crX b.i == 2 * x + 2 * crX q && 2 * Int.tdiv (2 * y + 1 - 1) 2 + 2 * crY b.i == 2 * y + 2 * crY q) = false → 1
= 1 ∧ 2 * x + 1 = 2 * x + 1 ∧ 2 * y + 1 = 2 * y + 1 ∧ 2 * x + 2 * crX q = 2 * x + 2 * crX q ∧ 2 * y + 2 * crY q = 2 * y + 2 * crY q ∧ 2 * x + 2 * crS q = 2 * x + 2 * crS q ∧ 2 * y + 2 * crS q = 2 * y
+ 2 * crS q ∧ 1 = 1 ∧ iI 0 = 0 ∧ iI 0 = 0 ∧ iI 0 = 0 ∧ 1 = 1 ∧ 2 * x + 1 = 2 * x + 1 ∧ 2 * y + 1 = 2 * y + 1 ∧ 1 = 1 ∧ 2 * x + 2 * crX q = 2 * x + 2 * crX q ∧ 2 * y + 2 * crY q = 2 * y + 2 * crY q ∧ 1
= 1 ∧ 2 * x + 2 * crS q = 2 * x + 2 * crS q ∧ 2 * y + 2 * crS q = 2 * y + 2 * crS q ∧ 1 = 1 ∧ Int.tdiv (2 * x + 1 - 1) 2 = Int.tdiv (2 * x + 1 - 1) 2 ∧ Int.tdiv (2 * y + 1 - 1) 2 = Int.tdiv (2 * y + 1
- 1) 2 ∧ b.i = b.i ∧ 3 = 3 ∧ 2 * Int.tdiv (2 * x + 1 - 1) 2 + 1 = 2 * Int.tdiv (2 * x + 1 - 1) 2 + 1 ∧ 2 * Int.tdiv (2 * y + 1 - 1) 2 + 1 = 2 * Int.tdiv (2 * y + 1 - 1) 2 + 1 ∧ 2 * Int.tdiv (2 * x + 1
- 1) 2 + 2 * crS b.i = 2 * Int.tdiv (2 * x + 1 - 1) 2 + 2 * crS b.i ∧ 2 * Int.tdiv (2 * y + 1 - 1) 2 + 2 * crS b.i = 2 * Int.tdiv (2 * y + 1 - 1) 2 + 2 * crS b.i ∧ 2 * Int.tdiv (2 * x + 1 - 1) 2 + 2 *
crX b.i = 2 * Int.tdiv (2 * x + 1 - 1) 2 + 2 * crX b.i ∧ 2 * Int.tdiv (2 * y + 1 - 1) 2 + 2 * crY b.i = 2 * Int.tdiv (2 * y + 1 - 1) 2 + 2 * crY b.i ∧ 0 = 0 ∧ 0 = 0 ∧ iI 0 = 0 ∧ 0 = 0 ∧ 0 = 0 ∧ 0 = 0
∧ 1 = 1 ∧ 2 * y + 1 = 2 * y + 1 ∧ Int.tmod (2 * y + 1) 2 = Int.tmod (2 * y + 1) 2 ∧ (Int.tmod (2 * y + 1) 2 == 0) = (Int.tmod (2 * y + 1) 2 == 0) ∧ b.i = b.i ∧ 0 = 0 ∧ neI b.i q ∧ True)) ∧ ((2 *
Int.tdiv (2 * x + 1 - 1) 2 + 2 * crS b.i == 2 * x + 2 * crS q && 2 * Int.tdiv (2 * y + 1 - 1) 2 + 2 * crS b.i == 2 * y + 2 * crS q) = false → 1 = 1 ∧ 2 * x + 1 = 2 * x + 1 ∧ 2 * y + 1 = 2 * y + 1 ∧ 2
* x + 2 * crX q = 2 * x + 2 * crX q ∧ 2 * y + 2 * crY q = 2 * y + 2 * crY q ∧ 2 * x + 2 * crS q = 2 * x + 2 * crS q ∧ 2 * y + 2 * crS q = 2 * y + 2 * crS q ∧ 1 = 1 ∧ iI 0 = 0 ∧ iI 0 = 0 ∧ iI 0 = 0 ∧ 1
= 1 ∧ 2 * x + 1 = 2 * x + 1 ∧ 2 * y + 1 = 2 * y + 1 ∧ 1 = 1 ∧ 2 * x + 2 * crX q = 2 * x + 2 * crX q ∧ 2 * y + 2 * crY q = 2 * y + 2 * crY q ∧ 1 = 1 ∧ 2 * x + 2 * crS q = 2 * x + 2 * crS q ∧ 2 * y + 2
* crS q = 2 * y + 2 * crS q ∧ 1 = 1 ∧ Int.tdiv (2 * x + 1 - 1) 2 = Int.tdiv (2 * x + 1 - 1) 2 ∧ Int.tdiv (2 * y + 1 - 1) 2 = Int.tdiv (2 * y + 1 - 1) 2 ∧ b.i = b.i ∧ 3 = 3 ∧ 2 * Int.tdiv (2 * x + 1 -
1) 2 + 1 = 2 * Int.tdiv (2 * x + 1 - 1) 2 + 1 ∧ 2 * Int.tdiv (2 * y + 1 - 1) 2 + 1 = 2 * Int.tdiv (2 * y + 1 - 1) 2 + 1 ∧ 2 * Int.tdiv (2 * x + 1 - 1) 2 + 2 * crS b.i = 2 * Int.tdiv (2 * x + 1 - 1) 2
+ 2 * crS b.i ∧ 2 * Int.tdiv (2 * y + 1 - 1) 2 + 2 * crS b.i = 2 * Int.tdiv (2 * y + 1 - 1) 2 + 2 * crS b.i ∧ 2 * Int.tdiv (2 * x + 1 - 1) 2 + 2 * crX b.i = 2 * Int.tdiv (2 * x + 1 - 1) 2 + 2 * crX
b.i ∧ 2 * Int.tdiv (2 * y + 1 - 1) 2 + 2 * crY b.i = 2 * Int.tdiv (2 * y + 1 - 1) 2 + 2 * crY b.i ∧ 0 = 0 ∧ 0 = 0 ∧ iI 0 = 0 ∧ 0 = 0 ∧ 0 = 0 ∧ 0 = 0 ∧ 1 = 1 ∧ 2 * y + 1 = 2 * y + 1 ∧ Int.tmod (2 * y +
1) 2 = Int.tmod (2 * y + 1) 2 ∧ (Int.tmod (2 * y + 1) 2 == 0) = (Int.tmod (2 * y + 1) 2 == 0) ∧ b.i = b.i ∧ 0 = 0 ∧ neI b.i q ∧ True))) ∧ ((2 * Int.tdiv (2 * x + 1 - 1) 2 + 2 * crS b.i == 2 * x + 2 *
crX q && 2 * Int.tdiv (2 * y + 1 - 1) 2 + 2 * crS b.i == 2 * y + 2 * crY q) = false → ((2 * Int.tdiv (2 * x + 1 - 1) 2 + 2 * crS b.i == 2 * x + 2 * crS q && 2 * Int.tdiv (2 * y + 1 - 1) 2 + 2 * crS
b.i == 2 * y + 2 * crS q) = true → ((2 * Int.tdiv (2 * x + 1 - 1) 2 + 2 * crX b.i == 2 * x + 2 * crX q && 2 * Int.tdiv (2 * y + 1 - 1) 2 + 2 * crY b.i == 2 * y + 2 * crY q) = true → Int.tdiv (2 * x +
1 - 1) 2 = x ∧ Int.tdiv (2 * y + 1 - 1) 2 = y ∧ b.i = q ∧ True) ∧ ((2 * Int.tdiv (2 * x + 1 - 1) 2 + 2 * crX b.i == 2 * x + 2 * crX q && 2 * Int.tdiv (2 * y + 1 - 1) 2 + 2 * crY b.i == 2 * y + 2 * crY
q) = false → 1 = 1 ∧ 2 * x + 1 = 2 * x + 1 ∧ 2 * y + 1 = 2 * y + 1 ∧ 2 * x + 2 * crX q = 2 * x + 2 * crX q ∧ 2 * y + 2 * crY q = 2 * y + 2 * crY q ∧ 2 * x + 2 * crS q = 2 * x + 2 * crS q ∧ 2 * y + 2 *
crS q = 2 * y + 2 * crS q ∧ 1 = 1 ∧ iI 0 = 0 ∧ iI 0 = 0 ∧ iI 0 = 0 ∧ 1 = 1 ∧ 2 * x + 1 = 2 * x + 1 ∧ 2 * y + 1 = 2 * y + 1 ∧ 1 = 1 ∧ 2 * x + 2 * crX q = 2 * x + 2 * crX q ∧ 2 * y + 2 * crY q = 2 * y +
2 * crY q ∧ 1 = 1 ∧ 2 * x + 2 * crS q = 2 * x + 2 * crS q ∧ 2 * y + 2 * crS q = 2 * y + 2 * crS q ∧ 1 = 1 ∧ Int.tdiv (2 * x + 1 - 1) 2 = Int.tdiv (2 * x + 1 - 1) 2 ∧ Int.tdiv (2 * y + 1 - 1) 2 =
Int.tdiv (2 * y + 1 - 1) 2 ∧ b.i = b.i ∧ 3 = 3 ∧ 2 * Int.tdiv (2 * x + 1 - 1) 2 + 1 = 2 * Int.tdiv (2 * x + 1 - 1) 2 + 1 ∧ 2 * Int.tdiv (2 * y + 1 - 1) 2 + 1 = 2 * Int.tdiv (2 * y + 1 - 1) 2 + 1 ∧ 2 *
Int.tdiv (2 * x + 1 - 1) 2 + 2 * crS b.i = 2 * Int.tdiv (2 * x + 1 - 1) 2 + 2 * crS b.i ∧ 2 * Int.tdiv (2 * y + 1 - 1) 2 + 2 * crS b.i = 2 * Int.tdiv (2 * y + 1 - 1) 2 + 2 * crS b.i ∧ 2 * Int.tdiv (2
* x + 1 - 1) 2 + 2 * crX b.i = 2 * Int.tdiv (2 * x + 1 - 1) 2 + 2 * crX b.i ∧ 2 * Int.tdiv (2 * y + 1 - 1) 2 + 2 * crY b.i = 2 * Int.tdiv (2 * y + 1 - 1) 2 + 2 * crY b.i ∧ 0 = 0 ∧ 0 = 0 ∧ iI 0 = 0 ∧ 0
= 0 ∧ 0 = 0 ∧ 0 = 0 ∧ 1 = 1 ∧ 2 * y + 1 = 2 * y + 1 ∧ Int.tmod (2 * y + 1) 2 = Int.tmod (2 * y + 1) 2 ∧ (Int.tmod (2 * y + 1) 2 == 0) = (Int.tmod (2 * y + 1) 2 == 0) ∧ b.i = b.i ∧ 0 = 0 ∧ neI b.i q ∧
True)) ∧ ((2 * Int.tdiv (2 * x + 1 - 1) 2 + 2 * crS b.i == 2 * x + 2 * crS q && 2 * Int.tdiv (2 * y + 1 - 1) 2 + 2 * crS b.i == 2 * y + 2 * crS q) = false → 1 = 1 ∧ 2 * x + 1 = 2 * x + 1 ∧ 2 * y + 1 =
2 * y + 1 ∧ 2 * x + 2 * crX q = 2 * x + 2 * crX q ∧ 2 * y + 2 * crY q = 2 * y + 2 * crY q ∧ 2 * x + 2 * crS q = 2 * x + 2 * crS q ∧ 2 * y + 2 * crS q = 2 * y + 2 * crS q ∧ 1 = 1 ∧ iI 0 = 0 ∧ iI 0 = 0
∧ iI 0 = 0 ∧ 1 = 1 ∧ 2 * x + 1 = 2 * x + 1 ∧ 2 * y + 1 = 2 * y + 1 ∧ 1 = 1 ∧ 2 * x + 2 * crX q = 2 * x + 2 * crX q ∧ 2 * y + 2 * crY q = 2 * y + 2 * crY q ∧ 1 = 1 ∧ 2 * x + 2 * crS q = 2 * x + 2 * crS
q ∧ 2 * y + 2 * crS q = 2 * y + 2 * crS q ∧ 1 = 1 ∧ Int.tdiv (2 * x + 1 - 1) 2 = Int.tdiv (2 * x + 1 - 1) 2 ∧ Int.tdiv (2 * y + 1 - 1) 2 = Int.tdiv (2 * y + 1 - 1) 2 ∧ b.i = b.i ∧ 3 = 3 ∧ 2 * Int.tdiv
(2 * x + 1 - 1) 2 + 1 = 2 * Int.tdiv (2 * x + 1 - 1) 2 + 1 ∧ 2 * Int.tdiv (2 * y + 1 - 1) 2 + 1 = 2 * Int.tdiv (2 * y + 1 - 1) 2 + 1 ∧ 2 * Int.tdiv (2 * x + 1 - 1) 2 + 2 * crS b.i = 2 * Int.tdiv (2 *
x + 1 - 1) 2 + 2 * crS b.i ∧ 2 * Int.tdiv (2 * y + 1 - 1) 2 + 2 * crS b.i = 2 * Int.tdiv (2 * y + 1 - 1) 2 + 2 * crS b.i ∧ 2 * Int.tdiv (2 * x + 1 - 1) 2 + 2 * crX b.i = 2 * Int.tdiv (2 * x + 1 - 1) 2
+ 2 * crX b.i ∧ 2 * Int.tdiv (2 * y + 1 - 1) 2 + 2 * crY b.i = 2 * Int.tdiv (2 * y + 1 - 1) 2 + 2 * crY b.i ∧ 0 = 0 ∧ 0 = 0 ∧ iI 0 = 0 ∧ 0 = 0 ∧ 0 = 0 ∧ 0 = 0 ∧ 1 = 1 ∧ 2 * y + 1 = 2 * y + 1 ∧
Int.tmod (2 * y + 1) 2 = Int.tmod (2 * y + 1) 2 ∧ (Int.tmod (2 * y + 1) 2 == 0) = (Int.tmod (2 * y + 1) 2 == 0) ∧ b.i = b.i ∧ 0 = 0 ∧ neI b.i q ∧ True))) ∧ ∀ (b_1 : Unit), neI b.i q → inR IntKind.u8
(b.i + 1) = true ∧ 1 = 1 ∧ 2 * x + 1 = 2 * x + 1 ∧ 2 * y + 1 = 2 * y + 1 ∧ 2 * x + 2 * crX q = 2 * x + 2 * crX q ∧ 2 * y + 2 * crY q = 2 * y + 2 * crY q ∧ 2 * x + 2 * crS q = 2 * x + 2 * crS q ∧ 2 * y
+ 2 * crS q = 2 * y + 2 * crS q ∧ 1 = 1 ∧ iI 0 = 0 ∧ iI 0 = 0 ∧ iI 0 = 0 ∧ 1 = 1 ∧ 2 * x + 1 = 2 * x + 1 ∧ 2 * y + 1 = 2 * y + 1 ∧ 1 = 1 ∧ 2 * x + 2 * crX q = 2 * x + 2 * crX q ∧ 2 * y + 2 * crY q = 2
* y + 2 * crY q ∧ 1 = 1 ∧ 2 * x + 2 * crS q = 2 * x + 2 * crS q ∧ 2 * y + 2 * crS q = 2 * y + 2 * crS q ∧ 0 = 0 ∧ 0 = 0 ∧ iI 0 = 0 ∧ 0 = 0 ∧ 0 = 0 ∧ 0 = 0 ∧ 1 = 1 ∧ 2 * y + 1 = 2 * y + 1 ∧ Int.tmod (2
* y + 1) 2 = Int.tmod (2 * y + 1) 2 ∧ (Int.tmod (2 * y + 1) 2 == 0) = (Int.tmod (2 * y + 1) 2 == 0) ∧ b.i + 1 = b.i + 1 ∧ (0 ≤ b.i + 1 ∧ b.i + 1 ≤ q) ∧ 4 - Int.toNat (b.i + 1) < 4 - Int.toNat b.i ∧
True) := by kernel_rfl

end Go.Proofs.YtmnaghfndigfkaaDoor.X

/-
 What is to be shown of the functions (made by a program).
-/
set_option maxRecDepth 1000000
set_option linter.unusedVariables false
namespace Go.Proofs.YtmnaghfndigfkaaDoor.X
open Go Go.Ab

end Go.Proofs.YtmnaghfndigfkaaDoor.X
