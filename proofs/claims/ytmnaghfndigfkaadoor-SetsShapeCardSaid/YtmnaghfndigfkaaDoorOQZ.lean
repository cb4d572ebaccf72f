/-
 What is to be shown of the functions (made by a program).
-/
import Derived.Test.YtmnaghfndigfkaaDoorDQZ
import Derived.KernelRfl
set_option maxRecDepth 1000000
set_option linter.unusedVariables false
namespace Go.Proofs.YtmnaghfndigfkaaDoor.X
open Go Go.Ab

theorem ob_o175 (k : Int) : fnP (T0) G 10000 fe175 (.r [] 0 (.r [] 0 (.cnd (.r [] 0 .nil) (.r [] 0 (.cnd (.r [] 0 .nil) (.r [] 0 (.cnd (.r [] 0 .nil) (.r [] 0 .nil)))))))) ([.int .u8 k]) ([.int .i64 (acA k), .int .i64 (acB k)]) ([]) = (
((k == 1) = true → 1 = acA k ∧ 0 = acB k ∧ True) ∧ ((k == 1) = false → ((k == 2) = true → 0 = acA k ∧ 1 = acB k ∧ True) ∧ ((k == 2) = false → ((k == 3) = true → 1 = acA k ∧ 1 = acB k ∧ True) ∧ ((k ==
3) = false → -1 = acA k ∧ 1 = acB k ∧ True)))) := by kernel_rfl

theorem ob_o176 (k c x y : Int) : fnP (TQ175) G 10000 fe176 (.r [] 0 (.r [] 15 (.r [] 37 .nil))) ([.agg [.int .u8 k, .int .i64 c], .agg [.int .i64 x, .int .i64 y]]) ([.int .i64 (acA k * x + acB k * y - 2 * c)]) ([]) = (
inR IntKind.i64 (acA k * x) = true ∧ inR IntKind.i64 (acB k * y) = true ∧ inR IntKind.i64 (acA k * x + acB k * y) = true ∧ inR IntKind.i64 (2 * c) = true ∧ inR IntKind.i64 (acA k * x + acB k * y - 2 *
c) = true ∧ acA k * x + acB k * y - 2 * c = acA k * x + acB k * y - 2 * c ∧ True) := by kernel_rfl

theorem ob_o134_0 (x y : Int) : fnP (T0) G 10000 fe134 (.r [] 0 (.r [] 5 (.r [] 16 (.r [] 63 (.r [] 1 (.lit (.r [] 508 .nil))))))) ([.agg [.int .i64 x, .int .i64 y, .int .u8 0]]) ([.agg (crL x y 0)]) ([]) = (
inR IntKind.i64 (2 * x) = true ∧ inR IntKind.i64 (2 * y) = true ∧ inR IntKind.i64 (2 * x + 2) = true ∧ inR IntKind.i64 (2 * x + 2) = true ∧ inR IntKind.i64 (2 * y + 2) = true ∧ inR IntKind.i64 (2 * y
+ 2) = true ∧ inR IntKind.i64 (2 * x + 1) = true ∧ inR IntKind.i64 (2 * y + 1) = true ∧ 2 * x + 1 = 2 * x + 1 ∧ 2 * y + 1 = 2 * y + 1 ∧ 2 * x = 2 * x + 0 ∧ 2 * y = 2 * y + 0 ∧ 2 * x + 2 = 2 * x + 2 ∧
2 * y = 2 * y + 0 ∧ True) := by kernel_rfl

theorem ob_o134_1 (x y : Int) : fnP (T0) G 10000 fe134 (.r [] 0 (.r [] 5 (.r [] 16 (.r [] 63 (.r [] 1 (.lit (.r [] 0 (.r [] 508 .nil)))))))) ([.agg [.int .i64 x, .int .i64 y, .int .u8 1]]) ([.agg (crL x y 1)]) ([]) = (
inR IntKind.i64 (2 * x) = true ∧ inR IntKind.i64 (2 * y) = true ∧ inR IntKind.i64 (2 * x + 2) = true ∧ inR IntKind.i64 (2 * x + 2) = true ∧ inR IntKind.i64 (2 * y + 2) = true ∧ inR IntKind.i64 (2 * y
+ 2) = true ∧ inR IntKind.i64 (2 * x + 1) = true ∧ inR IntKind.i64 (2 * y + 1) = true ∧ 2 * x + 1 = 2 * x + 1 ∧ 2 * y + 1 = 2 * y + 1 ∧ 2 * x + 2 = 2 * x + 2 ∧ 2 * y + 2 = 2 * y + 2 ∧ 2 * x + 2 = 2 *
x + 2 ∧ 2 * y = 2 * y + 0 ∧ True) := by kernel_rfl

theorem ob_o134_2 (x y : Int) : fnP (T0) G 10000 fe134 (.r [] 0 (.r [] 5 (.r [] 16 (.r [] 63 (.r [] 1 (.lit (.r [] 508 .nil))))))) ([.agg [.int .i64 x, .int .i64 y, .int .u8 2]]) ([.agg (crL x y 2)]) ([]) = (
inR IntKind.i64 (2 * x) = true ∧ inR IntKind.i64 (2 * y) = true ∧ inR IntKind.i64 (2 * x + 2) = true ∧ inR IntKind.i64 (2 * x + 2) = true ∧ inR IntKind.i64 (2 * y + 2) = true ∧ inR IntKind.i64 (2 * y
+ 2) = true ∧ inR IntKind.i64 (2 * x + 1) = true ∧ inR IntKind.i64 (2 * y + 1) = true ∧ 2 * x + 1 = 2 * x + 1 ∧ 2 * y + 1 = 2 * y + 1 ∧ 2 * x + 2 = 2 * x + 2 ∧ 2 * y + 2 = 2 * y + 2 ∧ 2 * x = 2 * x +
0 ∧ 2 * y + 2 = 2 * y + 2 ∧ True) := by kernel_rfl

theorem ob_o134_3 (x y : Int) : fnP (T0) G 10000 fe134 (.r [] 0 (.r [] 5 (.r [] 16 (.r [] 63 (.r [] 1 (.lit (.r [] 0 (.r [] 508 .nil)))))))) ([.agg [.int .i64 x, .int .i64 y, .int .u8 3]]) ([.agg (crL x y 3)]) ([]) = (
inR IntKind.i64 (2 * x) = true ∧ inR IntKind.i64 (2 * y) = true ∧ inR IntKind.i64 (2 * x + 2) = true ∧ inR IntKind.i64 (2 * x + 2) = true ∧ inR IntKind.i64 (2 * y + 2) = true ∧ inR IntKind.i64 (2 * y
+ 2) = true ∧ inR IntKind.i64 (2 * x + 1) = true ∧ inR IntKind.i64 (2 * y + 1) = true ∧ 2 * x + 1 = 2 * x + 1 ∧ 2 * y + 1 = 2 * y + 1 ∧ 2 * x = 2 * x + 0 ∧ 2 * y = 2 * y + 0 ∧ 2 * x = 2 * x + 0 ∧ 2 *
y + 2 = 2 * y + 2 ∧ True) := by kernel_rfl

theorem ob_o137_0 (x y q : Int) : fnP (TQ137) G 10000 fe137 (.r [] 0 (.r [] 5 (.r [] 4095 (.r [] 0 (.r [] 0 (.lp (l137 (lnK q 0) (lnC x y q 0)) [] [] (fun b => (.r [] 0 (.cnd (.r [] 7 (.r [] 165 (.cnd (.r [] 197 (.r [] 0 .nil)) (.r [] 0 .nil)))) (.r [] 3 .nil)))))))))) ([.agg [.int .i64 x, .int .i64 y, .int .u8 q], .int .i64 0]) ([.agg [.int .u8 (lnK q 0), .int .i64 (lnC x y q 0)]]) ([]) = (
(sml x ∧ sml y ∧ 0 ≤ q ∧ q ≤ 3) ∧ 1 = 1 ∧ x = x ∧ y = y ∧ q = q ∧ 1 = 1 ∧ iI 0 = 0 ∧ iI 0 = 0 ∧ 3 = 3 ∧ 2 * x + 1 = 2 * x + 1 ∧ 2 * y + 1 = 2 * y + 1 ∧ 2 * x + 2 * crS q = 2 * x + 2 * crS q ∧ 2 * y +
2 * crS q = 2 * y + 2 * crS q ∧ 2 * x + 2 * crX q = 2 * x + 2 * crX q ∧ 2 * y + 2 * crY q = 2 * y + 2 * crY q ∧ 1 = 1 ∧ 2 * x + 2 * crS q = 2 * x + 2 * crS q ∧ 2 * y + 2 * crS q = 2 * y + 2 * crS q ∧
1 = 1 ∧ 2 * x + 2 * crX q = 2 * x + 2 * crX q ∧ 2 * y + 2 * crY q = 2 * y + 2 * crY q ∧ 1 = 1 ∧ iI 0 = 0 ∧ iI 0 = 0 ∧ 0 = 0 ∧ 0 = 0 ∧ 0 = 0 ∧ 0 = 0 ∧ iI 1 = 1 ∧ (iI 1 ≤ iI 1 ∧ iI 1 ≤ iI 5 ∧ 0 = aft
(lnK q 0) 1 (lnK q 0) ∧ 0 = aft (lnK q 0) 1 (lnC x y q 0)) ∧ ∀ (b : L137), 1 ≤ b.k ∧ b.k ≤ 5 ∧ b.a = aft (lnK q 0) b.k (lnK q 0) ∧ b.b = aft (lnK q 0) b.k (lnC x y q 0) → (leb b.k 4 = true → inR
IntKind.i64 (acA b.k * (2 * x + 2 * crS q)) = true ∧ inR IntKind.i64 (acB b.k * (2 * y + 2 * crS q)) = true ∧ inR IntKind.i64 (acA b.k * (2 * x + 2 * crS q) + acB b.k * (2 * y + 2 * crS q)) = true ∧
inR IntKind.i64 (acA b.k * (2 * x + 2 * crX q)) = true ∧ inR IntKind.i64 (acB b.k * (2 * y + 2 * crY q)) = true ∧ inR IntKind.i64 (acA b.k * (2 * x + 2 * crX q) + acB b.k * (2 * y + 2 * crY q)) = true
∧ ((acA b.k * (2 * x + 2 * crS q) + acB b.k * (2 * y + 2 * crS q) == acA b.k * (2 * x + 2 * crX q) + acB b.k * (2 * y + 2 * crY q)) = true → inR IntKind.i64 (acA b.k * (2 * x + 2 * crS q)) = true ∧
inR IntKind.i64 (acB b.k * (2 * y + 2 * crS q)) = true ∧ inR IntKind.i64 (acA b.k * (2 * x + 2 * crS q) + acB b.k * (2 * y + 2 * crS q)) = true ∧ inR IntKind.i64 (Int.tdiv (acA b.k * (2 * x + 2 * crS
q) + acB b.k * (2 * y + 2 * crS q)) 2) = true ∧ inR IntKind.u8 (b.k + 1) = true ∧ 1 = 1 ∧ x = x ∧ y = y ∧ q = q ∧ 1 = 1 ∧ iI 0 = 0 ∧ iI 0 = 0 ∧ 3 = 3 ∧ 2 * x + 1 = 2 * x + 1 ∧ 2 * y + 1 = 2 * y + 1 ∧
2 * x + 2 * crS q = 2 * x + 2 * crS q ∧ 2 * y + 2 * crS q = 2 * y + 2 * crS q ∧ 2 * x + 2 * crX q = 2 * x + 2 * crX q ∧ 2 * y + 2 * crY q = 2 * y + 2 * crY q ∧ 1 = 1 ∧ 2 * x + 2 * crS q = 2 * x + 2 *
crS q ∧ 2 * y + 2 * crS q = 2 * y + 2 * crS q ∧ 1 = 1 ∧ 2 * x + 2 * crX q = 2 * x + 2 * crX q ∧ 2 * y + 2 * crY q = 2 * y + 2 * crY q ∧ 1 = 1 ∧ b.k = b.k ∧ Int.tdiv (acA b.k * (2 * x + 2 * crS q) +
acB b.k * (2 * y + 2 * crS q)) 2 = Int.tdiv (acA b.k * (2 * x + 2 * crS q) + acB b.k * (2 * y + 2 * crS q)) 2 ∧ 0 = 0 ∧ 0 = 0 ∧ 0 = 0 ∧ 0 = 0 ∧ b.k + 1 = b.k + 1 ∧ (1 ≤ b.k + 1 ∧ b.k + 1 ≤ 5 ∧ b.k =
aft (lnK q 0) (b.k + 1) (lnK q 0) ∧ Int.tdiv (acA b.k * (2 * x + 2 * crS q) + acB b.k * (2 * y + 2 * crS q)) 2 = aft (lnK q 0) (b.k + 1) (lnC x y q 0)) ∧ 5 - Int.toNat (b.k + 1) < 5 - Int.toNat b.k ∧
True) ∧ ((acA b.k * (2 * x + 2 * crS q) + acB b.k * (2 * y + 2 * crS q) == acA b.k * (2 * x + 2 * crX q) + acB b.k * (2 * y + 2 * crY q)) = false → inR IntKind.u8 (b.k + 1) = true ∧ 1 = 1 ∧ x = x ∧ y
= y ∧ q = q ∧ 1 = 1 ∧ iI 0 = 0 ∧ iI 0 = 0 ∧ 3 = 3 ∧ 2 * x + 1 = 2 * x + 1 ∧ 2 * y + 1 = 2 * y + 1 ∧ 2 * x + 2 * crS q = 2 * x + 2 * crS q ∧ 2 * y + 2 * crS q = 2 * y + 2 * crS q ∧ 2 * x + 2 * crX q =
2 * x + 2 * crX q ∧ 2 * y + 2 * crY q = 2 * y + 2 * crY q ∧ 1 = 1 ∧ 2 * x + 2 * crS q = 2 * x + 2 * crS q ∧ 2 * y + 2 * crS q = 2 * y + 2 * crS q ∧ 1 = 1 ∧ 2 * x + 2 * crX q = 2 * x + 2 * crX q ∧ 2 *
y + 2 * crY q = 2 * y + 2 * crY q ∧ 1 = 1 ∧ b.a = b.a ∧ b.b = b.b ∧ 0 = 0 ∧ 0 = 0 ∧ 0 = 0 ∧ 0 = 0 ∧ b.k + 1 = b.k + 1 ∧ (1 ≤ b.k + 1 ∧ b.k + 1 ≤ 5 ∧ b.a = aft (lnK q 0) (b.k + 1) (lnK q 0) ∧ b.b = aft
(lnK q 0) (b.k + 1) (lnC x y q 0)) ∧ 5 - Int.toNat (b.k + 1) < 5 - Int.toNat b.k ∧ True)) ∧ (leb b.k 4 = false → b.a = lnK q 0 ∧ b.b = lnC x y q 0 ∧ True)) := by kernel_rfl

theorem ob_o137_1 (x y q : Int) : fnP (TQ137) G 10000 fe137 (.r [] 0 (.r [] 5 (.r [] 4095 (.r [] 0 (.r [] 0 (.lp (l137 (lnK q 1) (lnC x y q 1)) [] [] (fun b => (.r [] 0 (.cnd (.r [] 7 (.r [] 165 (.cnd (.r [] 197 (.r [] 0 .nil)) (.r [] 0 .nil)))) (.r [] 3 .nil)))))))))) ([.agg [.int .i64 x, .int .i64 y, .int .u8 q], .int .i64 1]) ([.agg [.int .u8 (lnK q 1), .int .i64 (lnC x y q 1)]]) ([]) = (
(sml x ∧ sml y ∧ 0 ≤ q ∧ q ≤ 3) ∧ 1 = 1 ∧ x = x ∧ y = y ∧ q = q ∧ 1 = 1 ∧ iI 0 = 0 ∧ iI 0 = 0 ∧ 3 = 3 ∧ 2 * x + 1 = 2 * x + 1 ∧ 2 * y + 1 = 2 * y + 1 ∧ 2 * x + 2 * crS q = 2 * x + 2 * crS q ∧ 2 * y +
2 * crS q = 2 * y + 2 * crS q ∧ 2 * x + 2 * crX q = 2 * x + 2 * crX q ∧ 2 * y + 2 * crY q = 2 * y + 2 * crY q ∧ 1 = 1 ∧ 2 * x + 2 * crX q = 2 * x + 2 * crX q ∧ 2 * y + 2 * crY q = 2 * y + 2 * crY q ∧
1 = 1 ∧ 2 * x + 1 = 2 * x + 1 ∧ 2 * y + 1 = 2 * y + 1 ∧ 1 = 1 ∧ iI 0 = 0 ∧ iI 0 = 0 ∧ 0 = 0 ∧ 0 = 0 ∧ 0 = 0 ∧ 0 = 0 ∧ iI 1 = 1 ∧ (iI 1 ≤ iI 1 ∧ iI 1 ≤ iI 5 ∧ iI 0 = 0 ∧ iI 0 = 0) ∧ ∀ (b : L137), 1 ≤
b.k ∧ b.k ≤ 5 ∧ b.a = aft 3 b.k 3 ∧ b.b = aft 3 b.k (lnC x y q 1) → (leb b.k 4 = true → inR IntKind.i64 (acA b.k * (2 * x + 2 * crX q)) = true ∧ inR IntKind.i64 (acB b.k * (2 * y + 2 * crY q)) = true
∧ inR IntKind.i64 (acA b.k * (2 * x + 2 * crX q) + acB b.k * (2 * y + 2 * crY q)) = true ∧ inR IntKind.i64 (acA b.k * (2 * x + 1)) = true ∧ inR IntKind.i64 (acB b.k * (2 * y + 1)) = true ∧ inR
IntKind.i64 (acA b.k * (2 * x + 1) + acB b.k * (2 * y + 1)) = true ∧ ((acA b.k * (2 * x + 2 * crX q) + acB b.k * (2 * y + 2 * crY q) == acA b.k * (2 * x + 1) + acB b.k * (2 * y + 1)) = true → inR
IntKind.i64 (acA b.k * (2 * x + 2 * crX q)) = true ∧ inR IntKind.i64 (acB b.k * (2 * y + 2 * crY q)) = true ∧ inR IntKind.i64 (acA b.k * (2 * x + 2 * crX q) + acB b.k * (2 * y + 2 * crY q)) = true ∧
inR IntKind.i64 (Int.tdiv (acA b.k * (2 * x + 2 * crX q) + acB b.k * (2 * y + 2 * crY q)) 2) = true ∧ inR IntKind.u8 (b.k + 1) = true ∧ 1 = 1 ∧ x = x ∧ y = y ∧ q = q ∧ 1 = 1 ∧ iI 0 = 0 ∧ iI 0 = 0 ∧ 3
= 3 ∧ 2 * x + 1 = 2 * x + 1 ∧ 2 * y + 1 = 2 * y + 1 ∧ 2 * x + 2 * crS q = 2 * x + 2 * crS q ∧ 2 * y + 2 * crS q = 2 * y + 2 * crS q ∧ 2 * x + 2 * crX q = 2 * x + 2 * crX q ∧ 2 * y + 2 * crY q = 2 * y
+ 2 * crY q ∧ 1 = 1 ∧ 2 * x + 2 * crX q = 2 * x + 2 * crX q ∧ 2 * y + 2 * crY q = 2 * y + 2 * crY q ∧ 1 = 1 ∧ 2 * x + 1 = 2 * x + 1 ∧ 2 * y + 1 = 2 * y + 1 ∧ 1 = 1 ∧ b.k = b.k ∧ Int.tdiv (acA b.k * (2
* x + 2 * crX q) + acB b.k * (2 * y + 2 * crY q)) 2 = Int.tdiv (acA b.k * (2 * x + 2 * crX q) + acB b.k * (2 * y + 2 * crY q)) 2 ∧ 0 = 0 ∧ 0 = 0 ∧ 0 = 0 ∧ 0 = 0 ∧ b.k + 1 = b.k + 1 ∧ (1 ≤ b.k + 1 ∧
b.k + 1 ≤ 5 ∧ b.k = aft 3 (b.k + 1) 3 ∧ Int.tdiv (acA b.k * (2 * x + 2 * crX q) + acB b.k * (2 * y + 2 * crY q)) 2 = aft 3 (b.k + 1) (lnC x y q 1)) ∧ 5 - Int.toNat (b.k + 1) < 5 - Int.toNat b.k ∧
True) ∧ ((acA b.k * (2 * x + 2 * crX q) + acB b.k * (2 * y + 2 * crY q) == acA b.k * (2 * x + 1) + acB b.k * (2 * y + 1)) = false → inR IntKind.u8 (b.k + 1) = true ∧ 1 = 1 ∧ x = x ∧ y = y ∧ q = q ∧ 1
= 1 ∧ iI 0 = 0 ∧ iI 0 = 0 ∧ 3 = 3 ∧ 2 * x + 1 = 2 * x + 1 ∧ 2 * y + 1 = 2 * y + 1 ∧ 2 * x + 2 * crS q = 2 * x + 2 * crS q ∧ 2 * y + 2 * crS q = 2 * y + 2 * crS q ∧ 2 * x + 2 * crX q = 2 * x + 2 * crX
q ∧ 2 * y + 2 * crY q = 2 * y + 2 * crY q ∧ 1 = 1 ∧ 2 * x + 2 * crX q = 2 * x + 2 * crX q ∧ 2 * y + 2 * crY q = 2 * y + 2 * crY q ∧ 1 = 1 ∧ 2 * x + 1 = 2 * x + 1 ∧ 2 * y + 1 = 2 * y + 1 ∧ 1 = 1 ∧ b.a
= b.a ∧ b.b = b.b ∧ 0 = 0 ∧ 0 = 0 ∧ 0 = 0 ∧ 0 = 0 ∧ b.k + 1 = b.k + 1 ∧ (1 ≤ b.k + 1 ∧ b.k + 1 ≤ 5 ∧ b.a = aft 3 (b.k + 1) 3 ∧ b.b = aft 3 (b.k + 1) (lnC x y q 1)) ∧ 5 - Int.toNat (b.k + 1) < 5 -
Int.toNat b.k ∧ True)) ∧ (leb b.k 4 = false → b.a = 3 ∧ b.b = lnC x y q 1 ∧ True)) := by kernel_rfl

theorem ob_o137_2 (x y q : Int) : fnP (TQ137) G 10000 fe137 (.r [] 0 (.r [] 5 (.r [] 4095 (.r [] 0 (.r [] 0 (.lp (l137 (lnK q 2) (lnC x y q 2)) [] [] (fun b => (.r [] 0 (.cnd (.r [] 7 (.r [] 165 (.cnd (.r [] 197 (.r [] 0 .nil)) (.r [] 0 .nil)))) (.r [] 3 .nil)))))))))) ([.agg [.int .i64 x, .int .i64 y, .int .u8 q], .int .i64 2]) ([.agg [.int .u8 (lnK q 2), .int .i64 (lnC x y q 2)]]) ([]) = (
(sml x ∧ sml y ∧ 0 ≤ q ∧ q ≤ 3) ∧ 1 = 1 ∧ x = x ∧ y = y ∧ q = q ∧ 1 = 1 ∧ iI 0 = 0 ∧ iI 0 = 0 ∧ 3 = 3 ∧ 2 * x + 1 = 2 * x + 1 ∧ 2 * y + 1 = 2 * y + 1 ∧ 2 * x + 2 * crS q = 2 * x + 2 * crS q ∧ 2 * y +
2 * crS q = 2 * y + 2 * crS q ∧ 2 * x + 2 * crX q = 2 * x + 2 * crX q ∧ 2 * y + 2 * crY q = 2 * y + 2 * crY q ∧ 1 = 1 ∧ 2 * x + 1 = 2 * x + 1 ∧ 2 * y + 1 = 2 * y + 1 ∧ 1 = 1 ∧ 2 * x + 2 * crS q = 2 *
x + 2 * crS q ∧ 2 * y + 2 * crS q = 2 * y + 2 * crS q ∧ 1 = 1 ∧ iI 0 = 0 ∧ iI 0 = 0 ∧ 0 = 0 ∧ 0 = 0 ∧ 0 = 0 ∧ 0 = 0 ∧ iI 1 = 1 ∧ (iI 1 ≤ iI 1 ∧ iI 1 ≤ iI 5 ∧ iI 0 = 0 ∧ iI 0 = 0) ∧ ∀ (b : L137), 1 ≤
b.k ∧ b.k ≤ 5 ∧ b.a = aft 4 b.k 4 ∧ b.b = aft 4 b.k (lnC x y q 2) → (leb b.k 4 = true → inR IntKind.i64 (acA b.k * (2 * x + 1)) = true ∧ inR IntKind.i64 (acB b.k * (2 * y + 1)) = true ∧ inR
IntKind.i64 (acA b.k * (2 * x + 1) + acB b.k * (2 * y + 1)) = true ∧ inR IntKind.i64 (acA b.k * (2 * x + 2 * crS q)) = true ∧ inR IntKind.i64 (acB b.k * (2 * y + 2 * crS q)) = true ∧ inR IntKind.i64
(acA b.k * (2 * x + 2 * crS q) + acB b.k * (2 * y + 2 * crS q)) = true ∧ ((acA b.k * (2 * x + 1) + acB b.k * (2 * y + 1) == acA b.k * (2 * x + 2 * crS q) + acB b.k * (2 * y + 2 * crS q)) = true → inR
IntKind.i64 (acA b.k * (2 * x + 1)) = true ∧ inR IntKind.i64 (acB b.k * (2 * y + 1)) = true ∧ inR IntKind.i64 (acA b.k * (2 * x + 1) + acB b.k * (2 * y + 1)) = true ∧ inR IntKind.i64 (Int.tdiv (acA
b.k * (2 * x + 1) + acB b.k * (2 * y + 1)) 2) = true ∧ inR IntKind.u8 (b.k + 1) = true ∧ 1 = 1 ∧ x = x ∧ y = y ∧ q = q ∧ 1 = 1 ∧ iI 0 = 0 ∧ iI 0 = 0 ∧ 3 = 3 ∧ 2 * x + 1 = 2 * x + 1 ∧ 2 * y + 1 = 2 * y
+ 1 ∧ 2 * x + 2 * crS q = 2 * x + 2 * crS q ∧ 2 * y + 2 * crS q = 2 * y + 2 * crS q ∧ 2 * x + 2 * crX q = 2 * x + 2 * crX q ∧ 2 * y + 2 * crY q = 2 * y + 2 * crY q ∧ 1 = 1 ∧ 2 * x + 1 = 2 * x + 1 ∧ 2
* y + 1 = 2 * y + 1 ∧ 1 = 1 ∧ 2 * x + 2 * crS q = 2 * x + 2 * crS q ∧ 2 * y + 2 * crS q = 2 * y + 2 * crS q ∧ 1 = 1 ∧ b.k = b.k ∧ Int.tdiv (acA b.k * (2 * x + 1) + acB b.k * (2 * y + 1)) 2 = Int.tdiv
(acA b.k * (2 * x + 1) + acB b.k * (2 * y + 1)) 2 ∧ 0 = 0 ∧ 0 = 0 ∧ 0 = 0 ∧ 0 = 0 ∧ b.k + 1 = b.k + 1 ∧ (1 ≤ b.k + 1 ∧ b.k + 1 ≤ 5 ∧ b.k = aft 4 (b.k + 1) 4 ∧ Int.tdiv (acA b.k * (2 * x + 1) + acB b.k
* (2 * y + 1)) 2 = aft 4 (b.k + 1) (lnC x y q 2)) ∧ 5 - Int.toNat (b.k + 1) < 5 - Int.toNat b.k ∧ True) ∧ ((acA b.k * (2 * x + 1) + acB b.k * (2 * y + 1) == acA b.k * (2 * x + 2 * crS q) + acB b.k *
(2 * y + 2 * crS q)) = false → inR IntKind.u8 (b.k + 1) = true ∧ 1 = 1 ∧ x = x ∧ y = y ∧ q = q ∧ 1 = 1 ∧ iI 0 = 0 ∧ iI 0 = 0 ∧ 3 = 3 ∧ 2 * x + 1 = 2 * x + 1 ∧ 2 * y + 1 = 2 * y + 1 ∧ 2 * x + 2 * crS q
= 2 * x + 2 * crS q ∧ 2 * y + 2 * crS q = 2 * y + 2 * crS q ∧ 2 * x + 2 * crX q = 2 * x + 2 * crX q ∧ 2 * y + 2 * crY q = 2 * y + 2 * crY q ∧ 1 = 1 ∧ 2 * x + 1 = 2 * x + 1 ∧ 2 * y + 1 = 2 * y + 1 ∧ 1
= 1 ∧ 2 * x + 2 * crS q = 2 * x + 2 * crS q ∧ 2 * y + 2 * crS q = 2 * y + 2 * crS q ∧ 1 = 1 ∧ b.a = b.a ∧ b.b = b.b ∧ 0 = 0 ∧ 0 = 0 ∧ 0 = 0 ∧ 0 = 0 ∧ b.k + 1 = b.k + 1 ∧ (1 ≤ b.k + 1 ∧ b.k + 1 ≤ 5 ∧
b.a = aft 4 (b.k + 1) 4 ∧ b.b = aft 4 (b.k + 1) (lnC x y q 2)) ∧ 5 - Int.toNat (b.k + 1) < 5 - Int.toNat b.k ∧ True)) ∧ (leb b.k 4 = false → b.a = 4 ∧ b.b = lnC x y q 2 ∧ True)) := by kernel_rfl

theorem ob_o136a (x y q : Int) : fnP (TQ137) G 10000 fe136 (.r [] 0 (.r [] 0 (.un (.r [] 0 (.lit (.r [] 65535 (.r [yL 389, yL 390, yL 391, yL 392, yL 393] 1019 (.ff (.r [] 0 (.lp (l136 q) [] [] (fun b => (.r [] 0 (.tt (.r [] 409 (.r [] 5 (.jn (jP (neI b.i q)) [9] [] (.rs 5 [] 15 57 (.rs 6 [] 63 63 (.r [] 3 (.lit (.r [] 3 .nil))) (.rs 5 [] 15 68 (.r [] 255 (.cnd (.r [] 3 .nil) .nil)) (.r [] 15 (.lit .nil)))) (.rs 11 [] 63 68 (.r [] 255 (.cnd (.r [] 3 .nil) .nil)) (.r [] 15 (.lit .nil)))) (fun b_1 => (.r [] 0 .nil)))))))))))))))))) ([.agg (crL x y q)]) ([.agg [.int .i64 x, .int .i64 y, .int .u8 q]]) ([]) = (
(!Int.tmod (2 * x + 1) 2 == 0) = true ∧ (Int.tmod (2 * y + 1) 2 == 0) = false ∧ 1 = 1 ∧ 2 * x + 1 = 2 * x + 1 ∧ 2 * y + 1 = 2 * y + 1 ∧ 2 * x + 2 * crS q = 2 * x + 2 * crS q ∧ 2 * y + 2 * crS q = 2 *
y + 2 * crS q ∧ 2 * x + 2 * crX q = 2 * x + 2 * crX q ∧ 2 * y + 2 * crY q = 2 * y + 2 * crY q ∧ 1 = 1 ∧ iI 0 = 0 ∧ iI 0 = 0 ∧ iI 0 = 0 ∧ 1 = 1 ∧ 2 * x + 1 = 2 * x + 1 ∧ 2 * y + 1 = 2 * y + 1 ∧ 1 = 1 ∧
2 * x + 2 * crS q = 2 * x + 2 * crS q ∧ 2 * y + 2 * crS q = 2 * y + 2 * crS q ∧ 1 = 1 ∧ 2 * x + 2 * crX q = 2 * x + 2 * crX q ∧ 2 * y + 2 * crY q = 2 * y + 2 * crY q ∧ 0 = 0 ∧ 0 = 0 ∧ iI 0 = 0 ∧ 0 = 0
∧ 0 = 0 ∧ 0 = 0 ∧ 1 = 1 ∧ 2 * y + 1 = 2 * y + 1 ∧ Int.tmod (2 * y + 1) 2 = Int.tmod (2 * y + 1) 2 ∧ (Int.tmod (2 * y + 1) 2 == 0) = (Int.tmod (2 * y + 1) 2 == 0) ∧ iI 0 = 0 ∧ (iI 0 ≤ iI 0 ∧ 0 ≤ q) ∧ ∀
(b : L136), 0 ≤ b.i ∧ b.i ≤ q → ltb b.i 4 = true ∧ inR IntKind.i64 (2 * x + 1 - 1) = true ∧ inR IntKind.i64 (Int.tdiv (2 * x + 1 - 1) 2) = true ∧ inR IntKind.i64 (2 * y + 1 - 1) = true ∧ inR
IntKind.i64 (Int.tdiv (2 * y + 1 - 1) 2) = true ∧ (sml (Int.tdiv (2 * x + 1 - 1) 2) ∧ sml (Int.tdiv (2 * y + 1 - 1) 2) ∧ 0 ≤ b.i ∧ b.i ≤ 3) ∧ (((2 * Int.tdiv (2 * x + 1 - 1) 2 + 2 * crS b.i == 2 * x +
2 * crS q && 2 * Int.tdiv (2 * y + 1 - 1) 2 + 2 * crS b.i == 2 * y + 2 * crS q) = true → ((2 * Int.tdiv (2 * x + 1 - 1) 2 + 2 * crX b.i == 2 * x + 2 * crX q && 2 * Int.tdiv (2 * y + 1 - 1) 2 + 2 * crY
b.i == 2 * y + 2 * crY q) = true → Int.tdiv (2 * x + 1 - 1) 2 = x ∧ Int.tdiv (2 * y + 1 - 1) 2 = y ∧ b.i = q ∧ True) ∧ ((2 * Int.tdiv (2 * x + 1 - 1) 2 + 2 * crX b.i == 2 * x + 2 * crX q && 2 *
Int.tdiv (2 * y + 1 - 1) 2 + 2 * crY b.i == 2 * y + 2 * crY q) = false → ((2 * Int.tdiv (2 * x + 1 - 1) 2 + 2 * crS b.i == 2 * x + 2 * crX q && 2 * Int.tdiv (2 * y + 1 - 1) 2 + 2 * crS b.i == 2 * y +
2 * crY q) = true → ((2 * Int.tdiv (2 * x + 1 - 1) 2 + 2 * crX b.i == 2 * x + 2 * crS q && 2 * Int.tdiv (2 * y + 1 - 1) 2 + 2 * crY b.i == 2 * y + 2 * crS q) = true → Int.tdiv (2 * x + 1 - 1) 2 = x ∧
Int.tdiv (2 * y + 1 - 1) 2 = y ∧ b.i = q ∧ True) ∧ ((2 * Int.tdiv (2 * x + 1 - 1) 2 + 2 * crX b.i == 2 * x + 2 * crS q && 2 * Int.tdiv (2 * y + 1 - 1) 2 + 2 * crY b.i == 2 * y + 2 * crS q) = false → 1
= 1 ∧ 2 * x + 1 = 2 * x + 1 ∧ 2 * y + 1 = 2 * y + 1 ∧ 2 * x + 2 * crS q = 2 * x + 2 * crS q ∧ 2 * y + 2 * crS q = 2 * y + 2 * crS q ∧ 2 * x + 2 * crX q = 2 * x + 2 * crX q ∧ 2 * y + 2 * crY q = 2 * y
+ 2 * crY q ∧ 1 = 1 ∧ iI 0 = 0 ∧ iI 0 = 0 ∧ iI 0 = 0 ∧ 1 = 1 ∧ 2 * x + 1 = 2 * x + 1 ∧ 2 * y + 1 = 2 * y + 1 ∧ 1 = 1 ∧ 2 * x + 2 * crS q = 2 * x + 2 * crS q ∧ 2 * y + 2 * crS q = 2 * y + 2 * crS q ∧ 1
= 1 ∧ 2 * x + 2 * crX q = 2 * x + 2 * crX q ∧ 2 * y + 2 * crY q = 2 * y + 2 * crY q ∧ 1 = 1 ∧ Int.tdiv (2 * x + 1 - 1) 2 = Int.tdiv (2 * x + 1 - 1) 2 ∧ Int.tdiv (2 * y + 1 - 1) 2 = Int.tdiv (2 * y + 1
- 1) 2 ∧ b.i = b.i ∧ 3 = 3 ∧ 2 * Int.tdiv (2 * x + 1 - 1) 2 + 1 = 2 * Int.tdiv (2 * x + 1 - 1) 2 + 1 ∧ 2 * Int.tdiv (2 * y + 1 - 1) 2 + 1 = 2 * Int.tdiv (2 * y + 1 - 1) 2 + 1 ∧ 2 * Int.tdiv (2 * x + 1
- 1) 2 + 2 * crS b.i = 2 * Int.tdiv (2 * x + 1 - 1) 2 + 2 * crS b.i ∧ 2 * Int.tdiv (2 * y + 1 - 1) 2 + 2 * crS b.i = 2 * Int.tdiv (2 * y + 1 - 1) 2 + 2 * crS b.i ∧ 2 * Int.tdiv (2 * x + 1 - 1) 2 + 2 *
crX b.i = 2 * Int.tdiv (2 * x + 1 - 1) 2 + 2 * crX b.i ∧ 2 * Int.tdiv (2 * y + 1 - 1) 2 + 2 * crY b.i = 2 * Int.tdiv (2 * y + 1 - 1) 2 + 2 * crY b.i ∧ 0 = 0 ∧ 0 = 0 ∧ iI 0 = 0 ∧ 0 = 0 ∧ 0 = 0 ∧ 0 = 0
∧ 1 = 1 ∧ 2 * y + 1 = 2 * y + 1 ∧ Int.tmod (2 * y + 1) 2 = Int.tmod (2 * y + 1) 2 ∧ (Int.tmod (2 * y + 1) 2 == 0) = (Int.tmod (2 * y + 1) 2 == 0) ∧ b.i = b.i ∧ 0 = 0 ∧ neI b.i q ∧ True)) ∧ ((2 *
Int.tdiv (2 * x + 1 - 1) 2 + 2 * crS b.i == 2 * x + 2 * crX q && 2 * Int.tdiv (2 * y + 1 - 1) 2 + 2 * crS b.i == 2 * y + 2 * crY q) = false → 1 = 1 ∧ 2 * x + 1 = 2 * x + 1 ∧ 2 * y + 1 = 2 * y + 1 ∧ 2
* x + 2 * crS q = 2 * x + 2 * crS q ∧ 2 * y + 2 * crS q = 2 * y + 2 * crS q ∧ 2 * x + 2 * crX q = 2 * x + 2 * crX q ∧ 2 * y + 2 * crY q = 2 * y + 2 * crY q ∧ 1 = 1 ∧ iI 0 = 0 ∧ iI 0 = 0 ∧ iI 0 = 0 ∧ 1
= 1 ∧ 2 * x + 1 = 2 * x + 1 ∧ 2 * y + 1 = 2 * y + 1 ∧ 1 = 1 ∧ 2 * x + 2 * crS q = 2 * x + 2 * crS q ∧ 2 * y + 2 * crS q = 2 * y + 2 * crS q ∧ 1 = 1 ∧ 2 * x + 2 * crX q = 2 * x + 2 * crX q ∧ 2 * y + 2
* crY q = 2 * y + 2 * crY q ∧ 1 = 1 ∧ Int.tdiv (2 * x + 1 - 1) 2 = Int.tdiv (2 * x + 1 - 1) 2 ∧ Int.tdiv (2 * y + 1 - 1) 2 = Int.tdiv (2 * y + 1 - 1) 2 ∧ b.i = b.i ∧ 3 = 3 ∧ 2 * Int.tdiv (2 * x + 1 -
1) 2 + 1 = 2 * Int.tdiv (2 * x + 1 - 1) 2 + 1 ∧ 2 * Int.tdiv (2 * y + 1 - 1) 2 + 1 = 2 * Int.tdiv (2 * y + 1 - 1) 2 + 1 ∧ 2 * Int.tdiv (2 * x + 1 - 1) 2 + 2 * crS b.i = 2 * Int.tdiv (2 * x + 1 - 1) 2
+ 2 * crS b.i ∧ 2 * Int.tdiv (2 * y + 1 - 1) 2 + 2 * crS b.i = 2 * Int.tdiv (2 * y + 1 - 1) 2 + 2 * crS b.i ∧ 2 * Int.tdiv (2 * x + 1 - 1) 2 + 2 * crX b.i = 2 * Int.tdiv (2 * x + 1 - 1) 2 + 2 * crX
b.i ∧ 2 * Int.tdiv (2 * y + 1 - 1) 2 + 2 * crY b.i = 2 * Int.tdiv (2 * y + 1 - 1) 2 + 2 * crY b.i ∧ 0 = 0 ∧ 0 = 0 ∧ iI 0 = 0 ∧ 0 = 0 ∧ 0 = 0 ∧ 0 = 0 ∧ 1 = 1 ∧ 2 * y + 1 = 2 * y + 1 ∧ Int.tmod (2 * y +
1) 2 = Int.tmod (2 * y + 1) 2 ∧ (Int.tmod (2 * y + 1) 2 == 0) = (Int.tmod (2 * y + 1) 2 == 0) ∧ b.i = b.i ∧ 0 = 0 ∧ neI b.i q ∧ True))) ∧ ((2 * Int.tdiv (2 * x + 1 - 1) 2 + 2 * crS b.i == 2 * x + 2 *
crS q && 2 * Int.tdiv (2 * y + 1 - 1) 2 + 2 * crS b.i == 2 * y + 2 * crS q) = false → ((2 * Int.tdiv (2 * x + 1 - 1) 2 + 2 * crS b.i == 2 * x + 2 * crX q && 2 * Int.tdiv (2 * y + 1 - 1) 2 + 2 * crS
b.i == 2 * y + 2 * crY q) = true → ((2 * Int.tdiv (2 * x + 1 - 1) 2 + 2 * crX b.i == 2 * x + 2 * crS q && 2 * Int.tdiv (2 * y + 1 - 1) 2 + 2 * crY b.i == 2 * y + 2 * crS q) = true → Int.tdiv (2 * x +
1 - 1) 2 = x ∧ Int.tdiv (2 * y + 1 - 1) 2 = y ∧ b.i = q ∧ True) ∧ ((2 * Int.tdiv (2 * x + 1 - 1) 2 + 2 * crX b.i == 2 * x + 2 * crS q && 2 * Int.tdiv (2 * y + 1 - 1) 2 + 2 * crY b.i == 2 * y + 2 * crS
q) = false → 1 = 1 ∧ 2 * x + 1 = 2 * x + 1 ∧ 2 * y + 1 = 2 * y + 1 ∧ 2 * x + 2 * crS q = 2 * x + 2 * crS q ∧ 2 * y + 2 * crS q = 2 * y + 2 * crS q ∧ 2 * x + 2 * crX q = 2 * x + 2 * crX q ∧ 2 * y + 2 *
crY q = 2 * y + 2 * crY q ∧ 1 = 1 ∧ iI 0 = 0 ∧ iI 0 = 0 ∧ iI 0 = 0 ∧ 1 = 1 ∧ 2 * x + 1 = 2 * x + 1 ∧ 2 * y + 1 = 2 * y + 1 ∧ 1 = 1 ∧ 2 * x + 2 * crS q = 2 * x + 2 * crS q ∧ 2 * y + 2 * crS q = 2 * y +
2 * crS q ∧ 1 = 1 ∧ 2 * x + 2 * crX q = 2 * x + 2 * crX q ∧ 2 * y + 2 * crY q = 2 * y + 2 * crY q ∧ 1 = 1 ∧ Int.tdiv (2 * x + 1 - 1) 2 = Int.tdiv (2 * x + 1 - 1) 2 ∧ Int.tdiv (2 * y + 1 - 1) 2 =
Int.tdiv (2 * y + 1 - 1) 2 ∧ b.i = b.i ∧ 3 = 3 ∧ 2 * Int.tdiv (2 * x + 1 - 1) 2 + 1 = 2 * Int.tdiv (2 * x + 1 - 1) 2 + 1 ∧ 2 * Int.tdiv (2 * y + 1 - 1) 2 + 1 = 2 * Int.tdiv (2 * y + 1 - 1) 2 + 1 ∧ 2 *
Int.tdiv (2 * x + 1 - 1) 2 + 2 * crS b.i = 2 * Int.tdiv (2 * x + 1 - 1) 2 + 2 * crS b.i ∧ 2 * Int.tdiv (2 * y + 1 - 1) 2 + 2 * crS b.i = 2 * Int.tdiv (2 * y + 1 - 1) 2 + 2 * crS b.i ∧ 2 * Int.tdiv (2
* x + 1 - 1) 2 + 2 * crX b.i = 2 * Int.tdiv (2 * x + 1 - 1) 2 + 2 * crX b.i ∧ 2 * Int.tdiv (2 * y + 1 - 1) 2 + 2 * crY b.i = 2 * Int.tdiv (2 * y + 1 - 1) 2 + 2 * crY b.i ∧ 0 = 0 ∧ 0 = 0 ∧ iI 0 = 0 ∧ 0
= 0 ∧ 0 = 0 ∧ 0 = 0 ∧ 1 = 1 ∧ 2 * y + 1 = 2 * y + 1 ∧ Int.tmod (2 * y + 1) 2 = Int.tmod (2 * y + 1) 2 ∧ (Int.tmod (2 * y + 1) 2 == 0) = (Int.tmod (2 * y + 1) 2 == 0) ∧ b.i = b.i ∧ 0 = 0 ∧ neI b.i q ∧
True)) ∧ ((2 * Int.tdiv (2 * x + 1 - 1) 2 + 2 * crS b.i == 2 * x + 2 * crX q && 2 * Int.tdiv (2 * y + 1 - 1) 2 + 2 * crS b.i == 2 * y + 2 * crY q) = false → 1 = 1 ∧ 2 * x + 1 = 2 * x + 1 ∧ 2 * y + 1 =
2 * y + 1 ∧ 2 * x + 2 * crS q = 2 * x + 2 * crS q ∧ 2 * y + 2 * crS q = 2 * y + 2 * crS q ∧ 2 * x + 2 * crX q = 2 * x + 2 * crX q ∧ 2 * y + 2 * crY q = 2 * y + 2 * crY q ∧ 1 = 1 ∧ iI 0 = 0 ∧ iI 0 = 0
∧ iI 0 = 0 ∧ 1 = 1 ∧ 2 * x + 1 = 2 * x + 1 ∧ 2 * y + 1 = 2 * y + 1 ∧ 1 = 1 ∧ 2 * x + 2 * crS q = 2 * x + 2 * crS q ∧ 2 * y + 2 * crS q = 2 * y + 2 * crS q ∧ 1 = 1 ∧ 2 * x + 2 * crX q = 2 * x + 2 * crX
q ∧ 2 * y + 2 * crY q = 2 * y + 2 * crY q ∧ 1 = 1 ∧ Int.tdiv (2 * x + 1 - 1) 2 = Int.tdiv (2 * x + 1 - 1) 2 ∧ Int.tdiv (2 * y + 1 - 1) 2 = Int.tdiv (2 * y + 1 - 1) 2 ∧ b.i = b.i ∧ 3 = 3 ∧ 2 * Int.tdiv
(2 * x + 1 - 1) 2 + 1 = 2 * Int.tdiv (2 * x + 1 - 1) 2 + 1 ∧ 2 * Int.tdiv (2 * y + 1 - 1) 2 + 1 = 2 * Int.tdiv (2 * y + 1 - 1) 2 + 1 ∧ 2 * Int.tdiv (2 * x + 1 - 1) 2 + 2 * crS b.i = 2 * Int.tdiv (2 *
x + 1 - 1) 2 + 2 * crS b.i ∧ 2 * Int.tdiv (2 * y + 1 - 1) 2 + 2 * crS b.i = 2 * Int.tdiv (2 * y + 1 - 1) 2 + 2 * crS b.i ∧ 2 * Int.tdiv (2 * x + 1 - 1) 2 + 2 * crX b.i = 2 * Int.tdiv (2 * x + 1 - 1) 2
+ 2 * crX b.i ∧ 2 * Int.tdiv (2 * y + 1 - 1) 2 + 2 * crY b.i = 2 * Int.tdiv (2 * y + 1 - 1) 2 + 2 * crY b.i ∧ 0 = 0 ∧ 0 = 0 ∧ iI 0 = 0 ∧ 0 = 0 ∧ 0 = 0 ∧ 0 = 0 ∧ 1 = 1 ∧ 2 * y + 1 = 2 * y + 1 ∧
Int.tmod (2 * y + 1) 2 = Int.tmod (2 * y + 1) 2 ∧ (Int.tmod (2 * y + 1) 2 == 0) = (Int.tmod (2 * y + 1) 2 == 0) ∧ b.i = b.i ∧ 0 = 0 ∧ neI b.i q ∧ True))) ∧ ∀ (b_1 : Unit), neI b.i q → inR IntKind.u8
(b.i + 1) = true ∧ 1 = 1 ∧ 2 * x + 1 = 2 * x + 1 ∧ 2 * y + 1 = 2 * y + 1 ∧ 2 * x + 2 * crS q = 2 * x + 2 * crS q ∧ 2 * y + 2 * crS q = 2 * y + 2 * crS q ∧ 2 * x + 2 * crX q = 2 * x + 2 * crX q ∧ 2 * y
+ 2 * crY q = 2 * y + 2 * crY q ∧ 1 = 1 ∧ iI 0 = 0 ∧ iI 0 = 0 ∧ iI 0 = 0 ∧ 1 = 1 ∧ 2 * x + 1 = 2 * x + 1 ∧ 2 * y + 1 = 2 * y + 1 ∧ 1 = 1 ∧ 2 * x + 2 * crS q = 2 * x + 2 * crS q ∧ 2 * y + 2 * crS q = 2
* y + 2 * crS q ∧ 1 = 1 ∧ 2 * x + 2 * crX q = 2 * x + 2 * crX q ∧ 2 * y + 2 * crY q = 2 * y + 2 * crY q ∧ 0 = 0 ∧ 0 = 0 ∧ iI 0 = 0 ∧ 0 = 0 ∧ 0 = 0 ∧ 0 = 0 ∧ 1 = 1 ∧ 2 * y + 1 = 2 * y + 1 ∧ Int.tmod (2
* y + 1) 2 = Int.tmod (2 * y + 1) 2 ∧ (Int.tmod (2 * y + 1) 2 == 0) = (Int.tmod (2 * y + 1) 2 == 0) ∧ b.i + 1 = b.i + 1 ∧ (0 ≤ b.i + 1 ∧ b.i + 1 ≤ q) ∧ 4 - Int.toNat (b.i + 1) < 4 - Int.toNat b.i ∧
True) := by kernel_rfl

theorem ob_o136b (x y q : Int) : fnP (TQ137) G 10000 fe136 (.r [] 0 (.r [] 0 (.un (.r [] 0 (.lit (.r [] 65535 (.r [yL 389, yL 390, yL 391, yL 392, yL 393] 1019 (.ff (.r [] 0 (.lp (l136 q) [] [] (fun b => (.r [] 0 (.tt (.r [] 409 (.r [] 5 (.jn (jP (neI b.i q)) [9] [] (.rs 5 [] 15 57 (.rs 6 [] 63 63 (.r [] 3 (.lit (.r [] 3 .nil))) (.rs 5 [] 15 68 (.r [] 255 (.cnd (.r [] 3 .nil) .nil)) (.r [] 15 (.lit .nil)))) (.rs 11 [] 63 68 (.r [] 255 (.cnd (.r [] 3 .nil) .nil)) (.r [] 15 (.lit .nil)))) (fun b_1 => (.r [] 0 .nil)))))))))))))))))) ([.agg [.int .i64 (2 * x + 1), .int .i64 (2 * y + 1), .int .i64 (2 * x + 2 * crX q), .int .i64 (2 * y + 2 * crY q), .int .i64 (2 * x + 2 * crS q), .int .i64 (2 * y + 2 * crS q)]]) ([.agg [.int .i64 x, .int .i64 y, .int .u8 q]]) ([]) = (
(!Int.tmod (2 * x + 1) 2 == 0) = true ∧ (Int.tmod (2 * y + 1) 2 == 0) = false ∧ 1 = 1 ∧ 2 * x + 1 = 2 * x + 1 ∧ 2 * y + 1 = 2 * y + 1 ∧ 2 * x + 2 * crX q = 2 * x + 2 * crX q ∧ 2 * y + 2 * crY q = 2 *
y + 2 * crY q ∧ 2 * x + 2 * crS q = 2 * x + 2 * crS q ∧ 2 * y + 2 * crS q = 2 * y + 2 * crS q ∧ 1 = 1 ∧ iI 0 = 0 ∧ iI 0 = 0 ∧ iI 0 = 0 ∧ 1 = 1 ∧ 2 * x + 1 = 2 * x + 1 ∧ 2 * y + 1 = 2 * y + 1 ∧ 1 = 1 ∧
2 * x + 2 * crX q = 2 * x + 2 * crX q ∧ 2 * y + 2 * crY q = 2 * y + 2 * crY q ∧ 1 = 1 ∧ 2 * x + 2 * crS q = 2 * x + 2 * crS q ∧ 2 * y + 2 * crS q = 2 * y + 2 * crS q ∧ 0 = 0 ∧ 0 = 0 ∧ iI 0 = 0 ∧ 0 = 0
∧ 0 = 0 ∧ 0 = 0 ∧ 1 = 1 ∧ 2 * y + 1 = 2 * y + 1 ∧ Int.tmod (2 * y + 1) 2 = Int.tmod (2 * y + 1) 2 ∧ (Int.tmod (2 * y + 1) 2 == 0) = (Int.tmod (2 * y + 1) 2 == 0) ∧ iI 0 = 0 ∧ (iI 0 ≤ iI 0 ∧ 0 ≤ q) ∧ ∀
(b : L136), 0 ≤ b.i ∧ b.i ≤ q → ltb b.i 4 = true ∧ inR IntKind.i64 (2 * x + 1 - 1) = true ∧ inR IntKind.i64 (Int.tdiv (2 * x + 1 - 1) 2) = true ∧ inR IntKind.i64 (2 * y + 1 - 1) = true ∧ inR
IntKind.i64 (Int.tdiv (2 * y + 1 - 1) 2) = true ∧ (sml (Int.tdiv (2 * x + 1 - 1) 2) ∧ sml (Int.tdiv (2 * y + 1 - 1) 2) ∧ 0 ≤ b.i ∧ b.i ≤ 3) ∧ (((2 * Int.tdiv (2 * x + 1 - 1) 2 + 2 * crS b.i == 2 * x +
2 * crX q && 2 * Int.tdiv (2 * y + 1 - 1) 2 + 2 * crS b.i == 2 * y + 2 * crY q) = true → ((2 * Int.tdiv (2 * x + 1 - 1) 2 + 2 * crX b.i == 2 * x + 2 * crS q && 2 * Int.tdiv (2 * y + 1 - 1) 2 + 2 * crY
b.i == 2 * y + 2 * crS q) = true → Int.tdiv (2 * x + 1 - 1) 2 = x ∧ Int.tdiv (2 * y + 1 - 1) 2 = y ∧ b.i = q ∧ True) ∧ ((2 * Int.tdiv (2 * x + 1 - 1) 2 + 2 * crX b.i == 2 * x + 2 * crS q && 2 *
Int.tdiv (2 * y + 1 - 1) 2 + 2 * crY b.i == 2 * y + 2 * crS q) = false → ((2 * Int.tdiv (2 * x + 1 - 1) 2 + 2 * crS b.i == 2 * x + 2 * crS q && 2 * Int.tdiv (2 * y + 1 - 1) 2 + 2 * crS b.i == 2 * y +
2 * crS q) = true → ((2 * Int.tdiv (2 * x + 1 - 1) 2 + 2 * crX b.i == 2 * x + 2 * crX q && 2 * Int.tdiv (2 * y + 1 - 1) 2 + 2 * crY b.i == 2 * y + 2 * crY q) = true → Int.tdiv (2 * x + 1 - 1) 2 = x ∧
Int.tdiv (2 * y + 1 - 1) 2 = y ∧ b.i = q ∧ True) ∧ ((2 * Int.tdiv (2 * x + 1 - 1) 2 + 2 * crX b.i == 2 * x + 2 * crX q && 2 * Int.tdiv (2 * y + 1 - 1) 2 + 2 * crY b.i == 2 * y + 2 * crY q) = false → 1
= 1 ∧ 2 * x + 1 = 2 * x + 1 ∧ 2 * y + 1 = 2 * y + 1 ∧ 2 * x + 2 * crX q = 2 * x + 2 * crX q ∧ 2 * y + 2 * crY q = 2 * y + 2 * crY q ∧ 2 * x + 2 * crS q = 2 * x + 2 * crS q ∧ 2 * y + 2 * crS q = 2 * y
+ 2 * crS q ∧ 1 = 1 ∧ iI 0 = 0 ∧ iI 0 = 0 ∧ iI 0 = 0 ∧ 1 = 1 ∧ 2 * x + 1 = 2 * x + 1 ∧ 2 * y + 1 = 2 * y + 1 ∧ 1 = 1 ∧ 2 * x + 2 * crX q = 2 * x + 2 * crX q ∧ 2 * y + 2 * crY q = 2 * y + 2 * crY q ∧ 1
= 1 ∧ 2 * x + 2 * crS q = 2 * x + 2 * crS q ∧ 2 * y + 2 * crS q = 2 * y + 2 * crS q ∧ 1 = 1 ∧ Int.tdiv (2 * x + 1 - 1) 2 = Int.tdiv (2 * x + 1 - 1) 2 ∧ Int.tdiv (2 * y + 1 - 1) 2 = Int.tdiv (2 * y + 1
- 1) 2 ∧ b.i = b.i ∧ 3 = 3 ∧ 2 * Int.tdiv (2 * x + 1 - 1) 2 + 1 = 2 * Int.tdiv (2 * x + 1 - 1) 2 + 1 ∧ 2 * Int.tdiv (2 * y + 1 - 1) 2 + 1 = 2 * Int.tdiv (2 * y + 1 - 1) 2 + 1 ∧ 2 * Int.tdiv (2 * x + 1
- 1) 2 + 2 * crS b.i = 2 * Int.tdiv (2 * x + 1 - 1) 2 + 2 * crS b.i ∧ 2 * Int.tdiv (2 * y + 1 - 1) 2 + 2 * crS b.i = 2 * Int.tdiv (2 * y + 1 - 1) 2 + 2 * crS b.i ∧ 2 * Int.tdiv (2 * x + 1 - 1) 2 + 2 *
crX b.i = 2 * Int.tdiv (2 * x + 1 - 1) 2 + 2 * crX b.i ∧ 2 * Int.tdiv (2 * y + 1 - 1) 2 + 2 * crY b.i = 2 * Int.tdiv (2 * y + 1 - 1) 2 + 2 * crY b.i ∧ 0 = 0 ∧ 0 = 0 ∧ iI 0 = 0 ∧ 0 = 0 ∧ 0 = 0 ∧ 0 = 0
∧ 1 = 1 ∧ 2 * y + 1 = 2 * y + 1 ∧ Int.tmod (2 * y + 1) 2 = Int.tmod (2 * y + 1) 2 ∧ (Int.tmod (2 * y + 1) 2 == 0) = (Int.tmod (2 * y + 1) 2 == 0) ∧ b.i = b.i ∧ 0 = 0 ∧ neI b.i q ∧ True)) ∧ ((2 *
Int.tdiv (2 * x + 1 - 1) 2 + 2 * crS b.i == 2 * x + 2 * crS q && 2 * Int.tdiv (2 * y + 1 - 1) 2 + 2 * crS b.i == 2 * y + 2 * crS q) = false → 1 = 1 ∧ 2 * x + 1 = 2 * x + 1 ∧ 2 * y + 1 = 2 * y + 1 ∧ 2
* x + 2 * crX q = 2 * x + 2 * crX q ∧ 2 * y + 2 * crY q = 2 * y + 2 * crY q ∧ 2 * x + 2 * crS q = 2 * x + 2 * crS q ∧ 2 * y + 2 * crS q = 2 * y + 2 * crS q ∧ 1 = 1 ∧ iI 0 = 0 ∧ iI 0 = 0 ∧ iI 0 = 0 ∧ 1
= 1 ∧ 2 * x + 1 = 2 * x + 1 ∧ 2 * y + 1 = 2 * y + 1 ∧ 1 = 1 ∧ 2 * x + 2 * crX q = 2 * x + 2 * crX q ∧ 2 * y + 2 * crY q = 2 * y + 2 * crY q ∧ 1 = 1 ∧ 2 * x + 2 * crS q = 2 * x + 2 * crS q ∧ 2 * y + 2
* crS q = 2 * y + 2 * crS q ∧ 1 = 1 ∧ Int.tdiv (2 * x + 1 - 1) 2 = Int.tdiv (2 * x + 1 - 1) 2 ∧ Int.tdiv (2 * y + 1 - 1) 2 = Int.tdiv (2 * y + 1 - 1) 2 ∧ b.i = b.i ∧ 3 = 3 ∧ 2 * Int.tdiv (2 * x + 1 -
1) 2 + 1 = 2 * Int.tdiv (2 * x + 1 - 1) 2 + 1 ∧ 2 * Int.tdiv (2 * y + 1 - 1) 2 + 1 = 2 * Int.tdiv (2 * y + 1 - 1) 2 + 1 ∧ 2 * Int.tdiv (2 * x + 1 - 1) 2 + 2 * crS b.i = 2 * Int.tdiv (2 * x + 1 - 1) 2
+ 2 * crS b.i ∧ 2 * Int.tdiv (2 * y + 1 - 1) 2 + 2 * crS b.i = 2 * Int.tdiv (2 * y + 1 - 1) 2 + 2 * crS b.i ∧ 2 * Int.tdiv (2 * x + 1 - 1) 2 + 2 * crX b.i = 2 * Int.tdiv (2 * x + 1 - 1) 2 + 2 * crX
b.i ∧ 2 * Int.tdiv (2 * y + 1 - 1) 2 + 2 * crY b.i = 2 * Int.tdiv (2 * y + 1 - 1) 2 + 2 * crY b.i ∧ 0 = 0 ∧ 0 = 0 ∧ iI 0 = 0 ∧ 0 = 0 ∧ 0 = 0 ∧ 0 = 0 ∧ 1 = 1 ∧ 2 * y + 1 = 2 * y + 1 ∧ Int.tmod (2 * y +
1) 2 = Int.tmod (2 * y + 1) 2 ∧ (Int.tmod (2 * y + 1) 2 == 0) = (Int.tmod (2 * y + 1) 2 == 0) ∧ b.i = b.i ∧ 0 = 0 ∧ neI b.i q ∧ True))) ∧ ((2 * Int.tdiv (2 * x + 1 - 1) 2 + 2 * crS b.i == 2 * x + 2 *
crX q && 2 * Int.tdiv (2 * y + 1 - 1) 2 + 2 * crS b.i == 2 * y + 2 * crY q) = false → ((2 * Int.tdiv (2 * x + 1 - 1) 2 + 2 * crS b.i == 2 * x + 2 * crS q && 2 * Int.tdiv (2 * y + 1 - 1) 2 + 2 * crS
b.i == 2 * y + 2 * crS q) = true → ((2 * Int.tdiv (2 * x + 1 - 1) 2 + 2 * crX b.i == 2 * x + 2 * crX q && 2 * Int.tdiv (2 * y + 1 - 1) 2 + 2 * crY b.i == 2 * y + 2 * crY q) = true → Int.tdiv (2 * x +
1 - 1) 2 = x ∧ Int.tdiv (2 * y + 1 - 1) 2 = y ∧ b.i = q ∧ True) ∧ ((2 * Int.tdiv (2 * x + 1 - 1) 2 + 2 * crX b.i == 2 * x + 2 * crX q && 2 * Int.tdiv (2 * y + 1 - 1) 2 + 2 * crY b.i == 2 * y + 2 * crY
q) = false → 1 = 1 ∧ 2 * x + 1 = 2 * x + 1 ∧ 2 * y + 1 = 2 * y + 1 ∧ 2 * x + 2 * crX q = 2 * x + 2 * crX q ∧ 2 * y + 2 * crY q = 2 * y + 2 * crY q ∧ 2 * x + 2 * crS q = 2 * x + 2 * crS q ∧ 2 * y + 2 *
crS q = 2 * y + 2 * crS q ∧ 1 = 1 ∧ iI 0 = 0 ∧ iI 0 = 0 ∧ iI 0 = 0 ∧ 1 = 1 ∧ 2 * x + 1 = 2 * x + 1 ∧ 2 * y + 1 = 2 * y + 1 ∧ 1 = 1 ∧ 2 * x + 2 * crX q = 2 * x + 2 * crX q ∧ 2 * y + 2 * crY q = 2 * y +
2 * crY q ∧ 1 = 1 ∧ 2 * x + 2 * crS q = 2 * x + 2 * crS q ∧ 2 * y + 2 * crS q = 2 * y + 2 * crS q ∧ 1 = 1 ∧ Int.tdiv (2 * x + 1 - 1) 2 = Int.tdiv (2 * x + 1 - 1) 2 ∧ Int.tdiv (2 * y + 1 - 1) 2 =
Int.tdiv (2 * y + 1 - 1) 2 ∧ b.i = b.i ∧ 3 = 3 ∧ 2 * Int.tdiv (2 * x + 1 - 1) 2 + 1 = 2 * Int.tdiv (2 * x + 1 - 1) 2 + 1 ∧ 2 * Int.tdiv (2 * y + 1 - 1) 2 + 1 = 2 * Int.tdiv (2 * y + 1 - 1) 2 + 1 ∧ 2 *
Int.tdiv (2 * x + 1 - 1) 2 + 2 * crS b.i = 2 * Int.tdiv (2 * x + 1 - 1) 2 + 2 * crS b.i ∧ 2 * Int.tdiv (2 * y + 1 - 1) 2 + 2 * crS b.i = 2 * Int.tdiv (2 * y + 1 - 1) 2 + 2 * crS b.i ∧ 2 * Int.tdiv (2
* x + 1 - 1) 2 + 2 * crX b.i = 2 * Int.tdiv (2 * x + 1 - 1) 2 + 2 * crX b.i ∧ 2 * Int.tdiv (2 * y + 1 - 1) 2 + 2 * crY b.i = 2 * Int.tdiv (2 * y + 1 - 1) 2 + 2 * crY b.i ∧ 0 = 0 ∧ 0 = 0 ∧ iI 0 = 0 ∧ 0
= 0 ∧ 0 = 0 ∧ 0 = 0 ∧ 1 = 1 ∧ 2 * y + 1 = 2 * y + 1 ∧ Int.tmod (2 * y + 1) 2 = Int.tmod (2 * y + 1) 2 ∧ (Int.tmod (2 * y + 1) 2 == 0) = (Int.tmod (2 * y + 1) 2 == 0) ∧ b.i = b.i ∧ 0 = 0 ∧ neI b.i q ∧
True)) ∧ ((2 * Int.tdiv (2 * x + 1 - 1) 2 + 2 * crS b.i == 2 * x + 2 * crS q && 2 * Int.tdiv (2 * y + 1 - 1) 2 + 2 * crS b.i == 2 * y + 2 * crS q) = false → 1 = 1 ∧ 2 * x + 1 = 2 * x + 1 ∧ 2 * y + 1 =
2 * y + 1 ∧ 2 * x + 2 * crX q = 2 * x + 2 * crX q ∧ 2 * y + 2 * crY q = 2 * y + 2 * crY q ∧ 2 * x + 2 * crS q = 2 * x + 2 * crS q ∧ 2 * y + 2 * crS q = 2 * y + 2 * crS q ∧ 1 = 1 ∧ iI 0 = 0 ∧ iI 0 = 0
∧ iI 0 = 0 ∧ 1 = 1 ∧ 2 * x + 1 = 2 * x + 1 ∧ 2 * y + 1 = 2 * y + 1 ∧ 1 = 1 ∧ 2 * x + 2 * crX q = 2 * x + 2 * crX q ∧ 2 * y + 2 * crY q = 2 * y + 2 * crY q ∧ 1 = 1 ∧ 2 * x + 2 * crS q = 2 * x + 2 * crS
q ∧ 2 * y + 2 * crS q = 2 * y + 2 * crS q ∧ 1 = 1 ∧ Int.tdiv (2 * x + 1 - 1) 2 = Int.tdiv (2 * x + 1 - 1) 2 ∧ Int.tdiv (2 * y + 1 - 1) 2 = Int.tdiv (2 * y + 1 - 1) 2 ∧ b.i = b.i ∧ 3 = 3 ∧ 2 * Int.tdiv
(2 * x + 1 - 1) 2 + 1 = 2 * Int.tdiv (2 * x + 1 - 1) 2 + 1 ∧ 2 * Int.tdiv (2 * y + 1 - 1) 2 + 1 = 2 * Int.tdiv (2 * y + 1 - 1) 2 + 1 ∧ 2 * Int.tdiv (2 * x + 1 - 1) 2 + 2 * crS b.i = 2 * Int.tdiv (2 *
x + 1 - 1) 2 + 2 * crS b.i ∧ 2 * Int.tdiv (2 * y + 1 - 1) 2 + 2 * crS b.i = 2 * Int.tdiv (2 * y + 1 - 1) 2 + 2 * crS b.i ∧ 2 * Int.tdiv (2 * x + 1 - 1) 2 + 2 * crX b.i = 2 * Int.tdiv (2 * x + 1 - 1) 2
+ 2 * crX b.i ∧ 2 * Int.tdiv (2 * y + 1 - 1) 2 + 2 * crY b.i = 2 * Int.tdiv (2 * y + 1 - 1) 2 + 2 * crY b.i ∧ 0 = 0 ∧ 0 = 0 ∧ iI 0 = 0 ∧ 0 = 0 ∧ 0 = 0 ∧ 0 = 0 ∧ 1 = 1 ∧ 2 * y + 1 = 2 * y + 1 ∧
Int.tmod (2 * y + 1) 2 = Int.tmod (2 * y + 1) 2 ∧ (Int.tmod (2 * y + 1) 2 == 0) = (Int.tmod (2 * y + 1) 2 == 0) ∧ b.i = b.i ∧ 0 = 0 ∧ neI b.i q ∧ True))) ∧ ∀ (b_1 : Unit), neI b.i q → inR IntKind.u8
(b.i + 1) = true ∧ 1 = 1 ∧ 2 * x + 1 = 2 * x + 1 ∧ 2 * y + 1 = 2 * y + 1 ∧ 2 * x + 2 * crX q = 2 * x + 2 * crX q ∧ 2 * y + 2 * crY q = 2 * y + 2 * crY q ∧ 2 * x + 2 * crS q = 2 * x + 2 * crS q ∧ 2 * y
+ 2 * crS q = 2 * y + 2 * crS q ∧ 1 = 1 ∧ iI 0 = 0 ∧ iI 0 = 0 ∧ iI 0 = 0 ∧ 1 = 1 ∧ 2 * x + 1 = 2 * x + 1 ∧ 2 * y + 1 = 2 * y + 1 ∧ 1 = 1 ∧ 2 * x + 2 * crX q = 2 * x + 2 * crX q ∧ 2 * y + 2 * crY q = 2
* y + 2 * crY q ∧ 1 = 1 ∧ 2 * x + 2 * crS q = 2 * x + 2 * crS q ∧ 2 * y + 2 * crS q = 2 * y + 2 * crS q ∧ 0 = 0 ∧ 0 = 0 ∧ iI 0 = 0 ∧ 0 = 0 ∧ 0 = 0 ∧ 0 = 0 ∧ 1 = 1 ∧ 2 * y + 1 = 2 * y + 1 ∧ Int.tmod (2
* y + 1) 2 = Int.tmod (2 * y + 1) 2 ∧ (Int.tmod (2 * y + 1) 2 == 0) = (Int.tmod (2 * y + 1) 2 == 0) ∧ b.i + 1 = b.i + 1 ∧ (0 ≤ b.i + 1 ∧ b.i + 1 ≤ q) ∧ 4 - Int.toNat (b.i + 1) < 4 - Int.toNat b.i ∧
True) := by kernel_rfl

theorem ob_o100_0 (x y q : Int) : fnP (TQ100) G 10000 fe100 (.r [] 0 (.r [] 5 (.r [] 5 (.r [] 0 (.un (.r [] 0 (.lit (.r [] 239 (.r [] 1 (.un (.r [] 0 (.lit (.r [] 239 (.r [] 1 (.un (.r [] 0 (.lit (.r [] 239 (.r [] 1 (.un (.r [] 0 (.lit (.r [] 5 .nil))))))))))))))))))))))) ([.agg [.int .i64 x, .int .i64 y, .int .u8 q], .int .i64 0]) ([.agg [.int .i64 (nrX x y q 0), .int .i64 (nrY x y q 0), .int .u8 (nrQ x y q 0)]]) ([]) = (
(smc x y q ∧ iI 0 ≤ iI 0 ∧ iI 0 ≤ iI 2) ∧ (sml x ∧ sml y ∧ 0 ≤ q ∧ q ≤ 3) ∧ (1 ≤ lnK q 0 ∧ lnK q 0 ≤ 4 ∧ sml (lnC x y q 0) ∧ sml (2 * x + 1) ∧ sml (2 * y + 1)) ∧ (1 ≤ lnK q 0 ∧ lnK q 0 ≤ 4 ∧ sml (lnC
x y q 0) ∧ sml (2 * x + 2 * crS q) ∧ sml (2 * y + 2 * crS q)) ∧ (1 ≤ lnK q 0 ∧ lnK q 0 ≤ 4 ∧ sml (lnC x y q 0) ∧ sml (2 * x + 2 * crX q) ∧ sml (2 * y + 2 * crY q)) ∧ wOk (rfX (lnK q 0) (lnC x y q 0)
(2 * x + 1) (2 * y + 1)) (rfY (lnK q 0) (lnC x y q 0) (2 * x + 1) (2 * y + 1)) (rfX (lnK q 0) (lnC x y q 0) (2 * x + 2 * crS q) (2 * y + 2 * crS q)) (rfY (lnK q 0) (lnC x y q 0) (2 * x + 2 * crS q) (2
* y + 2 * crS q)) (rfX (lnK q 0) (lnC x y q 0) (2 * x + 2 * crX q) (2 * y + 2 * crY q)) (rfY (lnK q 0) (lnC x y q 0) (2 * x + 2 * crX q) (2 * y + 2 * crY q)) ∧ (rfX (lnK q 0) (lnC x y q 0) (2 * x + 1)
(2 * y + 1) - 1) / 2 = nrX x y q 0 ∧ (rfY (lnK q 0) (lnC x y q 0) (2 * x + 1) (2 * y + 1) - 1) / 2 = nrY x y q 0 ∧ wQ (rfX (lnK q 0) (lnC x y q 0) (2 * x + 2 * crS q) (2 * y + 2 * crS q) + rfX (lnK q
0) (lnC x y q 0) (2 * x + 2 * crX q) (2 * y + 2 * crY q) - 2 * rfX (lnK q 0) (lnC x y q 0) (2 * x + 1) (2 * y + 1)) (rfY (lnK q 0) (lnC x y q 0) (2 * x + 2 * crS q) (2 * y + 2 * crS q) + rfY (lnK q 0)
(lnC x y q 0) (2 * x + 2 * crX q) (2 * y + 2 * crY q) - 2 * rfY (lnK q 0) (lnC x y q 0) (2 * x + 1) (2 * y + 1)) = nrQ x y q 0 ∧ True) := by kernel_rfl

theorem ob_o100_1 (x y q : Int) : fnP (TQ100) G 10000 fe100 (.r [] 0 (.r [] 5 (.r [] 5 (.r [] 0 (.un (.r [] 0 (.lit (.r [] 239 (.r [] 1 (.un (.r [] 0 (.lit (.r [] 239 (.r [] 1 (.un (.r [] 0 (.lit (.r [] 239 (.r [] 1 (.un (.r [] 0 (.lit (.r [] 5 .nil))))))))))))))))))))))) ([.agg [.int .i64 x, .int .i64 y, .int .u8 q], .int .i64 1]) ([.agg [.int .i64 (nrX x y q 1), .int .i64 (nrY x y q 1), .int .u8 (nrQ x y q 1)]]) ([]) = (
(smc x y q ∧ iI 0 ≤ iI 1 ∧ iI 1 ≤ iI 2) ∧ (sml x ∧ sml y ∧ 0 ≤ q ∧ q ≤ 3) ∧ (iI 1 ≤ iI 3 ∧ iI 3 ≤ iI 4 ∧ sml (lnC x y q 1) ∧ sml (2 * x + 1) ∧ sml (2 * y + 1)) ∧ (iI 1 ≤ iI 3 ∧ iI 3 ≤ iI 4 ∧ sml (lnC
x y q 1) ∧ sml (2 * x + 2 * crS q) ∧ sml (2 * y + 2 * crS q)) ∧ (iI 1 ≤ iI 3 ∧ iI 3 ≤ iI 4 ∧ sml (lnC x y q 1) ∧ sml (2 * x + 2 * crX q) ∧ sml (2 * y + 2 * crY q)) ∧ wOk (rfX 3 (lnC x y q 1) (2 * x +
1) (2 * y + 1)) (rfY 3 (lnC x y q 1) (2 * x + 1) (2 * y + 1)) (rfX 3 (lnC x y q 1) (2 * x + 2 * crS q) (2 * y + 2 * crS q)) (rfY 3 (lnC x y q 1) (2 * x + 2 * crS q) (2 * y + 2 * crS q)) (rfX 3 (lnC x
y q 1) (2 * x + 2 * crX q) (2 * y + 2 * crY q)) (rfY 3 (lnC x y q 1) (2 * x + 2 * crX q) (2 * y + 2 * crY q)) ∧ (rfX 3 (lnC x y q 1) (2 * x + 1) (2 * y + 1) - 1) / 2 = nrX x y q 1 ∧ (rfY 3 (lnC x y q
1) (2 * x + 1) (2 * y + 1) - 1) / 2 = nrY x y q 1 ∧ wQ (rfX 3 (lnC x y q 1) (2 * x + 2 * crS q) (2 * y + 2 * crS q) + rfX 3 (lnC x y q 1) (2 * x + 2 * crX q) (2 * y + 2 * crY q) - 2 * rfX 3 (lnC x y q
1) (2 * x + 1) (2 * y + 1)) (rfY 3 (lnC x y q 1) (2 * x + 2 * crS q) (2 * y + 2 * crS q) + rfY 3 (lnC x y q 1) (2 * x + 2 * crX q) (2 * y + 2 * crY q) - 2 * rfY 3 (lnC x y q 1) (2 * x + 1) (2 * y +
1)) = nrQ x y q 1 ∧ True) := by kernel_rfl

theorem ob_o100_2 (x y q : Int) : fnP (TQ100) G 10000 fe100 (.r [] 0 (.r [] 5 (.r [] 5 (.r [] 0 (.un (.r [] 0 (.lit (.r [] 239 (.r [] 1 (.un (.r [] 0 (.lit (.r [] 239 (.r [] 1 (.un (.r [] 0 (.lit (.r [] 239 (.r [] 1 (.un (.r [] 0 (.lit (.r [] 5 .nil))))))))))))))))))))))) ([.agg [.int .i64 x, .int .i64 y, .int .u8 q], .int .i64 2]) ([.agg [.int .i64 (nrX x y q 2), .int .i64 (nrY x y q 2), .int .u8 (nrQ x y q 2)]]) ([]) = (
(smc x y q ∧ iI 0 ≤ iI 2 ∧ iI 2 ≤ iI 2) ∧ (sml x ∧ sml y ∧ 0 ≤ q ∧ q ≤ 3) ∧ (iI 1 ≤ iI 4 ∧ iI 4 ≤ iI 4 ∧ sml (lnC x y q 2) ∧ sml (2 * x + 1) ∧ sml (2 * y + 1)) ∧ (iI 1 ≤ iI 4 ∧ iI 4 ≤ iI 4 ∧ sml (lnC
x y q 2) ∧ sml (2 * x + 2 * crS q) ∧ sml (2 * y + 2 * crS q)) ∧ (iI 1 ≤ iI 4 ∧ iI 4 ≤ iI 4 ∧ sml (lnC x y q 2) ∧ sml (2 * x + 2 * crX q) ∧ sml (2 * y + 2 * crY q)) ∧ wOk (rfX 4 (lnC x y q 2) (2 * x +
1) (2 * y + 1)) (rfY 4 (lnC x y q 2) (2 * x + 1) (2 * y + 1)) (rfX 4 (lnC x y q 2) (2 * x + 2 * crS q) (2 * y + 2 * crS q)) (rfY 4 (lnC x y q 2) (2 * x + 2 * crS q) (2 * y + 2 * crS q)) (rfX 4 (lnC x
y q 2) (2 * x + 2 * crX q) (2 * y + 2 * crY q)) (rfY 4 (lnC x y q 2) (2 * x + 2 * crX q) (2 * y + 2 * crY q)) ∧ (rfX 4 (lnC x y q 2) (2 * x + 1) (2 * y + 1) - 1) / 2 = nrX x y q 2 ∧ (rfY 4 (lnC x y q
2) (2 * x + 1) (2 * y + 1) - 1) / 2 = nrY x y q 2 ∧ wQ (rfX 4 (lnC x y q 2) (2 * x + 2 * crS q) (2 * y + 2 * crS q) + rfX 4 (lnC x y q 2) (2 * x + 2 * crX q) (2 * y + 2 * crY q) - 2 * rfX 4 (lnC x y q
2) (2 * x + 1) (2 * y + 1)) (rfY 4 (lnC x y q 2) (2 * x + 2 * crS q) (2 * y + 2 * crS q) + rfY 4 (lnC x y q 2) (2 * x + 2 * crX q) (2 * y + 2 * crY q) - 2 * rfY 4 (lnC x y q 2) (2 * x + 1) (2 * y +
1)) = nrQ x y q 2 ∧ True) := by kernel_rfl

end Go.Proofs.YtmnaghfndigfkaaDoor.X
