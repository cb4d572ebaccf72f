/-
 What is to be shown of the functions (made by a program).
-/
import Derived.Test.YtmnaghfndigfkaaDoorDNZ
import Derived.KernelRfl
set_option maxRecDepth 1000000
set_option linter.unusedVariables false
namespace Go.Proofs.YtmnaghfndigfkaaDoor.X
open Go Go.Ab

theorem ob_o108i  : fnP (T0) G 10000 fe108 (.r [] 0 (.r [] 3 .nil)) ([.int .i64 0]) ([.bool false]) ([]) = (
false = false ∧ True) := by kernel_rfl

theorem ob_o55i  : fnP (TN55) G 10000 fe55 (.r [] 0 (.r [] 65399 (.lit (.r [] 0 .nil)))) ([.agg [.int .u8 0, .int .i64 0, .int .i64 0]]) ([.int .i64 0]) ([]) = (
iI 0 = 0 ∧ iI 0 = 0 ∧ iI 0 = 0 ∧ True) := by kernel_rfl

theorem ob_o151 (x y : Int) : fnP (T0) G 10000 fe151 (.r [] 0 (.rs 4 [] 1 6 (.r [] 63 (.lit (.r [] 0 .nil))) (.rs 5 [] 7 11 (.r [] 15 (.lit (.r [] 0 .nil))) (.rs 5 [] 7 16 (.r [] 3 (.lit (.r [] 0 .nil))) (.r [] 7 (.cnd (.r [] 0 .nil) (.r [] 0 .nil))))))) ([.agg [.int .i64 x, .int .i64 y]]) ([.int .i64 (bI (ptB x y) 0 1)]) ([]) = (
(ltb x (-65536) = true → 1 = bI (ptB x y) 0 1 ∧ True) ∧ (ltb x (-65536) = false → (ltb 65536 x = true → 1 = bI (ptB x y) 0 1 ∧ True) ∧ (ltb 65536 x = false → (ltb y (-65536) = true → 1 = bI (ptB x y)
0 1 ∧ True) ∧ (ltb y (-65536) = false → (ltb 65536 y = true → 1 = bI (ptB x y) 0 1 ∧ True) ∧ (ltb 65536 y = false → 0 = bI (ptB x y) 0 1 ∧ True))))) := by kernel_rfl

theorem ob_o112i (x y : Int) : fnP (T0) G 10000 fe112 (.r [] 0 (.r [] 165 .nil)) ([.agg [.int .i64 1, .int .i64 0, .int .i64 0, .int .i64 1], .int .i64 x, .int .i64 y]) ([.int .i64 x, .int .i64 y]) ([]) = (
inR IntKind.i64 (1 * x) = true ∧ inR IntKind.i64 (0 * y) = true ∧ inR IntKind.i64 (1 * x + 0 * y) = true ∧ inR IntKind.i64 (0 * x) = true ∧ inR IntKind.i64 (1 * y) = true ∧ inR IntKind.i64 (0 * x + 1
* y) = true ∧ 1 * x + 0 * y = x ∧ 0 * x + 1 * y = y ∧ True) := by kernel_rfl

theorem ob_o165 (x y q : Int) : fnP (T0) G 10000 fe165 (.r [] 0 (.r [] 73 .nil)) ([.agg [.int .i64 x, .int .i64 y, .int .u8 q]]) ([.agg [.int .i64 (2 * x + 1), .int .i64 (2 * y + 1)]]) ([]) = (
inR IntKind.i64 (2 * x) = true ∧ inR IntKind.i64 (2 * x + 1) = true ∧ inR IntKind.i64 (2 * y) = true ∧ inR IntKind.i64 (2 * y + 1) = true ∧ 2 * x + 1 = 2 * x + 1 ∧ 2 * y + 1 = 2 * y + 1 ∧ True) := by kernel_rfl

theorem ob_o166i (x y : Int) : fnP (TN166) G 10000 fe166 (.r [] 0 (.r [yL 132, yL 133, yL 134, yL 135] 509 (.cnd (.r [] 1 .nil) (.r [] 447 (.r [] 91 (.r [] 3 (.cnd (.r [] 1 .nil) (.r [] 3 .nil)))))))) ([.agg [.int .u8 0, .int .i64 0, .int .i64 0], .agg [.int .i64 x, .int .i64 y]]) ([.agg [.int .i64 x, .int .i64 y], .int .i64 0]) ([]) = (
id3 0 0 0 ∧ ((bI (ptB x y) 0 1 != 0) = true → 0 = x ∧ 0 = y ∧ iI 1 = 0 ∧ True) ∧ ((bI (ptB x y) 0 1 != 0) = false → (iI 1 = 1 ∧ iI 0 = 0 ∧ iI 0 = 0 ∧ iI 1 = 1 ∧ smP x y) ∧ inR IntKind.i64 (x + 0) =
true ∧ inR IntKind.i64 (y + 0) = true ∧ ((bI (ptB (x + 0) (y + 0)) 0 1 != 0) = true → 0 = x ∧ 0 = y ∧ iI 3 = 0 ∧ True) ∧ ((bI (ptB (x + 0) (y + 0)) 0 1 != 0) = false → x + 0 = x ∧ y + 0 = y ∧ iI 0 = 0
∧ True))) := by kernel_rfl

theorem ob_o132_0 (x y : Int) : fnP (TN132) G 10000 fe132 (.r [] 0 (.r [] 253 (.r [] 59 (.r [] 3 (.r [] 59 (.r [] 1651 (.r [] 1 (.lp (l132 0 (sh1 x) (sh1 y)) [] [] (fun b => (.br (b.i == 0) (.jn (jC 0 true) [] [] (.r [] 0 .nil) (fun b_1 => (.lit (.r [] 15 (.r [] 3 (.lit (.r [] 3 (.r [] 1 .nil)))))))) (.br (b.i == 1) (.jn (jC 1 true) [] [] (.r [] 0 .nil) (fun b_1 => (.lit (.r [] 15 (.r [] 3 (.lit (.r [] 1 .nil))))))) (.br (b.i == 2) (.jn (jC 2 true) [] [] (.r [] 0 .nil) (fun b_1 => (.lit (.r [] 15 (.r [] 3 (.lit (.r [] 1 .nil))))))) (.br (b.i == 3) (.jn (jC 3 true) [] [] (.r [] 0 .nil) (fun b_1 => (.lit (.r [] 15 (.r [] 3 (.lit (.r [] 1 .nil))))))) (.jn (jC 4 false) [] [] (.r [] 0 .nil) (fun b_1 => (.lit (.r [] 3 .nil))))))))))))))))) ([.agg [.int .u8 0, .int .i64 0, .int .i64 0], .agg [.int .i64 x, .int .i64 y, .int .u8 0]]) ([.agg [.int .i64 x, .int .i64 y, .int .u8 0]]) ([]) = (
smP x y ∧ (id3 0 0 0 ∧ smP (2 * x + 1) (2 * y + 1)) ∧ (id3 0 0 0 ∧ smP 0 (-1)) ∧ inR IntKind.i64 (2 * x + 1 - bitI BinOp.and IntKind.i64 (2 * x + 1) 1) = true ∧ inR IntKind.i64 (Int.tdiv (2 * x + 1 -
bitI BinOp.and IntKind.i64 (2 * x + 1) 1) 2) = true ∧ inR IntKind.i64 (2 * y + 1 - bitI BinOp.and IntKind.i64 (2 * y + 1) 1) = true ∧ inR IntKind.i64 (Int.tdiv (2 * y + 1 - bitI BinOp.and IntKind.i64
(2 * y + 1) 1) 2) = true ∧ 1 = 1 ∧ iI 0 = 0 ∧ iI 0 = 0 ∧ iI 0 = 0 ∧ 1 = 1 ∧ x = x ∧ y = y ∧ iI 0 = 0 ∧ 1 = 1 ∧ iI 0 = 0 ∧ iI 0 = 0 ∧ iI 0 = 0 ∧ 1 = 1 ∧ 2 * x + 1 = 2 * x + 1 ∧ 2 * y + 1 = 2 * y + 1 ∧
1 = 1 ∧ iI 0 = 0 ∧ iI (-1) = -1 ∧ 1 = 1 ∧ Int.tdiv (2 * x + 1 - bitI BinOp.and IntKind.i64 (2 * x + 1) 1) 2 = sh1 x ∧ Int.tdiv (2 * y + 1 - bitI BinOp.and IntKind.i64 (2 * y + 1) 1) 2 = sh1 y ∧ iI 0 =
0 ∧ 0 = 0 ∧ 0 = 0 ∧ 0 = 0 ∧ iI 0 = 0 ∧ iI (-1) = -1 ∧ iI 2 = 2 ∧ iI 0 = 0 ∧ iI 0 = 0 ∧ iI (-1) = -1 ∧ iI 2 = 2 ∧ iI 0 = 0 ∧ iI 0 = 0 ∧ iI 1 = 1 ∧ iI 0 = 0 ∧ iI 0 = 0 ∧ iI 3 = 3 ∧ iI 0 = 0 ∧ iI 0 = 0 ∧
iI 2 = 2 ∧ iI 0 = 0 ∧ iI 1 = 1 ∧ iI 0 = 0 ∧ iI 1 = 1 ∧ iI 1 = 1 ∧ iI 1 = 1 ∧ iI 0 = 0 ∧ iI 3 = 3 ∧ iI 0 = 0 ∧ iI 0 = 0 ∧ iI 0 = 0 ∧ iI 0 = 0 ∧ iI 0 = 0 ∧ iI 2 = 2 ∧ iI 2 = 2 ∧ iI 2 = 2 ∧ iI 2 = 2 ∧ iI
0 = 0 ∧ iI 0 = 0 ∧ iI 1 = 1 ∧ iI 2 = 2 ∧ iI 1 = 1 ∧ iI 0 = 0 ∧ iI 1 = 1 ∧ iI 0 = 0 ∧ iI 0 = 0 ∧ iI 0 = 0 ∧ iI 3 = 3 ∧ iI 0 = 0 ∧ iI 0 = 0 ∧ iI 1 = 1 ∧ iI 2 = 2 ∧ iI 2 = 2 ∧ iI 0 = 0 ∧ iI 2 = 2 ∧ iI
(-1) = -1 ∧ iI 0 = 0 ∧ iI 1 = 1 ∧ iI 0 = 0 ∧ iI (-1) = -1 ∧ iI 0 = 0 ∧ iI 1 = 1 ∧ iI 0 = 0 ∧ iI 0 = 0 ∧ iI 2 = 2 ∧ iI 0 = 0 ∧ iI 0 = 0 ∧ iI 0 = 0 ∧ iI 0 = 0 ∧ iI 0 = 0 ∧ iI 0 = 0 ∧ iI 2 = 2 ∧ iI 0 = 0
∧ (∃ (n : Nat), 0 = (↑n : Int) ∧ n ≤ 4 ∧ 0 = kAft 0 n) ∧ ∀ (b : L132), (∃ (n : Nat), b.i = (↑n : Int) ∧ n ≤ 4 ∧ b.k = kAft 0 n) → ((b.i == 0) = true → (1 = 1 ∧ iI 0 = 0 ∧ iI 0 = 0 ∧ iI 0 = 0 ∧ 1 = 1 ∧
x = x ∧ y = y ∧ iI 0 = 0 ∧ 1 = 1 ∧ iI 0 = 0 ∧ iI 0 = 0 ∧ iI 0 = 0 ∧ 1 = 1 ∧ 2 * x + 1 = 2 * x + 1 ∧ 2 * y + 1 = 2 * y + 1 ∧ 1 = 1 ∧ iI 0 = 0 ∧ iI (-1) = -1 ∧ 1 = 1 ∧ sh1 x = sh1 x ∧ sh1 y = sh1 y ∧
b.k = b.k ∧ 0 = 0 ∧ 0 = 0 ∧ 0 = 0 ∧ iI 0 = 0 ∧ iI (-1) = -1 ∧ iI 2 = 2 ∧ iI 0 = 0 ∧ iI 0 = 0 ∧ iI (-1) = -1 ∧ iI 2 = 2 ∧ iI 0 = 0 ∧ iI 0 = 0 ∧ iI 1 = 1 ∧ iI 0 = 0 ∧ iI 0 = 0 ∧ iI 3 = 3 ∧ iI 0 = 0 ∧ iI
0 = 0 ∧ iI 2 = 2 ∧ iI 0 = 0 ∧ iI 1 = 1 ∧ iI 0 = 0 ∧ iI 1 = 1 ∧ iI 1 = 1 ∧ iI 1 = 1 ∧ iI 0 = 0 ∧ iI 3 = 3 ∧ iI 0 = 0 ∧ iI 0 = 0 ∧ iI 0 = 0 ∧ iI 0 = 0 ∧ iI 0 = 0 ∧ iI 2 = 2 ∧ iI 2 = 2 ∧ iI 2 = 2 ∧ iI 2
= 2 ∧ iI 0 = 0 ∧ iI 0 = 0 ∧ iI 1 = 1 ∧ iI 2 = 2 ∧ iI 1 = 1 ∧ iI 0 = 0 ∧ iI 1 = 1 ∧ iI 0 = 0 ∧ iI 0 = 0 ∧ iI 0 = 0 ∧ iI 3 = 3 ∧ iI 0 = 0 ∧ iI 0 = 0 ∧ iI 1 = 1 ∧ iI 2 = 2 ∧ iI 2 = 2 ∧ iI 0 = 0 ∧ iI 2 =
2 ∧ iI (-1) = -1 ∧ iI 0 = 0 ∧ iI 1 = 1 ∧ iI 0 = 0 ∧ iI (-1) = -1 ∧ iI 0 = 0 ∧ iI 1 = 1 ∧ iI 0 = 0 ∧ iI 0 = 0 ∧ iI 2 = 2 ∧ iI 0 = 0 ∧ iI 0 = 0 ∧ iI 0 = 0 ∧ iI 0 = 0 ∧ iI 0 = 0 ∧ iI 0 = 0 ∧ iI 2 = 2 ∧
b.i = 0 ∧ ltb b.i 4 = true ∧ True ∧ True) ∧ ∀ (b_1 : Unit), True → 1 = 1 ∧ iI 0 = 0 ∧ iI 0 = 0 ∧ iI 0 = 0 ∧ 1 = 1 ∧ x = x ∧ y = y ∧ iI 0 = 0 ∧ 1 = 1 ∧ iI 0 = 0 ∧ iI 0 = 0 ∧ iI 0 = 0 ∧ 1 = 1 ∧ 2 * x +
1 = 2 * x + 1 ∧ 2 * y + 1 = 2 * y + 1 ∧ 1 = 1 ∧ iI 0 = 0 ∧ iI (-1) = -1 ∧ 1 = 1 ∧ sh1 x = sh1 x ∧ sh1 y = sh1 y ∧ iI 0 = 0 ∧ 0 = 0 ∧ 0 = 0 ∧ 0 = 0 ∧ iI 0 = 0 ∧ iI (-1) = -1 ∧ iI 2 = 2 ∧ iI 0 = 0 ∧ iI
0 = 0 ∧ iI (-1) = -1 ∧ iI 2 = 2 ∧ iI 0 = 0 ∧ iI 0 = 0 ∧ iI 1 = 1 ∧ iI 0 = 0 ∧ iI 0 = 0 ∧ iI 3 = 3 ∧ iI 0 = 0 ∧ iI 0 = 0 ∧ iI 2 = 2 ∧ iI 0 = 0 ∧ iI 1 = 1 ∧ iI 0 = 0 ∧ iI 1 = 1 ∧ iI 1 = 1 ∧ iI 1 = 1 ∧
iI 0 = 0 ∧ iI 3 = 3 ∧ iI 0 = 0 ∧ iI 0 = 0 ∧ iI 0 = 0 ∧ iI 0 = 0 ∧ iI 0 = 0 ∧ iI 2 = 2 ∧ iI 2 = 2 ∧ iI 2 = 2 ∧ iI 2 = 2 ∧ iI 0 = 0 ∧ iI 0 = 0 ∧ iI 1 = 1 ∧ iI 2 = 2 ∧ iI 1 = 1 ∧ iI 0 = 0 ∧ iI 1 = 1 ∧ iI
0 = 0 ∧ iI 0 = 0 ∧ iI 0 = 0 ∧ iI 3 = 3 ∧ iI 0 = 0 ∧ iI 0 = 0 ∧ iI 1 = 1 ∧ iI 2 = 2 ∧ iI 2 = 2 ∧ iI 0 = 0 ∧ iI 2 = 2 ∧ iI (-1) = -1 ∧ iI 0 = 0 ∧ iI 1 = 1 ∧ iI 0 = 0 ∧ iI (-1) = -1 ∧ iI 0 = 0 ∧ iI 1 = 1
∧ iI 0 = 0 ∧ iI 0 = 0 ∧ iI 2 = 2 ∧ iI 0 = 0 ∧ iI 0 = 0 ∧ iI 0 = 0 ∧ iI 0 = 0 ∧ iI 0 = 0 ∧ iI 0 = 0 ∧ iI 2 = 2 ∧ iI 1 = 1 ∧ (∃ (n : Nat), 1 = (↑n : Int) ∧ n ≤ 4 ∧ 0 = kAft 0 n) ∧ 3 < 4 - Int.toNat b.i
∧ True) ∧ ((b.i == 0) = false → ((b.i == 1) = true → (1 = 1 ∧ iI 0 = 0 ∧ iI 0 = 0 ∧ iI 0 = 0 ∧ 1 = 1 ∧ x = x ∧ y = y ∧ iI 0 = 0 ∧ 1 = 1 ∧ iI 0 = 0 ∧ iI 0 = 0 ∧ iI 0 = 0 ∧ 1 = 1 ∧ 2 * x + 1 = 2 * x + 1
∧ 2 * y + 1 = 2 * y + 1 ∧ 1 = 1 ∧ iI 0 = 0 ∧ iI (-1) = -1 ∧ 1 = 1 ∧ sh1 x = sh1 x ∧ sh1 y = sh1 y ∧ b.k = b.k ∧ 0 = 0 ∧ 0 = 0 ∧ 0 = 0 ∧ iI 0 = 0 ∧ iI (-1) = -1 ∧ iI 2 = 2 ∧ iI 0 = 0 ∧ iI 0 = 0 ∧ iI
(-1) = -1 ∧ iI 2 = 2 ∧ iI 0 = 0 ∧ iI 0 = 0 ∧ iI 1 = 1 ∧ iI 0 = 0 ∧ iI 0 = 0 ∧ iI 3 = 3 ∧ iI 0 = 0 ∧ iI 0 = 0 ∧ iI 2 = 2 ∧ iI 0 = 0 ∧ iI 1 = 1 ∧ iI 0 = 0 ∧ iI 1 = 1 ∧ iI 1 = 1 ∧ iI 1 = 1 ∧ iI 0 = 0 ∧
iI 3 = 3 ∧ iI 0 = 0 ∧ iI 0 = 0 ∧ iI 0 = 0 ∧ iI 0 = 0 ∧ iI 0 = 0 ∧ iI 2 = 2 ∧ iI 2 = 2 ∧ iI 2 = 2 ∧ iI 2 = 2 ∧ iI 0 = 0 ∧ iI 0 = 0 ∧ iI 1 = 1 ∧ iI 2 = 2 ∧ iI 1 = 1 ∧ iI 0 = 0 ∧ iI 1 = 1 ∧ iI 0 = 0 ∧ iI
0 = 0 ∧ iI 0 = 0 ∧ iI 3 = 3 ∧ iI 0 = 0 ∧ iI 0 = 0 ∧ iI 1 = 1 ∧ iI 2 = 2 ∧ iI 2 = 2 ∧ iI 0 = 0 ∧ iI 2 = 2 ∧ iI (-1) = -1 ∧ iI 0 = 0 ∧ iI 1 = 1 ∧ iI 0 = 0 ∧ iI (-1) = -1 ∧ iI 0 = 0 ∧ iI 1 = 1 ∧ iI 0 = 0
∧ iI 0 = 0 ∧ iI 2 = 2 ∧ iI 0 = 0 ∧ iI 0 = 0 ∧ iI 0 = 0 ∧ iI 0 = 0 ∧ iI 0 = 0 ∧ iI 0 = 0 ∧ iI 2 = 2 ∧ b.i = 1 ∧ ltb b.i 4 = true ∧ True ∧ True) ∧ ∀ (b_1 : Unit), True → 1 = 1 ∧ iI 0 = 0 ∧ iI 0 = 0 ∧ iI
0 = 0 ∧ 1 = 1 ∧ x = x ∧ y = y ∧ iI 0 = 0 ∧ 1 = 1 ∧ iI 0 = 0 ∧ iI 0 = 0 ∧ iI 0 = 0 ∧ 1 = 1 ∧ 2 * x + 1 = 2 * x + 1 ∧ 2 * y + 1 = 2 * y + 1 ∧ 1 = 1 ∧ iI 0 = 0 ∧ iI (-1) = -1 ∧ 1 = 1 ∧ sh1 x = sh1 x ∧
sh1 y = sh1 y ∧ b.k = b.k ∧ 0 = 0 ∧ 0 = 0 ∧ 0 = 0 ∧ iI 0 = 0 ∧ iI (-1) = -1 ∧ iI 2 = 2 ∧ iI 0 = 0 ∧ iI 0 = 0 ∧ iI (-1) = -1 ∧ iI 2 = 2 ∧ iI 0 = 0 ∧ iI 0 = 0 ∧ iI 1 = 1 ∧ iI 0 = 0 ∧ iI 0 = 0 ∧ iI 3 = 3
∧ iI 0 = 0 ∧ iI 0 = 0 ∧ iI 2 = 2 ∧ iI 0 = 0 ∧ iI 1 = 1 ∧ iI 0 = 0 ∧ iI 1 = 1 ∧ iI 1 = 1 ∧ iI 1 = 1 ∧ iI 0 = 0 ∧ iI 3 = 3 ∧ iI 0 = 0 ∧ iI 0 = 0 ∧ iI 0 = 0 ∧ iI 0 = 0 ∧ iI 0 = 0 ∧ iI 2 = 2 ∧ iI 2 = 2 ∧
iI 2 = 2 ∧ iI 2 = 2 ∧ iI 0 = 0 ∧ iI 0 = 0 ∧ iI 1 = 1 ∧ iI 2 = 2 ∧ iI 1 = 1 ∧ iI 0 = 0 ∧ iI 1 = 1 ∧ iI 0 = 0 ∧ iI 0 = 0 ∧ iI 0 = 0 ∧ iI 3 = 3 ∧ iI 0 = 0 ∧ iI 0 = 0 ∧ iI 1 = 1 ∧ iI 2 = 2 ∧ iI 2 = 2 ∧ iI
0 = 0 ∧ iI 2 = 2 ∧ iI (-1) = -1 ∧ iI 0 = 0 ∧ iI 1 = 1 ∧ iI 0 = 0 ∧ iI (-1) = -1 ∧ iI 0 = 0 ∧ iI 1 = 1 ∧ iI 0 = 0 ∧ iI 0 = 0 ∧ iI 2 = 2 ∧ iI 0 = 0 ∧ iI 0 = 0 ∧ iI 0 = 0 ∧ iI 0 = 0 ∧ iI 0 = 0 ∧ iI 0 = 0
∧ iI 2 = 2 ∧ iI 2 = 2 ∧ (∃ (n : Nat), 2 = (↑n : Int) ∧ n ≤ 4 ∧ b.k = kAft 0 n) ∧ 2 < 4 - Int.toNat b.i ∧ True) ∧ ((b.i == 1) = false → ((b.i == 2) = true → (1 = 1 ∧ iI 0 = 0 ∧ iI 0 = 0 ∧ iI 0 = 0 ∧ 1
= 1 ∧ x = x ∧ y = y ∧ iI 0 = 0 ∧ 1 = 1 ∧ iI 0 = 0 ∧ iI 0 = 0 ∧ iI 0 = 0 ∧ 1 = 1 ∧ 2 * x + 1 = 2 * x + 1 ∧ 2 * y + 1 = 2 * y + 1 ∧ 1 = 1 ∧ iI 0 = 0 ∧ iI (-1) = -1 ∧ 1 = 1 ∧ sh1 x = sh1 x ∧ sh1 y = sh1
y ∧ b.k = b.k ∧ 0 = 0 ∧ 0 = 0 ∧ 0 = 0 ∧ iI 0 = 0 ∧ iI (-1) = -1 ∧ iI 2 = 2 ∧ iI 0 = 0 ∧ iI 0 = 0 ∧ iI (-1) = -1 ∧ iI 2 = 2 ∧ iI 0 = 0 ∧ iI 0 = 0 ∧ iI 1 = 1 ∧ iI 0 = 0 ∧ iI 0 = 0 ∧ iI 3 = 3 ∧ iI 0 = 0
∧ iI 0 = 0 ∧ iI 2 = 2 ∧ iI 0 = 0 ∧ iI 1 = 1 ∧ iI 0 = 0 ∧ iI 1 = 1 ∧ iI 1 = 1 ∧ iI 1 = 1 ∧ iI 0 = 0 ∧ iI 3 = 3 ∧ iI 0 = 0 ∧ iI 0 = 0 ∧ iI 0 = 0 ∧ iI 0 = 0 ∧ iI 0 = 0 ∧ iI 2 = 2 ∧ iI 2 = 2 ∧ iI 2 = 2 ∧
iI 2 = 2 ∧ iI 0 = 0 ∧ iI 0 = 0 ∧ iI 1 = 1 ∧ iI 2 = 2 ∧ iI 1 = 1 ∧ iI 0 = 0 ∧ iI 1 = 1 ∧ iI 0 = 0 ∧ iI 0 = 0 ∧ iI 0 = 0 ∧ iI 3 = 3 ∧ iI 0 = 0 ∧ iI 0 = 0 ∧ iI 1 = 1 ∧ iI 2 = 2 ∧ iI 2 = 2 ∧ iI 0 = 0 ∧ iI
2 = 2 ∧ iI (-1) = -1 ∧ iI 0 = 0 ∧ iI 1 = 1 ∧ iI 0 = 0 ∧ iI (-1) = -1 ∧ iI 0 = 0 ∧ iI 1 = 1 ∧ iI 0 = 0 ∧ iI 0 = 0 ∧ iI 2 = 2 ∧ iI 0 = 0 ∧ iI 0 = 0 ∧ iI 0 = 0 ∧ iI 0 = 0 ∧ iI 0 = 0 ∧ iI 0 = 0 ∧ iI 2 = 2
∧ b.i = 2 ∧ ltb b.i 4 = true ∧ True ∧ True) ∧ ∀ (b_1 : Unit), True → 1 = 1 ∧ iI 0 = 0 ∧ iI 0 = 0 ∧ iI 0 = 0 ∧ 1 = 1 ∧ x = x ∧ y = y ∧ iI 0 = 0 ∧ 1 = 1 ∧ iI 0 = 0 ∧ iI 0 = 0 ∧ iI 0 = 0 ∧ 1 = 1 ∧ 2 * x
+ 1 = 2 * x + 1 ∧ 2 * y + 1 = 2 * y + 1 ∧ 1 = 1 ∧ iI 0 = 0 ∧ iI (-1) = -1 ∧ 1 = 1 ∧ sh1 x = sh1 x ∧ sh1 y = sh1 y ∧ b.k = b.k ∧ 0 = 0 ∧ 0 = 0 ∧ 0 = 0 ∧ iI 0 = 0 ∧ iI (-1) = -1 ∧ iI 2 = 2 ∧ iI 0 = 0 ∧
iI 0 = 0 ∧ iI (-1) = -1 ∧ iI 2 = 2 ∧ iI 0 = 0 ∧ iI 0 = 0 ∧ iI 1 = 1 ∧ iI 0 = 0 ∧ iI 0 = 0 ∧ iI 3 = 3 ∧ iI 0 = 0 ∧ iI 0 = 0 ∧ iI 2 = 2 ∧ iI 0 = 0 ∧ iI 1 = 1 ∧ iI 0 = 0 ∧ iI 1 = 1 ∧ iI 1 = 1 ∧ iI 1 = 1
∧ iI 0 = 0 ∧ iI 3 = 3 ∧ iI 0 = 0 ∧ iI 0 = 0 ∧ iI 0 = 0 ∧ iI 0 = 0 ∧ iI 0 = 0 ∧ iI 2 = 2 ∧ iI 2 = 2 ∧ iI 2 = 2 ∧ iI 2 = 2 ∧ iI 0 = 0 ∧ iI 0 = 0 ∧ iI 1 = 1 ∧ iI 2 = 2 ∧ iI 1 = 1 ∧ iI 0 = 0 ∧ iI 1 = 1 ∧
iI 0 = 0 ∧ iI 0 = 0 ∧ iI 0 = 0 ∧ iI 3 = 3 ∧ iI 0 = 0 ∧ iI 0 = 0 ∧ iI 1 = 1 ∧ iI 2 = 2 ∧ iI 2 = 2 ∧ iI 0 = 0 ∧ iI 2 = 2 ∧ iI (-1) = -1 ∧ iI 0 = 0 ∧ iI 1 = 1 ∧ iI 0 = 0 ∧ iI (-1) = -1 ∧ iI 0 = 0 ∧ iI 1
= 1 ∧ iI 0 = 0 ∧ iI 0 = 0 ∧ iI 2 = 2 ∧ iI 0 = 0 ∧ iI 0 = 0 ∧ iI 0 = 0 ∧ iI 0 = 0 ∧ iI 0 = 0 ∧ iI 0 = 0 ∧ iI 2 = 2 ∧ iI 3 = 3 ∧ (∃ (n : Nat), 3 = (↑n : Int) ∧ n ≤ 4 ∧ b.k = kAft 0 n) ∧ 1 < 4 -
Int.toNat b.i ∧ True) ∧ ((b.i == 2) = false → ((b.i == 3) = true → (1 = 1 ∧ iI 0 = 0 ∧ iI 0 = 0 ∧ iI 0 = 0 ∧ 1 = 1 ∧ x = x ∧ y = y ∧ iI 0 = 0 ∧ 1 = 1 ∧ iI 0 = 0 ∧ iI 0 = 0 ∧ iI 0 = 0 ∧ 1 = 1 ∧ 2 * x +
1 = 2 * x + 1 ∧ 2 * y + 1 = 2 * y + 1 ∧ 1 = 1 ∧ iI 0 = 0 ∧ iI (-1) = -1 ∧ 1 = 1 ∧ sh1 x = sh1 x ∧ sh1 y = sh1 y ∧ b.k = b.k ∧ 0 = 0 ∧ 0 = 0 ∧ 0 = 0 ∧ iI 0 = 0 ∧ iI (-1) = -1 ∧ iI 2 = 2 ∧ iI 0 = 0 ∧ iI
0 = 0 ∧ iI (-1) = -1 ∧ iI 2 = 2 ∧ iI 0 = 0 ∧ iI 0 = 0 ∧ iI 1 = 1 ∧ iI 0 = 0 ∧ iI 0 = 0 ∧ iI 3 = 3 ∧ iI 0 = 0 ∧ iI 0 = 0 ∧ iI 2 = 2 ∧ iI 0 = 0 ∧ iI 1 = 1 ∧ iI 0 = 0 ∧ iI 1 = 1 ∧ iI 1 = 1 ∧ iI 1 = 1 ∧
iI 0 = 0 ∧ iI 3 = 3 ∧ iI 0 = 0 ∧ iI 0 = 0 ∧ iI 0 = 0 ∧ iI 0 = 0 ∧ iI 0 = 0 ∧ iI 2 = 2 ∧ iI 2 = 2 ∧ iI 2 = 2 ∧ iI 2 = 2 ∧ iI 0 = 0 ∧ iI 0 = 0 ∧ iI 1 = 1 ∧ iI 2 = 2 ∧ iI 1 = 1 ∧ iI 0 = 0 ∧ iI 1 = 1 ∧ iI
0 = 0 ∧ iI 0 = 0 ∧ iI 0 = 0 ∧ iI 3 = 3 ∧ iI 0 = 0 ∧ iI 0 = 0 ∧ iI 1 = 1 ∧ iI 2 = 2 ∧ iI 2 = 2 ∧ iI 0 = 0 ∧ iI 2 = 2 ∧ iI (-1) = -1 ∧ iI 0 = 0 ∧ iI 1 = 1 ∧ iI 0 = 0 ∧ iI (-1) = -1 ∧ iI 0 = 0 ∧ iI 1 = 1
∧ iI 0 = 0 ∧ iI 0 = 0 ∧ iI 2 = 2 ∧ iI 0 = 0 ∧ iI 0 = 0 ∧ iI 0 = 0 ∧ iI 0 = 0 ∧ iI 0 = 0 ∧ iI 0 = 0 ∧ iI 2 = 2 ∧ b.i = 3 ∧ ltb b.i 4 = true ∧ True ∧ True) ∧ ∀ (b_1 : Unit), True → 1 = 1 ∧ iI 0 = 0 ∧ iI
0 = 0 ∧ iI 0 = 0 ∧ 1 = 1 ∧ x = x ∧ y = y ∧ iI 0 = 0 ∧ 1 = 1 ∧ iI 0 = 0 ∧ iI 0 = 0 ∧ iI 0 = 0 ∧ 1 = 1 ∧ 2 * x + 1 = 2 * x + 1 ∧ 2 * y + 1 = 2 * y + 1 ∧ 1 = 1 ∧ iI 0 = 0 ∧ iI (-1) = -1 ∧ 1 = 1 ∧ sh1 x =
sh1 x ∧ sh1 y = sh1 y ∧ b.k = b.k ∧ 0 = 0 ∧ 0 = 0 ∧ 0 = 0 ∧ iI 0 = 0 ∧ iI (-1) = -1 ∧ iI 2 = 2 ∧ iI 0 = 0 ∧ iI 0 = 0 ∧ iI (-1) = -1 ∧ iI 2 = 2 ∧ iI 0 = 0 ∧ iI 0 = 0 ∧ iI 1 = 1 ∧ iI 0 = 0 ∧ iI 0 = 0 ∧
iI 3 = 3 ∧ iI 0 = 0 ∧ iI 0 = 0 ∧ iI 2 = 2 ∧ iI 0 = 0 ∧ iI 1 = 1 ∧ iI 0 = 0 ∧ iI 1 = 1 ∧ iI 1 = 1 ∧ iI 1 = 1 ∧ iI 0 = 0 ∧ iI 3 = 3 ∧ iI 0 = 0 ∧ iI 0 = 0 ∧ iI 0 = 0 ∧ iI 0 = 0 ∧ iI 0 = 0 ∧ iI 2 = 2 ∧ iI
2 = 2 ∧ iI 2 = 2 ∧ iI 2 = 2 ∧ iI 0 = 0 ∧ iI 0 = 0 ∧ iI 1 = 1 ∧ iI 2 = 2 ∧ iI 1 = 1 ∧ iI 0 = 0 ∧ iI 1 = 1 ∧ iI 0 = 0 ∧ iI 0 = 0 ∧ iI 0 = 0 ∧ iI 3 = 3 ∧ iI 0 = 0 ∧ iI 0 = 0 ∧ iI 1 = 1 ∧ iI 2 = 2 ∧ iI 2
= 2 ∧ iI 0 = 0 ∧ iI 2 = 2 ∧ iI (-1) = -1 ∧ iI 0 = 0 ∧ iI 1 = 1 ∧ iI 0 = 0 ∧ iI (-1) = -1 ∧ iI 0 = 0 ∧ iI 1 = 1 ∧ iI 0 = 0 ∧ iI 0 = 0 ∧ iI 2 = 2 ∧ iI 0 = 0 ∧ iI 0 = 0 ∧ iI 0 = 0 ∧ iI 0 = 0 ∧ iI 0 = 0 ∧
iI 0 = 0 ∧ iI 2 = 2 ∧ iI 4 = 4 ∧ (∃ (n : Nat), 4 = (↑n : Int) ∧ n ≤ 4 ∧ b.k = kAft 0 n) ∧ 0 < 4 - Int.toNat b.i ∧ True) ∧ ((b.i == 3) = false → (1 = 1 ∧ iI 0 = 0 ∧ iI 0 = 0 ∧ iI 0 = 0 ∧ 1 = 1 ∧ x = x
∧ y = y ∧ iI 0 = 0 ∧ 1 = 1 ∧ iI 0 = 0 ∧ iI 0 = 0 ∧ iI 0 = 0 ∧ 1 = 1 ∧ 2 * x + 1 = 2 * x + 1 ∧ 2 * y + 1 = 2 * y + 1 ∧ 1 = 1 ∧ iI 0 = 0 ∧ iI (-1) = -1 ∧ 1 = 1 ∧ sh1 x = sh1 x ∧ sh1 y = sh1 y ∧ b.k =
b.k ∧ 0 = 0 ∧ 0 = 0 ∧ 0 = 0 ∧ iI 0 = 0 ∧ iI (-1) = -1 ∧ iI 2 = 2 ∧ iI 0 = 0 ∧ iI 0 = 0 ∧ iI (-1) = -1 ∧ iI 2 = 2 ∧ iI 0 = 0 ∧ iI 0 = 0 ∧ iI 1 = 1 ∧ iI 0 = 0 ∧ iI 0 = 0 ∧ iI 3 = 3 ∧ iI 0 = 0 ∧ iI 0 = 0
∧ iI 2 = 2 ∧ iI 0 = 0 ∧ iI 1 = 1 ∧ iI 0 = 0 ∧ iI 1 = 1 ∧ iI 1 = 1 ∧ iI 1 = 1 ∧ iI 0 = 0 ∧ iI 3 = 3 ∧ iI 0 = 0 ∧ iI 0 = 0 ∧ iI 0 = 0 ∧ iI 0 = 0 ∧ iI 0 = 0 ∧ iI 2 = 2 ∧ iI 2 = 2 ∧ iI 2 = 2 ∧ iI 2 = 2 ∧
iI 0 = 0 ∧ iI 0 = 0 ∧ iI 1 = 1 ∧ iI 2 = 2 ∧ iI 1 = 1 ∧ iI 0 = 0 ∧ iI 1 = 1 ∧ iI 0 = 0 ∧ iI 0 = 0 ∧ iI 0 = 0 ∧ iI 3 = 3 ∧ iI 0 = 0 ∧ iI 0 = 0 ∧ iI 1 = 1 ∧ iI 2 = 2 ∧ iI 2 = 2 ∧ iI 0 = 0 ∧ iI 2 = 2 ∧ iI
(-1) = -1 ∧ iI 0 = 0 ∧ iI 1 = 1 ∧ iI 0 = 0 ∧ iI (-1) = -1 ∧ iI 0 = 0 ∧ iI 1 = 1 ∧ iI 0 = 0 ∧ iI 0 = 0 ∧ iI 2 = 2 ∧ iI 0 = 0 ∧ iI 0 = 0 ∧ iI 0 = 0 ∧ iI 0 = 0 ∧ iI 0 = 0 ∧ iI 0 = 0 ∧ iI 2 = 2 ∧ b.i = 4
∧ ltb b.i 4 = false ∧ True ∧ True) ∧ ∀ (b_1 : Unit), True → sh1 x = x ∧ sh1 y = y ∧ b.k = 0 ∧ True))))) := by kernel_rfl

theorem ob_o132_1 (x y : Int) : fnP (TN132) G 10000 fe132 (.r [] 0 (.r [] 253 (.r [] 59 (.r [] 3 (.r [] 59 (.r [] 1651 (.r [] 1 (.lp (l132 1 (sh1 x) (sh1 y)) [] [] (fun b => (.br (b.i == 0) (.jn (jC 0 true) [] [] (.r [] 0 .nil) (fun b_1 => (.lit (.r [] 15 (.r [] 3 (.lit (.r [] 1 .nil))))))) (.br (b.i == 1) (.jn (jC 1 true) [] [] (.r [] 0 .nil) (fun b_1 => (.lit (.r [] 15 (.r [] 3 (.lit (.r [] 3 (.r [] 1 .nil)))))))) (.br (b.i == 2) (.jn (jC 2 true) [] [] (.r [] 0 .nil) (fun b_1 => (.lit (.r [] 15 (.r [] 3 (.lit (.r [] 1 .nil))))))) (.br (b.i == 3) (.jn (jC 3 true) [] [] (.r [] 0 .nil) (fun b_1 => (.lit (.r [] 15 (.r [] 3 (.lit (.r [] 1 .nil))))))) (.jn (jC 4 false) [] [] (.r [] 0 .nil) (fun b_1 => (.lit (.r [] 3 .nil))))))))))))))))) ([.agg [.int .u8 0, .int .i64 0, .int .i64 0], .agg [.int .i64 x, .int .i64 y, .int .u8 1]]) ([.agg [.int .i64 x, .int .i64 y, .int .u8 1]]) ([]) = (
smP x y ∧ (id3 0 0 0 ∧ smP (2 * x + 1) (2 * y + 1)) ∧ (id3 0 0 0 ∧ smP 1 0) ∧ inR IntKind.i64 (2 * x + 1 - bitI BinOp.and IntKind.i64 (2 * x + 1) 1) = true ∧ inR IntKind.i64 (Int.tdiv (2 * x + 1 -
bitI BinOp.and IntKind.i64 (2 * x + 1) 1) 2) = true ∧ inR IntKind.i64 (2 * y + 1 - bitI BinOp.and IntKind.i64 (2 * y + 1) 1) = true ∧ inR IntKind.i64 (Int.tdiv (2 * y + 1 - bitI BinOp.and IntKind.i64
(2 * y + 1) 1) 2) = true ∧ 1 = 1 ∧ iI 0 = 0 ∧ iI 0 = 0 ∧ iI 0 = 0 ∧ 1 = 1 ∧ x = x ∧ y = y ∧ iI 1 = 1 ∧ 1 = 1 ∧ iI 0 = 0 ∧ iI 0 = 0 ∧ iI 0 = 0 ∧ 1 = 1 ∧ 2 * x + 1 = 2 * x + 1 ∧ 2 * y + 1 = 2 * y + 1 ∧
1 = 1 ∧ iI 1 = 1 ∧ iI 0 = 0 ∧ 1 = 1 ∧ Int.tdiv (2 * x + 1 - bitI BinOp.and IntKind.i64 (2 * x + 1) 1) 2 = sh1 x ∧ Int.tdiv (2 * y + 1 - bitI BinOp.and IntKind.i64 (2 * y + 1) 1) 2 = sh1 y ∧ iI 0 = 0 ∧
0 = 0 ∧ 0 = 0 ∧ 0 = 0 ∧ iI 0 = 0 ∧ iI (-1) = -1 ∧ iI 2 = 2 ∧ iI 0 = 0 ∧ iI 0 = 0 ∧ iI (-1) = -1 ∧ iI 2 = 2 ∧ iI 0 = 0 ∧ iI 0 = 0 ∧ iI 1 = 1 ∧ iI 0 = 0 ∧ iI 0 = 0 ∧ iI 3 = 3 ∧ iI 0 = 0 ∧ iI 0 = 0 ∧ iI
2 = 2 ∧ iI 0 = 0 ∧ iI 1 = 1 ∧ iI 0 = 0 ∧ iI 1 = 1 ∧ iI 1 = 1 ∧ iI 1 = 1 ∧ iI 0 = 0 ∧ iI 3 = 3 ∧ iI 0 = 0 ∧ iI 0 = 0 ∧ iI 0 = 0 ∧ iI 0 = 0 ∧ iI 0 = 0 ∧ iI 2 = 2 ∧ iI 2 = 2 ∧ iI 2 = 2 ∧ iI 2 = 2 ∧ iI 0
= 0 ∧ iI 0 = 0 ∧ iI 1 = 1 ∧ iI 2 = 2 ∧ iI 1 = 1 ∧ iI 0 = 0 ∧ iI 1 = 1 ∧ iI 0 = 0 ∧ iI 0 = 0 ∧ iI 0 = 0 ∧ iI 3 = 3 ∧ iI 0 = 0 ∧ iI 0 = 0 ∧ iI 1 = 1 ∧ iI 2 = 2 ∧ iI 2 = 2 ∧ iI 0 = 0 ∧ iI 2 = 2 ∧ iI (-1)
= -1 ∧ iI 0 = 0 ∧ iI 1 = 1 ∧ iI 0 = 0 ∧ iI (-1) = -1 ∧ iI 0 = 0 ∧ iI 1 = 1 ∧ iI 0 = 0 ∧ iI 0 = 0 ∧ iI 2 = 2 ∧ iI 0 = 0 ∧ iI 0 = 0 ∧ iI 0 = 0 ∧ iI 0 = 0 ∧ iI 0 = 0 ∧ iI 0 = 0 ∧ iI 2 = 2 ∧ iI 0 = 0 ∧ (∃
(n : Nat), 0 = (↑n : Int) ∧ n ≤ 4 ∧ 0 = kAft 1 n) ∧ ∀ (b : L132), (∃ (n : Nat), b.i = (↑n : Int) ∧ n ≤ 4 ∧ b.k = kAft 1 n) → ((b.i == 0) = true → (1 = 1 ∧ iI 0 = 0 ∧ iI 0 = 0 ∧ iI 0 = 0 ∧ 1 = 1 ∧ x =
x ∧ y = y ∧ iI 1 = 1 ∧ 1 = 1 ∧ iI 0 = 0 ∧ iI 0 = 0 ∧ iI 0 = 0 ∧ 1 = 1 ∧ 2 * x + 1 = 2 * x + 1 ∧ 2 * y + 1 = 2 * y + 1 ∧ 1 = 1 ∧ iI 1 = 1 ∧ iI 0 = 0 ∧ 1 = 1 ∧ sh1 x = sh1 x ∧ sh1 y = sh1 y ∧ b.k = b.k
∧ 0 = 0 ∧ 0 = 0 ∧ 0 = 0 ∧ iI 0 = 0 ∧ iI (-1) = -1 ∧ iI 2 = 2 ∧ iI 0 = 0 ∧ iI 0 = 0 ∧ iI (-1) = -1 ∧ iI 2 = 2 ∧ iI 0 = 0 ∧ iI 0 = 0 ∧ iI 1 = 1 ∧ iI 0 = 0 ∧ iI 0 = 0 ∧ iI 3 = 3 ∧ iI 0 = 0 ∧ iI 0 = 0 ∧
iI 2 = 2 ∧ iI 0 = 0 ∧ iI 1 = 1 ∧ iI 0 = 0 ∧ iI 1 = 1 ∧ iI 1 = 1 ∧ iI 1 = 1 ∧ iI 0 = 0 ∧ iI 3 = 3 ∧ iI 0 = 0 ∧ iI 0 = 0 ∧ iI 0 = 0 ∧ iI 0 = 0 ∧ iI 0 = 0 ∧ iI 2 = 2 ∧ iI 2 = 2 ∧ iI 2 = 2 ∧ iI 2 = 2 ∧ iI
0 = 0 ∧ iI 0 = 0 ∧ iI 1 = 1 ∧ iI 2 = 2 ∧ iI 1 = 1 ∧ iI 0 = 0 ∧ iI 1 = 1 ∧ iI 0 = 0 ∧ iI 0 = 0 ∧ iI 0 = 0 ∧ iI 3 = 3 ∧ iI 0 = 0 ∧ iI 0 = 0 ∧ iI 1 = 1 ∧ iI 2 = 2 ∧ iI 2 = 2 ∧ iI 0 = 0 ∧ iI 2 = 2 ∧ iI
(-1) = -1 ∧ iI 0 = 0 ∧ iI 1 = 1 ∧ iI 0 = 0 ∧ iI (-1) = -1 ∧ iI 0 = 0 ∧ iI 1 = 1 ∧ iI 0 = 0 ∧ iI 0 = 0 ∧ iI 2 = 2 ∧ iI 0 = 0 ∧ iI 0 = 0 ∧ iI 0 = 0 ∧ iI 0 = 0 ∧ iI 0 = 0 ∧ iI 0 = 0 ∧ iI 2 = 2 ∧ b.i = 0
∧ ltb b.i 4 = true ∧ True ∧ True) ∧ ∀ (b_1 : Unit), True → 1 = 1 ∧ iI 0 = 0 ∧ iI 0 = 0 ∧ iI 0 = 0 ∧ 1 = 1 ∧ x = x ∧ y = y ∧ iI 1 = 1 ∧ 1 = 1 ∧ iI 0 = 0 ∧ iI 0 = 0 ∧ iI 0 = 0 ∧ 1 = 1 ∧ 2 * x + 1 = 2 *
x + 1 ∧ 2 * y + 1 = 2 * y + 1 ∧ 1 = 1 ∧ iI 1 = 1 ∧ iI 0 = 0 ∧ 1 = 1 ∧ sh1 x = sh1 x ∧ sh1 y = sh1 y ∧ b.k = b.k ∧ 0 = 0 ∧ 0 = 0 ∧ 0 = 0 ∧ iI 0 = 0 ∧ iI (-1) = -1 ∧ iI 2 = 2 ∧ iI 0 = 0 ∧ iI 0 = 0 ∧ iI
(-1) = -1 ∧ iI 2 = 2 ∧ iI 0 = 0 ∧ iI 0 = 0 ∧ iI 1 = 1 ∧ iI 0 = 0 ∧ iI 0 = 0 ∧ iI 3 = 3 ∧ iI 0 = 0 ∧ iI 0 = 0 ∧ iI 2 = 2 ∧ iI 0 = 0 ∧ iI 1 = 1 ∧ iI 0 = 0 ∧ iI 1 = 1 ∧ iI 1 = 1 ∧ iI 1 = 1 ∧ iI 0 = 0 ∧
iI 3 = 3 ∧ iI 0 = 0 ∧ iI 0 = 0 ∧ iI 0 = 0 ∧ iI 0 = 0 ∧ iI 0 = 0 ∧ iI 2 = 2 ∧ iI 2 = 2 ∧ iI 2 = 2 ∧ iI 2 = 2 ∧ iI 0 = 0 ∧ iI 0 = 0 ∧ iI 1 = 1 ∧ iI 2 = 2 ∧ iI 1 = 1 ∧ iI 0 = 0 ∧ iI 1 = 1 ∧ iI 0 = 0 ∧ iI
0 = 0 ∧ iI 0 = 0 ∧ iI 3 = 3 ∧ iI 0 = 0 ∧ iI 0 = 0 ∧ iI 1 = 1 ∧ iI 2 = 2 ∧ iI 2 = 2 ∧ iI 0 = 0 ∧ iI 2 = 2 ∧ iI (-1) = -1 ∧ iI 0 = 0 ∧ iI 1 = 1 ∧ iI 0 = 0 ∧ iI (-1) = -1 ∧ iI 0 = 0 ∧ iI 1 = 1 ∧ iI 0 = 0
∧ iI 0 = 0 ∧ iI 2 = 2 ∧ iI 0 = 0 ∧ iI 0 = 0 ∧ iI 0 = 0 ∧ iI 0 = 0 ∧ iI 0 = 0 ∧ iI 0 = 0 ∧ iI 2 = 2 ∧ iI 1 = 1 ∧ (∃ (n : Nat), 1 = (↑n : Int) ∧ n ≤ 4 ∧ b.k = kAft 1 n) ∧ 3 < 4 - Int.toNat b.i ∧ True) ∧
((b.i == 0) = false → ((b.i == 1) = true → (1 = 1 ∧ iI 0 = 0 ∧ iI 0 = 0 ∧ iI 0 = 0 ∧ 1 = 1 ∧ x = x ∧ y = y ∧ iI 1 = 1 ∧ 1 = 1 ∧ iI 0 = 0 ∧ iI 0 = 0 ∧ iI 0 = 0 ∧ 1 = 1 ∧ 2 * x + 1 = 2 * x + 1 ∧ 2 * y +
1 = 2 * y + 1 ∧ 1 = 1 ∧ iI 1 = 1 ∧ iI 0 = 0 ∧ 1 = 1 ∧ sh1 x = sh1 x ∧ sh1 y = sh1 y ∧ b.k = b.k ∧ 0 = 0 ∧ 0 = 0 ∧ 0 = 0 ∧ iI 0 = 0 ∧ iI (-1) = -1 ∧ iI 2 = 2 ∧ iI 0 = 0 ∧ iI 0 = 0 ∧ iI (-1) = -1 ∧ iI 2
= 2 ∧ iI 0 = 0 ∧ iI 0 = 0 ∧ iI 1 = 1 ∧ iI 0 = 0 ∧ iI 0 = 0 ∧ iI 3 = 3 ∧ iI 0 = 0 ∧ iI 0 = 0 ∧ iI 2 = 2 ∧ iI 0 = 0 ∧ iI 1 = 1 ∧ iI 0 = 0 ∧ iI 1 = 1 ∧ iI 1 = 1 ∧ iI 1 = 1 ∧ iI 0 = 0 ∧ iI 3 = 3 ∧ iI 0 =
0 ∧ iI 0 = 0 ∧ iI 0 = 0 ∧ iI 0 = 0 ∧ iI 0 = 0 ∧ iI 2 = 2 ∧ iI 2 = 2 ∧ iI 2 = 2 ∧ iI 2 = 2 ∧ iI 0 = 0 ∧ iI 0 = 0 ∧ iI 1 = 1 ∧ iI 2 = 2 ∧ iI 1 = 1 ∧ iI 0 = 0 ∧ iI 1 = 1 ∧ iI 0 = 0 ∧ iI 0 = 0 ∧ iI 0 = 0
∧ iI 3 = 3 ∧ iI 0 = 0 ∧ iI 0 = 0 ∧ iI 1 = 1 ∧ iI 2 = 2 ∧ iI 2 = 2 ∧ iI 0 = 0 ∧ iI 2 = 2 ∧ iI (-1) = -1 ∧ iI 0 = 0 ∧ iI 1 = 1 ∧ iI 0 = 0 ∧ iI (-1) = -1 ∧ iI 0 = 0 ∧ iI 1 = 1 ∧ iI 0 = 0 ∧ iI 0 = 0 ∧ iI
2 = 2 ∧ iI 0 = 0 ∧ iI 0 = 0 ∧ iI 0 = 0 ∧ iI 0 = 0 ∧ iI 0 = 0 ∧ iI 0 = 0 ∧ iI 2 = 2 ∧ b.i = 1 ∧ ltb b.i 4 = true ∧ True ∧ True) ∧ ∀ (b_1 : Unit), True → 1 = 1 ∧ iI 0 = 0 ∧ iI 0 = 0 ∧ iI 0 = 0 ∧ 1 = 1 ∧
x = x ∧ y = y ∧ iI 1 = 1 ∧ 1 = 1 ∧ iI 0 = 0 ∧ iI 0 = 0 ∧ iI 0 = 0 ∧ 1 = 1 ∧ 2 * x + 1 = 2 * x + 1 ∧ 2 * y + 1 = 2 * y + 1 ∧ 1 = 1 ∧ iI 1 = 1 ∧ iI 0 = 0 ∧ 1 = 1 ∧ sh1 x = sh1 x ∧ sh1 y = sh1 y ∧ iI 1 =
1 ∧ 0 = 0 ∧ 0 = 0 ∧ 0 = 0 ∧ iI 0 = 0 ∧ iI (-1) = -1 ∧ iI 2 = 2 ∧ iI 0 = 0 ∧ iI 0 = 0 ∧ iI (-1) = -1 ∧ iI 2 = 2 ∧ iI 0 = 0 ∧ iI 0 = 0 ∧ iI 1 = 1 ∧ iI 0 = 0 ∧ iI 0 = 0 ∧ iI 3 = 3 ∧ iI 0 = 0 ∧ iI 0 = 0 ∧
iI 2 = 2 ∧ iI 0 = 0 ∧ iI 1 = 1 ∧ iI 0 = 0 ∧ iI 1 = 1 ∧ iI 1 = 1 ∧ iI 1 = 1 ∧ iI 0 = 0 ∧ iI 3 = 3 ∧ iI 0 = 0 ∧ iI 0 = 0 ∧ iI 0 = 0 ∧ iI 0 = 0 ∧ iI 0 = 0 ∧ iI 2 = 2 ∧ iI 2 = 2 ∧ iI 2 = 2 ∧ iI 2 = 2 ∧ iI
0 = 0 ∧ iI 0 = 0 ∧ iI 1 = 1 ∧ iI 2 = 2 ∧ iI 1 = 1 ∧ iI 0 = 0 ∧ iI 1 = 1 ∧ iI 0 = 0 ∧ iI 0 = 0 ∧ iI 0 = 0 ∧ iI 3 = 3 ∧ iI 0 = 0 ∧ iI 0 = 0 ∧ iI 1 = 1 ∧ iI 2 = 2 ∧ iI 2 = 2 ∧ iI 0 = 0 ∧ iI 2 = 2 ∧ iI
(-1) = -1 ∧ iI 0 = 0 ∧ iI 1 = 1 ∧ iI 0 = 0 ∧ iI (-1) = -1 ∧ iI 0 = 0 ∧ iI 1 = 1 ∧ iI 0 = 0 ∧ iI 0 = 0 ∧ iI 2 = 2 ∧ iI 0 = 0 ∧ iI 0 = 0 ∧ iI 0 = 0 ∧ iI 0 = 0 ∧ iI 0 = 0 ∧ iI 0 = 0 ∧ iI 2 = 2 ∧ iI 2 = 2
∧ (∃ (n : Nat), 2 = (↑n : Int) ∧ n ≤ 4 ∧ 1 = kAft 1 n) ∧ 2 < 4 - Int.toNat b.i ∧ True) ∧ ((b.i == 1) = false → ((b.i == 2) = true → (1 = 1 ∧ iI 0 = 0 ∧ iI 0 = 0 ∧ iI 0 = 0 ∧ 1 = 1 ∧ x = x ∧ y = y ∧ iI
1 = 1 ∧ 1 = 1 ∧ iI 0 = 0 ∧ iI 0 = 0 ∧ iI 0 = 0 ∧ 1 = 1 ∧ 2 * x + 1 = 2 * x + 1 ∧ 2 * y + 1 = 2 * y + 1 ∧ 1 = 1 ∧ iI 1 = 1 ∧ iI 0 = 0 ∧ 1 = 1 ∧ sh1 x = sh1 x ∧ sh1 y = sh1 y ∧ b.k = b.k ∧ 0 = 0 ∧ 0 = 0
∧ 0 = 0 ∧ iI 0 = 0 ∧ iI (-1) = -1 ∧ iI 2 = 2 ∧ iI 0 = 0 ∧ iI 0 = 0 ∧ iI (-1) = -1 ∧ iI 2 = 2 ∧ iI 0 = 0 ∧ iI 0 = 0 ∧ iI 1 = 1 ∧ iI 0 = 0 ∧ iI 0 = 0 ∧ iI 3 = 3 ∧ iI 0 = 0 ∧ iI 0 = 0 ∧ iI 2 = 2 ∧ iI 0 =
0 ∧ iI 1 = 1 ∧ iI 0 = 0 ∧ iI 1 = 1 ∧ iI 1 = 1 ∧ iI 1 = 1 ∧ iI 0 = 0 ∧ iI 3 = 3 ∧ iI 0 = 0 ∧ iI 0 = 0 ∧ iI 0 = 0 ∧ iI 0 = 0 ∧ iI 0 = 0 ∧ iI 2 = 2 ∧ iI 2 = 2 ∧ iI 2 = 2 ∧ iI 2 = 2 ∧ iI 0 = 0 ∧ iI 0 = 0
∧ iI 1 = 1 ∧ iI 2 = 2 ∧ iI 1 = 1 ∧ iI 0 = 0 ∧ iI 1 = 1 ∧ iI 0 = 0 ∧ iI 0 = 0 ∧ iI 0 = 0 ∧ iI 3 = 3 ∧ iI 0 = 0 ∧ iI 0 = 0 ∧ iI 1 = 1 ∧ iI 2 = 2 ∧ iI 2 = 2 ∧ iI 0 = 0 ∧ iI 2 = 2 ∧ iI (-1) = -1 ∧ iI 0 =
0 ∧ iI 1 = 1 ∧ iI 0 = 0 ∧ iI (-1) = -1 ∧ iI 0 = 0 ∧ iI 1 = 1 ∧ iI 0 = 0 ∧ iI 0 = 0 ∧ iI 2 = 2 ∧ iI 0 = 0 ∧ iI 0 = 0 ∧ iI 0 = 0 ∧ iI 0 = 0 ∧ iI 0 = 0 ∧ iI 0 = 0 ∧ iI 2 = 2 ∧ b.i = 2 ∧ ltb b.i 4 = true
∧ True ∧ True) ∧ ∀ (b_1 : Unit), True → 1 = 1 ∧ iI 0 = 0 ∧ iI 0 = 0 ∧ iI 0 = 0 ∧ 1 = 1 ∧ x = x ∧ y = y ∧ iI 1 = 1 ∧ 1 = 1 ∧ iI 0 = 0 ∧ iI 0 = 0 ∧ iI 0 = 0 ∧ 1 = 1 ∧ 2 * x + 1 = 2 * x + 1 ∧ 2 * y + 1 =
2 * y + 1 ∧ 1 = 1 ∧ iI 1 = 1 ∧ iI 0 = 0 ∧ 1 = 1 ∧ sh1 x = sh1 x ∧ sh1 y = sh1 y ∧ b.k = b.k ∧ 0 = 0 ∧ 0 = 0 ∧ 0 = 0 ∧ iI 0 = 0 ∧ iI (-1) = -1 ∧ iI 2 = 2 ∧ iI 0 = 0 ∧ iI 0 = 0 ∧ iI (-1) = -1 ∧ iI 2 = 2
∧ iI 0 = 0 ∧ iI 0 = 0 ∧ iI 1 = 1 ∧ iI 0 = 0 ∧ iI 0 = 0 ∧ iI 3 = 3 ∧ iI 0 = 0 ∧ iI 0 = 0 ∧ iI 2 = 2 ∧ iI 0 = 0 ∧ iI 1 = 1 ∧ iI 0 = 0 ∧ iI 1 = 1 ∧ iI 1 = 1 ∧ iI 1 = 1 ∧ iI 0 = 0 ∧ iI 3 = 3 ∧ iI 0 = 0 ∧
iI 0 = 0 ∧ iI 0 = 0 ∧ iI 0 = 0 ∧ iI 0 = 0 ∧ iI 2 = 2 ∧ iI 2 = 2 ∧ iI 2 = 2 ∧ iI 2 = 2 ∧ iI 0 = 0 ∧ iI 0 = 0 ∧ iI 1 = 1 ∧ iI 2 = 2 ∧ iI 1 = 1 ∧ iI 0 = 0 ∧ iI 1 = 1 ∧ iI 0 = 0 ∧ iI 0 = 0 ∧ iI 0 = 0 ∧ iI
3 = 3 ∧ iI 0 = 0 ∧ iI 0 = 0 ∧ iI 1 = 1 ∧ iI 2 = 2 ∧ iI 2 = 2 ∧ iI 0 = 0 ∧ iI 2 = 2 ∧ iI (-1) = -1 ∧ iI 0 = 0 ∧ iI 1 = 1 ∧ iI 0 = 0 ∧ iI (-1) = -1 ∧ iI 0 = 0 ∧ iI 1 = 1 ∧ iI 0 = 0 ∧ iI 0 = 0 ∧ iI 2 = 2
∧ iI 0 = 0 ∧ iI 0 = 0 ∧ iI 0 = 0 ∧ iI 0 = 0 ∧ iI 0 = 0 ∧ iI 0 = 0 ∧ iI 2 = 2 ∧ iI 3 = 3 ∧ (∃ (n : Nat), 3 = (↑n : Int) ∧ n ≤ 4 ∧ b.k = kAft 1 n) ∧ 1 < 4 - Int.toNat b.i ∧ True) ∧ ((b.i == 2) = false →
((b.i == 3) = true → (1 = 1 ∧ iI 0 = 0 ∧ iI 0 = 0 ∧ iI 0 = 0 ∧ 1 = 1 ∧ x = x ∧ y = y ∧ iI 1 = 1 ∧ 1 = 1 ∧ iI 0 = 0 ∧ iI 0 = 0 ∧ iI 0 = 0 ∧ 1 = 1 ∧ 2 * x + 1 = 2 * x + 1 ∧ 2 * y + 1 = 2 * y + 1 ∧ 1 = 1
∧ iI 1 = 1 ∧ iI 0 = 0 ∧ 1 = 1 ∧ sh1 x = sh1 x ∧ sh1 y = sh1 y ∧ b.k = b.k ∧ 0 = 0 ∧ 0 = 0 ∧ 0 = 0 ∧ iI 0 = 0 ∧ iI (-1) = -1 ∧ iI 2 = 2 ∧ iI 0 = 0 ∧ iI 0 = 0 ∧ iI (-1) = -1 ∧ iI 2 = 2 ∧ iI 0 = 0 ∧ iI 0
= 0 ∧ iI 1 = 1 ∧ iI 0 = 0 ∧ iI 0 = 0 ∧ iI 3 = 3 ∧ iI 0 = 0 ∧ iI 0 = 0 ∧ iI 2 = 2 ∧ iI 0 = 0 ∧ iI 1 = 1 ∧ iI 0 = 0 ∧ iI 1 = 1 ∧ iI 1 = 1 ∧ iI 1 = 1 ∧ iI 0 = 0 ∧ iI 3 = 3 ∧ iI 0 = 0 ∧ iI 0 = 0 ∧ iI 0 =
0 ∧ iI 0 = 0 ∧ iI 0 = 0 ∧ iI 2 = 2 ∧ iI 2 = 2 ∧ iI 2 = 2 ∧ iI 2 = 2 ∧ iI 0 = 0 ∧ iI 0 = 0 ∧ iI 1 = 1 ∧ iI 2 = 2 ∧ iI 1 = 1 ∧ iI 0 = 0 ∧ iI 1 = 1 ∧ iI 0 = 0 ∧ iI 0 = 0 ∧ iI 0 = 0 ∧ iI 3 = 3 ∧ iI 0 = 0
∧ iI 0 = 0 ∧ iI 1 = 1 ∧ iI 2 = 2 ∧ iI 2 = 2 ∧ iI 0 = 0 ∧ iI 2 = 2 ∧ iI (-1) = -1 ∧ iI 0 = 0 ∧ iI 1 = 1 ∧ iI 0 = 0 ∧ iI (-1) = -1 ∧ iI 0 = 0 ∧ iI 1 = 1 ∧ iI 0 = 0 ∧ iI 0 = 0 ∧ iI 2 = 2 ∧ iI 0 = 0 ∧ iI
0 = 0 ∧ iI 0 = 0 ∧ iI 0 = 0 ∧ iI 0 = 0 ∧ iI 0 = 0 ∧ iI 2 = 2 ∧ b.i = 3 ∧ ltb b.i 4 = true ∧ True ∧ True) ∧ ∀ (b_1 : Unit), True → 1 = 1 ∧ iI 0 = 0 ∧ iI 0 = 0 ∧ iI 0 = 0 ∧ 1 = 1 ∧ x = x ∧ y = y ∧ iI 1
= 1 ∧ 1 = 1 ∧ iI 0 = 0 ∧ iI 0 = 0 ∧ iI 0 = 0 ∧ 1 = 1 ∧ 2 * x + 1 = 2 * x + 1 ∧ 2 * y + 1 = 2 * y + 1 ∧ 1 = 1 ∧ iI 1 = 1 ∧ iI 0 = 0 ∧ 1 = 1 ∧ sh1 x = sh1 x ∧ sh1 y = sh1 y ∧ b.k = b.k ∧ 0 = 0 ∧ 0 = 0 ∧
0 = 0 ∧ iI 0 = 0 ∧ iI (-1) = -1 ∧ iI 2 = 2 ∧ iI 0 = 0 ∧ iI 0 = 0 ∧ iI (-1) = -1 ∧ iI 2 = 2 ∧ iI 0 = 0 ∧ iI 0 = 0 ∧ iI 1 = 1 ∧ iI 0 = 0 ∧ iI 0 = 0 ∧ iI 3 = 3 ∧ iI 0 = 0 ∧ iI 0 = 0 ∧ iI 2 = 2 ∧ iI 0 = 0
∧ iI 1 = 1 ∧ iI 0 = 0 ∧ iI 1 = 1 ∧ iI 1 = 1 ∧ iI 1 = 1 ∧ iI 0 = 0 ∧ iI 3 = 3 ∧ iI 0 = 0 ∧ iI 0 = 0 ∧ iI 0 = 0 ∧ iI 0 = 0 ∧ iI 0 = 0 ∧ iI 2 = 2 ∧ iI 2 = 2 ∧ iI 2 = 2 ∧ iI 2 = 2 ∧ iI 0 = 0 ∧ iI 0 = 0 ∧
iI 1 = 1 ∧ iI 2 = 2 ∧ iI 1 = 1 ∧ iI 0 = 0 ∧ iI 1 = 1 ∧ iI 0 = 0 ∧ iI 0 = 0 ∧ iI 0 = 0 ∧ iI 3 = 3 ∧ iI 0 = 0 ∧ iI 0 = 0 ∧ iI 1 = 1 ∧ iI 2 = 2 ∧ iI 2 = 2 ∧ iI 0 = 0 ∧ iI 2 = 2 ∧ iI (-1) = -1 ∧ iI 0 = 0
∧ iI 1 = 1 ∧ iI 0 = 0 ∧ iI (-1) = -1 ∧ iI 0 = 0 ∧ iI 1 = 1 ∧ iI 0 = 0 ∧ iI 0 = 0 ∧ iI 2 = 2 ∧ iI 0 = 0 ∧ iI 0 = 0 ∧ iI 0 = 0 ∧ iI 0 = 0 ∧ iI 0 = 0 ∧ iI 0 = 0 ∧ iI 2 = 2 ∧ iI 4 = 4 ∧ (∃ (n : Nat), 4 =
(↑n : Int) ∧ n ≤ 4 ∧ b.k = kAft 1 n) ∧ 0 < 4 - Int.toNat b.i ∧ True) ∧ ((b.i == 3) = false → (1 = 1 ∧ iI 0 = 0 ∧ iI 0 = 0 ∧ iI 0 = 0 ∧ 1 = 1 ∧ x = x ∧ y = y ∧ iI 1 = 1 ∧ 1 = 1 ∧ iI 0 = 0 ∧ iI 0 = 0 ∧
iI 0 = 0 ∧ 1 = 1 ∧ 2 * x + 1 = 2 * x + 1 ∧ 2 * y + 1 = 2 * y + 1 ∧ 1 = 1 ∧ iI 1 = 1 ∧ iI 0 = 0 ∧ 1 = 1 ∧ sh1 x = sh1 x ∧ sh1 y = sh1 y ∧ b.k = b.k ∧ 0 = 0 ∧ 0 = 0 ∧ 0 = 0 ∧ iI 0 = 0 ∧ iI (-1) = -1 ∧
iI 2 = 2 ∧ iI 0 = 0 ∧ iI 0 = 0 ∧ iI (-1) = -1 ∧ iI 2 = 2 ∧ iI 0 = 0 ∧ iI 0 = 0 ∧ iI 1 = 1 ∧ iI 0 = 0 ∧ iI 0 = 0 ∧ iI 3 = 3 ∧ iI 0 = 0 ∧ iI 0 = 0 ∧ iI 2 = 2 ∧ iI 0 = 0 ∧ iI 1 = 1 ∧ iI 0 = 0 ∧ iI 1 = 1
∧ iI 1 = 1 ∧ iI 1 = 1 ∧ iI 0 = 0 ∧ iI 3 = 3 ∧ iI 0 = 0 ∧ iI 0 = 0 ∧ iI 0 = 0 ∧ iI 0 = 0 ∧ iI 0 = 0 ∧ iI 2 = 2 ∧ iI 2 = 2 ∧ iI 2 = 2 ∧ iI 2 = 2 ∧ iI 0 = 0 ∧ iI 0 = 0 ∧ iI 1 = 1 ∧ iI 2 = 2 ∧ iI 1 = 1 ∧
iI 0 = 0 ∧ iI 1 = 1 ∧ iI 0 = 0 ∧ iI 0 = 0 ∧ iI 0 = 0 ∧ iI 3 = 3 ∧ iI 0 = 0 ∧ iI 0 = 0 ∧ iI 1 = 1 ∧ iI 2 = 2 ∧ iI 2 = 2 ∧ iI 0 = 0 ∧ iI 2 = 2 ∧ iI (-1) = -1 ∧ iI 0 = 0 ∧ iI 1 = 1 ∧ iI 0 = 0 ∧ iI (-1) =
-1 ∧ iI 0 = 0 ∧ iI 1 = 1 ∧ iI 0 = 0 ∧ iI 0 = 0 ∧ iI 2 = 2 ∧ iI 0 = 0 ∧ iI 0 = 0 ∧ iI 0 = 0 ∧ iI 0 = 0 ∧ iI 0 = 0 ∧ iI 0 = 0 ∧ iI 2 = 2 ∧ b.i = 4 ∧ ltb b.i 4 = false ∧ True ∧ True) ∧ ∀ (b_1 : Unit),
True → sh1 x = x ∧ sh1 y = y ∧ b.k = 1 ∧ True))))) := by kernel_rfl

theorem ob_o132_2 (x y : Int) : fnP (TN132) G 10000 fe132 (.r [] 0 (.r [] 253 (.r [] 59 (.r [] 3 (.r [] 59 (.r [] 1651 (.r [] 1 (.lp (l132 2 (sh1 x) (sh1 y)) [] [] (fun b => (.br (b.i == 0) (.jn (jC 0 true) [] [] (.r [] 0 .nil) (fun b_1 => (.lit (.r [] 15 (.r [] 3 (.lit (.r [] 1 .nil))))))) (.br (b.i == 1) (.jn (jC 1 true) [] [] (.r [] 0 .nil) (fun b_1 => (.lit (.r [] 15 (.r [] 3 (.lit (.r [] 1 .nil))))))) (.br (b.i == 2) (.jn (jC 2 true) [] [] (.r [] 0 .nil) (fun b_1 => (.lit (.r [] 15 (.r [] 3 (.lit (.r [] 3 (.r [] 1 .nil)))))))) (.br (b.i == 3) (.jn (jC 3 true) [] [] (.r [] 0 .nil) (fun b_1 => (.lit (.r [] 15 (.r [] 3 (.lit (.r [] 1 .nil))))))) (.jn (jC 4 false) [] [] (.r [] 0 .nil) (fun b_1 => (.lit (.r [] 3 .nil))))))))))))))))) ([.agg [.int .u8 0, .int .i64 0, .int .i64 0], .agg [.int .i64 x, .int .i64 y, .int .u8 2]]) ([.agg [.int .i64 x, .int .i64 y, .int .u8 2]]) ([]) = (
smP x y ∧ (id3 0 0 0 ∧ smP (2 * x + 1) (2 * y + 1)) ∧ (id3 0 0 0 ∧ smP 0 1) ∧ inR IntKind.i64 (2 * x + 1 - bitI BinOp.and IntKind.i64 (2 * x + 1) 1) = true ∧ inR IntKind.i64 (Int.tdiv (2 * x + 1 -
bitI BinOp.and IntKind.i64 (2 * x + 1) 1) 2) = true ∧ inR IntKind.i64 (2 * y + 1 - bitI BinOp.and IntKind.i64 (2 * y + 1) 1) = true ∧ inR IntKind.i64 (Int.tdiv (2 * y + 1 - bitI BinOp.and IntKind.i64
(2 * y + 1) 1) 2) = true ∧ 1 = 1 ∧ iI 0 = 0 ∧ iI 0 = 0 ∧ iI 0 = 0 ∧ 1 = 1 ∧ x = x ∧ y = y ∧ iI 2 = 2 ∧ 1 = 1 ∧ iI 0 = 0 ∧ iI 0 = 0 ∧ iI 0 = 0 ∧ 1 = 1 ∧ 2 * x + 1 = 2 * x + 1 ∧ 2 * y + 1 = 2 * y + 1 ∧
1 = 1 ∧ iI 0 = 0 ∧ iI 1 = 1 ∧ 1 = 1 ∧ Int.tdiv (2 * x + 1 - bitI BinOp.and IntKind.i64 (2 * x + 1) 1) 2 = sh1 x ∧ Int.tdiv (2 * y + 1 - bitI BinOp.and IntKind.i64 (2 * y + 1) 1) 2 = sh1 y ∧ iI 0 = 0 ∧
0 = 0 ∧ 0 = 0 ∧ 0 = 0 ∧ iI 0 = 0 ∧ iI (-1) = -1 ∧ iI 2 = 2 ∧ iI 0 = 0 ∧ iI 0 = 0 ∧ iI (-1) = -1 ∧ iI 2 = 2 ∧ iI 0 = 0 ∧ iI 0 = 0 ∧ iI 1 = 1 ∧ iI 0 = 0 ∧ iI 0 = 0 ∧ iI 3 = 3 ∧ iI 0 = 0 ∧ iI 0 = 0 ∧ iI
2 = 2 ∧ iI 0 = 0 ∧ iI 1 = 1 ∧ iI 0 = 0 ∧ iI 1 = 1 ∧ iI 1 = 1 ∧ iI 1 = 1 ∧ iI 0 = 0 ∧ iI 3 = 3 ∧ iI 0 = 0 ∧ iI 0 = 0 ∧ iI 0 = 0 ∧ iI 0 = 0 ∧ iI 0 = 0 ∧ iI 2 = 2 ∧ iI 2 = 2 ∧ iI 2 = 2 ∧ iI 2 = 2 ∧ iI 0
= 0 ∧ iI 0 = 0 ∧ iI 1 = 1 ∧ iI 2 = 2 ∧ iI 1 = 1 ∧ iI 0 = 0 ∧ iI 1 = 1 ∧ iI 0 = 0 ∧ iI 0 = 0 ∧ iI 0 = 0 ∧ iI 3 = 3 ∧ iI 0 = 0 ∧ iI 0 = 0 ∧ iI 1 = 1 ∧ iI 2 = 2 ∧ iI 2 = 2 ∧ iI 0 = 0 ∧ iI 2 = 2 ∧ iI (-1)
= -1 ∧ iI 0 = 0 ∧ iI 1 = 1 ∧ iI 0 = 0 ∧ iI (-1) = -1 ∧ iI 0 = 0 ∧ iI 1 = 1 ∧ iI 0 = 0 ∧ iI 0 = 0 ∧ iI 2 = 2 ∧ iI 0 = 0 ∧ iI 0 = 0 ∧ iI 0 = 0 ∧ iI 0 = 0 ∧ iI 0 = 0 ∧ iI 0 = 0 ∧ iI 2 = 2 ∧ iI 0 = 0 ∧ (∃
(n : Nat), 0 = (↑n : Int) ∧ n ≤ 4 ∧ 0 = kAft 2 n) ∧ ∀ (b : L132), (∃ (n : Nat), b.i = (↑n : Int) ∧ n ≤ 4 ∧ b.k = kAft 2 n) → ((b.i == 0) = true → (1 = 1 ∧ iI 0 = 0 ∧ iI 0 = 0 ∧ iI 0 = 0 ∧ 1 = 1 ∧ x =
x ∧ y = y ∧ iI 2 = 2 ∧ 1 = 1 ∧ iI 0 = 0 ∧ iI 0 = 0 ∧ iI 0 = 0 ∧ 1 = 1 ∧ 2 * x + 1 = 2 * x + 1 ∧ 2 * y + 1 = 2 * y + 1 ∧ 1 = 1 ∧ iI 0 = 0 ∧ iI 1 = 1 ∧ 1 = 1 ∧ sh1 x = sh1 x ∧ sh1 y = sh1 y ∧ b.k = b.k
∧ 0 = 0 ∧ 0 = 0 ∧ 0 = 0 ∧ iI 0 = 0 ∧ iI (-1) = -1 ∧ iI 2 = 2 ∧ iI 0 = 0 ∧ iI 0 = 0 ∧ iI (-1) = -1 ∧ iI 2 = 2 ∧ iI 0 = 0 ∧ iI 0 = 0 ∧ iI 1 = 1 ∧ iI 0 = 0 ∧ iI 0 = 0 ∧ iI 3 = 3 ∧ iI 0 = 0 ∧ iI 0 = 0 ∧
iI 2 = 2 ∧ iI 0 = 0 ∧ iI 1 = 1 ∧ iI 0 = 0 ∧ iI 1 = 1 ∧ iI 1 = 1 ∧ iI 1 = 1 ∧ iI 0 = 0 ∧ iI 3 = 3 ∧ iI 0 = 0 ∧ iI 0 = 0 ∧ iI 0 = 0 ∧ iI 0 = 0 ∧ iI 0 = 0 ∧ iI 2 = 2 ∧ iI 2 = 2 ∧ iI 2 = 2 ∧ iI 2 = 2 ∧ iI
0 = 0 ∧ iI 0 = 0 ∧ iI 1 = 1 ∧ iI 2 = 2 ∧ iI 1 = 1 ∧ iI 0 = 0 ∧ iI 1 = 1 ∧ iI 0 = 0 ∧ iI 0 = 0 ∧ iI 0 = 0 ∧ iI 3 = 3 ∧ iI 0 = 0 ∧ iI 0 = 0 ∧ iI 1 = 1 ∧ iI 2 = 2 ∧ iI 2 = 2 ∧ iI 0 = 0 ∧ iI 2 = 2 ∧ iI
(-1) = -1 ∧ iI 0 = 0 ∧ iI 1 = 1 ∧ iI 0 = 0 ∧ iI (-1) = -1 ∧ iI 0 = 0 ∧ iI 1 = 1 ∧ iI 0 = 0 ∧ iI 0 = 0 ∧ iI 2 = 2 ∧ iI 0 = 0 ∧ iI 0 = 0 ∧ iI 0 = 0 ∧ iI 0 = 0 ∧ iI 0 = 0 ∧ iI 0 = 0 ∧ iI 2 = 2 ∧ b.i = 0
∧ ltb b.i 4 = true ∧ True ∧ True) ∧ ∀ (b_1 : Unit), True → 1 = 1 ∧ iI 0 = 0 ∧ iI 0 = 0 ∧ iI 0 = 0 ∧ 1 = 1 ∧ x = x ∧ y = y ∧ iI 2 = 2 ∧ 1 = 1 ∧ iI 0 = 0 ∧ iI 0 = 0 ∧ iI 0 = 0 ∧ 1 = 1 ∧ 2 * x + 1 = 2 *
x + 1 ∧ 2 * y + 1 = 2 * y + 1 ∧ 1 = 1 ∧ iI 0 = 0 ∧ iI 1 = 1 ∧ 1 = 1 ∧ sh1 x = sh1 x ∧ sh1 y = sh1 y ∧ b.k = b.k ∧ 0 = 0 ∧ 0 = 0 ∧ 0 = 0 ∧ iI 0 = 0 ∧ iI (-1) = -1 ∧ iI 2 = 2 ∧ iI 0 = 0 ∧ iI 0 = 0 ∧ iI
(-1) = -1 ∧ iI 2 = 2 ∧ iI 0 = 0 ∧ iI 0 = 0 ∧ iI 1 = 1 ∧ iI 0 = 0 ∧ iI 0 = 0 ∧ iI 3 = 3 ∧ iI 0 = 0 ∧ iI 0 = 0 ∧ iI 2 = 2 ∧ iI 0 = 0 ∧ iI 1 = 1 ∧ iI 0 = 0 ∧ iI 1 = 1 ∧ iI 1 = 1 ∧ iI 1 = 1 ∧ iI 0 = 0 ∧
iI 3 = 3 ∧ iI 0 = 0 ∧ iI 0 = 0 ∧ iI 0 = 0 ∧ iI 0 = 0 ∧ iI 0 = 0 ∧ iI 2 = 2 ∧ iI 2 = 2 ∧ iI 2 = 2 ∧ iI 2 = 2 ∧ iI 0 = 0 ∧ iI 0 = 0 ∧ iI 1 = 1 ∧ iI 2 = 2 ∧ iI 1 = 1 ∧ iI 0 = 0 ∧ iI 1 = 1 ∧ iI 0 = 0 ∧ iI
0 = 0 ∧ iI 0 = 0 ∧ iI 3 = 3 ∧ iI 0 = 0 ∧ iI 0 = 0 ∧ iI 1 = 1 ∧ iI 2 = 2 ∧ iI 2 = 2 ∧ iI 0 = 0 ∧ iI 2 = 2 ∧ iI (-1) = -1 ∧ iI 0 = 0 ∧ iI 1 = 1 ∧ iI 0 = 0 ∧ iI (-1) = -1 ∧ iI 0 = 0 ∧ iI 1 = 1 ∧ iI 0 = 0
∧ iI 0 = 0 ∧ iI 2 = 2 ∧ iI 0 = 0 ∧ iI 0 = 0 ∧ iI 0 = 0 ∧ iI 0 = 0 ∧ iI 0 = 0 ∧ iI 0 = 0 ∧ iI 2 = 2 ∧ iI 1 = 1 ∧ (∃ (n : Nat), 1 = (↑n : Int) ∧ n ≤ 4 ∧ b.k = kAft 2 n) ∧ 3 < 4 - Int.toNat b.i ∧ True) ∧
((b.i == 0) = false → ((b.i == 1) = true → (1 = 1 ∧ iI 0 = 0 ∧ iI 0 = 0 ∧ iI 0 = 0 ∧ 1 = 1 ∧ x = x ∧ y = y ∧ iI 2 = 2 ∧ 1 = 1 ∧ iI 0 = 0 ∧ iI 0 = 0 ∧ iI 0 = 0 ∧ 1 = 1 ∧ 2 * x + 1 = 2 * x + 1 ∧ 2 * y +
1 = 2 * y + 1 ∧ 1 = 1 ∧ iI 0 = 0 ∧ iI 1 = 1 ∧ 1 = 1 ∧ sh1 x = sh1 x ∧ sh1 y = sh1 y ∧ b.k = b.k ∧ 0 = 0 ∧ 0 = 0 ∧ 0 = 0 ∧ iI 0 = 0 ∧ iI (-1) = -1 ∧ iI 2 = 2 ∧ iI 0 = 0 ∧ iI 0 = 0 ∧ iI (-1) = -1 ∧ iI 2
= 2 ∧ iI 0 = 0 ∧ iI 0 = 0 ∧ iI 1 = 1 ∧ iI 0 = 0 ∧ iI 0 = 0 ∧ iI 3 = 3 ∧ iI 0 = 0 ∧ iI 0 = 0 ∧ iI 2 = 2 ∧ iI 0 = 0 ∧ iI 1 = 1 ∧ iI 0 = 0 ∧ iI 1 = 1 ∧ iI 1 = 1 ∧ iI 1 = 1 ∧ iI 0 = 0 ∧ iI 3 = 3 ∧ iI 0 =
0 ∧ iI 0 = 0 ∧ iI 0 = 0 ∧ iI 0 = 0 ∧ iI 0 = 0 ∧ iI 2 = 2 ∧ iI 2 = 2 ∧ iI 2 = 2 ∧ iI 2 = 2 ∧ iI 0 = 0 ∧ iI 0 = 0 ∧ iI 1 = 1 ∧ iI 2 = 2 ∧ iI 1 = 1 ∧ iI 0 = 0 ∧ iI 1 = 1 ∧ iI 0 = 0 ∧ iI 0 = 0 ∧ iI 0 = 0
∧ iI 3 = 3 ∧ iI 0 = 0 ∧ iI 0 = 0 ∧ iI 1 = 1 ∧ iI 2 = 2 ∧ iI 2 = 2 ∧ iI 0 = 0 ∧ iI 2 = 2 ∧ iI (-1) = -1 ∧ iI 0 = 0 ∧ iI 1 = 1 ∧ iI 0 = 0 ∧ iI (-1) = -1 ∧ iI 0 = 0 ∧ iI 1 = 1 ∧ iI 0 = 0 ∧ iI 0 = 0 ∧ iI
2 = 2 ∧ iI 0 = 0 ∧ iI 0 = 0 ∧ iI 0 = 0 ∧ iI 0 = 0 ∧ iI 0 = 0 ∧ iI 0 = 0 ∧ iI 2 = 2 ∧ b.i = 1 ∧ ltb b.i 4 = true ∧ True ∧ True) ∧ ∀ (b_1 : Unit), True → 1 = 1 ∧ iI 0 = 0 ∧ iI 0 = 0 ∧ iI 0 = 0 ∧ 1 = 1 ∧
x = x ∧ y = y ∧ iI 2 = 2 ∧ 1 = 1 ∧ iI 0 = 0 ∧ iI 0 = 0 ∧ iI 0 = 0 ∧ 1 = 1 ∧ 2 * x + 1 = 2 * x + 1 ∧ 2 * y + 1 = 2 * y + 1 ∧ 1 = 1 ∧ iI 0 = 0 ∧ iI 1 = 1 ∧ 1 = 1 ∧ sh1 x = sh1 x ∧ sh1 y = sh1 y ∧ b.k =
b.k ∧ 0 = 0 ∧ 0 = 0 ∧ 0 = 0 ∧ iI 0 = 0 ∧ iI (-1) = -1 ∧ iI 2 = 2 ∧ iI 0 = 0 ∧ iI 0 = 0 ∧ iI (-1) = -1 ∧ iI 2 = 2 ∧ iI 0 = 0 ∧ iI 0 = 0 ∧ iI 1 = 1 ∧ iI 0 = 0 ∧ iI 0 = 0 ∧ iI 3 = 3 ∧ iI 0 = 0 ∧ iI 0 = 0
∧ iI 2 = 2 ∧ iI 0 = 0 ∧ iI 1 = 1 ∧ iI 0 = 0 ∧ iI 1 = 1 ∧ iI 1 = 1 ∧ iI 1 = 1 ∧ iI 0 = 0 ∧ iI 3 = 3 ∧ iI 0 = 0 ∧ iI 0 = 0 ∧ iI 0 = 0 ∧ iI 0 = 0 ∧ iI 0 = 0 ∧ iI 2 = 2 ∧ iI 2 = 2 ∧ iI 2 = 2 ∧ iI 2 = 2 ∧
iI 0 = 0 ∧ iI 0 = 0 ∧ iI 1 = 1 ∧ iI 2 = 2 ∧ iI 1 = 1 ∧ iI 0 = 0 ∧ iI 1 = 1 ∧ iI 0 = 0 ∧ iI 0 = 0 ∧ iI 0 = 0 ∧ iI 3 = 3 ∧ iI 0 = 0 ∧ iI 0 = 0 ∧ iI 1 = 1 ∧ iI 2 = 2 ∧ iI 2 = 2 ∧ iI 0 = 0 ∧ iI 2 = 2 ∧ iI
(-1) = -1 ∧ iI 0 = 0 ∧ iI 1 = 1 ∧ iI 0 = 0 ∧ iI (-1) = -1 ∧ iI 0 = 0 ∧ iI 1 = 1 ∧ iI 0 = 0 ∧ iI 0 = 0 ∧ iI 2 = 2 ∧ iI 0 = 0 ∧ iI 0 = 0 ∧ iI 0 = 0 ∧ iI 0 = 0 ∧ iI 0 = 0 ∧ iI 0 = 0 ∧ iI 2 = 2 ∧ iI 2 = 2
∧ (∃ (n : Nat), 2 = (↑n : Int) ∧ n ≤ 4 ∧ b.k = kAft 2 n) ∧ 2 < 4 - Int.toNat b.i ∧ True) ∧ ((b.i == 1) = false → ((b.i == 2) = true → (1 = 1 ∧ iI 0 = 0 ∧ iI 0 = 0 ∧ iI 0 = 0 ∧ 1 = 1 ∧ x = x ∧ y = y ∧
iI 2 = 2 ∧ 1 = 1 ∧ iI 0 = 0 ∧ iI 0 = 0 ∧ iI 0 = 0 ∧ 1 = 1 ∧ 2 * x + 1 = 2 * x + 1 ∧ 2 * y + 1 = 2 * y + 1 ∧ 1 = 1 ∧ iI 0 = 0 ∧ iI 1 = 1 ∧ 1 = 1 ∧ sh1 x = sh1 x ∧ sh1 y = sh1 y ∧ b.k = b.k ∧ 0 = 0 ∧ 0
= 0 ∧ 0 = 0 ∧ iI 0 = 0 ∧ iI (-1) = -1 ∧ iI 2 = 2 ∧ iI 0 = 0 ∧ iI 0 = 0 ∧ iI (-1) = -1 ∧ iI 2 = 2 ∧ iI 0 = 0 ∧ iI 0 = 0 ∧ iI 1 = 1 ∧ iI 0 = 0 ∧ iI 0 = 0 ∧ iI 3 = 3 ∧ iI 0 = 0 ∧ iI 0 = 0 ∧ iI 2 = 2 ∧ iI
0 = 0 ∧ iI 1 = 1 ∧ iI 0 = 0 ∧ iI 1 = 1 ∧ iI 1 = 1 ∧ iI 1 = 1 ∧ iI 0 = 0 ∧ iI 3 = 3 ∧ iI 0 = 0 ∧ iI 0 = 0 ∧ iI 0 = 0 ∧ iI 0 = 0 ∧ iI 0 = 0 ∧ iI 2 = 2 ∧ iI 2 = 2 ∧ iI 2 = 2 ∧ iI 2 = 2 ∧ iI 0 = 0 ∧ iI 0
= 0 ∧ iI 1 = 1 ∧ iI 2 = 2 ∧ iI 1 = 1 ∧ iI 0 = 0 ∧ iI 1 = 1 ∧ iI 0 = 0 ∧ iI 0 = 0 ∧ iI 0 = 0 ∧ iI 3 = 3 ∧ iI 0 = 0 ∧ iI 0 = 0 ∧ iI 1 = 1 ∧ iI 2 = 2 ∧ iI 2 = 2 ∧ iI 0 = 0 ∧ iI 2 = 2 ∧ iI (-1) = -1 ∧ iI
0 = 0 ∧ iI 1 = 1 ∧ iI 0 = 0 ∧ iI (-1) = -1 ∧ iI 0 = 0 ∧ iI 1 = 1 ∧ iI 0 = 0 ∧ iI 0 = 0 ∧ iI 2 = 2 ∧ iI 0 = 0 ∧ iI 0 = 0 ∧ iI 0 = 0 ∧ iI 0 = 0 ∧ iI 0 = 0 ∧ iI 0 = 0 ∧ iI 2 = 2 ∧ b.i = 2 ∧ ltb b.i 4 =
true ∧ True ∧ True) ∧ ∀ (b_1 : Unit), True → 1 = 1 ∧ iI 0 = 0 ∧ iI 0 = 0 ∧ iI 0 = 0 ∧ 1 = 1 ∧ x = x ∧ y = y ∧ iI 2 = 2 ∧ 1 = 1 ∧ iI 0 = 0 ∧ iI 0 = 0 ∧ iI 0 = 0 ∧ 1 = 1 ∧ 2 * x + 1 = 2 * x + 1 ∧ 2 * y
+ 1 = 2 * y + 1 ∧ 1 = 1 ∧ iI 0 = 0 ∧ iI 1 = 1 ∧ 1 = 1 ∧ sh1 x = sh1 x ∧ sh1 y = sh1 y ∧ iI 2 = 2 ∧ 0 = 0 ∧ 0 = 0 ∧ 0 = 0 ∧ iI 0 = 0 ∧ iI (-1) = -1 ∧ iI 2 = 2 ∧ iI 0 = 0 ∧ iI 0 = 0 ∧ iI (-1) = -1 ∧ iI
2 = 2 ∧ iI 0 = 0 ∧ iI 0 = 0 ∧ iI 1 = 1 ∧ iI 0 = 0 ∧ iI 0 = 0 ∧ iI 3 = 3 ∧ iI 0 = 0 ∧ iI 0 = 0 ∧ iI 2 = 2 ∧ iI 0 = 0 ∧ iI 1 = 1 ∧ iI 0 = 0 ∧ iI 1 = 1 ∧ iI 1 = 1 ∧ iI 1 = 1 ∧ iI 0 = 0 ∧ iI 3 = 3 ∧ iI 0
= 0 ∧ iI 0 = 0 ∧ iI 0 = 0 ∧ iI 0 = 0 ∧ iI 0 = 0 ∧ iI 2 = 2 ∧ iI 2 = 2 ∧ iI 2 = 2 ∧ iI 2 = 2 ∧ iI 0 = 0 ∧ iI 0 = 0 ∧ iI 1 = 1 ∧ iI 2 = 2 ∧ iI 1 = 1 ∧ iI 0 = 0 ∧ iI 1 = 1 ∧ iI 0 = 0 ∧ iI 0 = 0 ∧ iI 0 =
0 ∧ iI 3 = 3 ∧ iI 0 = 0 ∧ iI 0 = 0 ∧ iI 1 = 1 ∧ iI 2 = 2 ∧ iI 2 = 2 ∧ iI 0 = 0 ∧ iI 2 = 2 ∧ iI (-1) = -1 ∧ iI 0 = 0 ∧ iI 1 = 1 ∧ iI 0 = 0 ∧ iI (-1) = -1 ∧ iI 0 = 0 ∧ iI 1 = 1 ∧ iI 0 = 0 ∧ iI 0 = 0 ∧
iI 2 = 2 ∧ iI 0 = 0 ∧ iI 0 = 0 ∧ iI 0 = 0 ∧ iI 0 = 0 ∧ iI 0 = 0 ∧ iI 0 = 0 ∧ iI 2 = 2 ∧ iI 3 = 3 ∧ (∃ (n : Nat), 3 = (↑n : Int) ∧ n ≤ 4 ∧ 2 = kAft 2 n) ∧ 1 < 4 - Int.toNat b.i ∧ True) ∧ ((b.i == 2) =
false → ((b.i == 3) = true → (1 = 1 ∧ iI 0 = 0 ∧ iI 0 = 0 ∧ iI 0 = 0 ∧ 1 = 1 ∧ x = x ∧ y = y ∧ iI 2 = 2 ∧ 1 = 1 ∧ iI 0 = 0 ∧ iI 0 = 0 ∧ iI 0 = 0 ∧ 1 = 1 ∧ 2 * x + 1 = 2 * x + 1 ∧ 2 * y + 1 = 2 * y + 1
∧ 1 = 1 ∧ iI 0 = 0 ∧ iI 1 = 1 ∧ 1 = 1 ∧ sh1 x = sh1 x ∧ sh1 y = sh1 y ∧ b.k = b.k ∧ 0 = 0 ∧ 0 = 0 ∧ 0 = 0 ∧ iI 0 = 0 ∧ iI (-1) = -1 ∧ iI 2 = 2 ∧ iI 0 = 0 ∧ iI 0 = 0 ∧ iI (-1) = -1 ∧ iI 2 = 2 ∧ iI 0 =
0 ∧ iI 0 = 0 ∧ iI 1 = 1 ∧ iI 0 = 0 ∧ iI 0 = 0 ∧ iI 3 = 3 ∧ iI 0 = 0 ∧ iI 0 = 0 ∧ iI 2 = 2 ∧ iI 0 = 0 ∧ iI 1 = 1 ∧ iI 0 = 0 ∧ iI 1 = 1 ∧ iI 1 = 1 ∧ iI 1 = 1 ∧ iI 0 = 0 ∧ iI 3 = 3 ∧ iI 0 = 0 ∧ iI 0 = 0
∧ iI 0 = 0 ∧ iI 0 = 0 ∧ iI 0 = 0 ∧ iI 2 = 2 ∧ iI 2 = 2 ∧ iI 2 = 2 ∧ iI 2 = 2 ∧ iI 0 = 0 ∧ iI 0 = 0 ∧ iI 1 = 1 ∧ iI 2 = 2 ∧ iI 1 = 1 ∧ iI 0 = 0 ∧ iI 1 = 1 ∧ iI 0 = 0 ∧ iI 0 = 0 ∧ iI 0 = 0 ∧ iI 3 = 3 ∧
iI 0 = 0 ∧ iI 0 = 0 ∧ iI 1 = 1 ∧ iI 2 = 2 ∧ iI 2 = 2 ∧ iI 0 = 0 ∧ iI 2 = 2 ∧ iI (-1) = -1 ∧ iI 0 = 0 ∧ iI 1 = 1 ∧ iI 0 = 0 ∧ iI (-1) = -1 ∧ iI 0 = 0 ∧ iI 1 = 1 ∧ iI 0 = 0 ∧ iI 0 = 0 ∧ iI 2 = 2 ∧ iI 0
= 0 ∧ iI 0 = 0 ∧ iI 0 = 0 ∧ iI 0 = 0 ∧ iI 0 = 0 ∧ iI 0 = 0 ∧ iI 2 = 2 ∧ b.i = 3 ∧ ltb b.i 4 = true ∧ True ∧ True) ∧ ∀ (b_1 : Unit), True → 1 = 1 ∧ iI 0 = 0 ∧ iI 0 = 0 ∧ iI 0 = 0 ∧ 1 = 1 ∧ x = x ∧ y =
y ∧ iI 2 = 2 ∧ 1 = 1 ∧ iI 0 = 0 ∧ iI 0 = 0 ∧ iI 0 = 0 ∧ 1 = 1 ∧ 2 * x + 1 = 2 * x + 1 ∧ 2 * y + 1 = 2 * y + 1 ∧ 1 = 1 ∧ iI 0 = 0 ∧ iI 1 = 1 ∧ 1 = 1 ∧ sh1 x = sh1 x ∧ sh1 y = sh1 y ∧ b.k = b.k ∧ 0 = 0
∧ 0 = 0 ∧ 0 = 0 ∧ iI 0 = 0 ∧ iI (-1) = -1 ∧ iI 2 = 2 ∧ iI 0 = 0 ∧ iI 0 = 0 ∧ iI (-1) = -1 ∧ iI 2 = 2 ∧ iI 0 = 0 ∧ iI 0 = 0 ∧ iI 1 = 1 ∧ iI 0 = 0 ∧ iI 0 = 0 ∧ iI 3 = 3 ∧ iI 0 = 0 ∧ iI 0 = 0 ∧ iI 2 = 2
∧ iI 0 = 0 ∧ iI 1 = 1 ∧ iI 0 = 0 ∧ iI 1 = 1 ∧ iI 1 = 1 ∧ iI 1 = 1 ∧ iI 0 = 0 ∧ iI 3 = 3 ∧ iI 0 = 0 ∧ iI 0 = 0 ∧ iI 0 = 0 ∧ iI 0 = 0 ∧ iI 0 = 0 ∧ iI 2 = 2 ∧ iI 2 = 2 ∧ iI 2 = 2 ∧ iI 2 = 2 ∧ iI 0 = 0 ∧
iI 0 = 0 ∧ iI 1 = 1 ∧ iI 2 = 2 ∧ iI 1 = 1 ∧ iI 0 = 0 ∧ iI 1 = 1 ∧ iI 0 = 0 ∧ iI 0 = 0 ∧ iI 0 = 0 ∧ iI 3 = 3 ∧ iI 0 = 0 ∧ iI 0 = 0 ∧ iI 1 = 1 ∧ iI 2 = 2 ∧ iI 2 = 2 ∧ iI 0 = 0 ∧ iI 2 = 2 ∧ iI (-1) = -1
∧ iI 0 = 0 ∧ iI 1 = 1 ∧ iI 0 = 0 ∧ iI (-1) = -1 ∧ iI 0 = 0 ∧ iI 1 = 1 ∧ iI 0 = 0 ∧ iI 0 = 0 ∧ iI 2 = 2 ∧ iI 0 = 0 ∧ iI 0 = 0 ∧ iI 0 = 0 ∧ iI 0 = 0 ∧ iI 0 = 0 ∧ iI 0 = 0 ∧ iI 2 = 2 ∧ iI 4 = 4 ∧ (∃ (n :
Nat), 4 = (↑n : Int) ∧ n ≤ 4 ∧ b.k = kAft 2 n) ∧ 0 < 4 - Int.toNat b.i ∧ True) ∧ ((b.i == 3) = false → (1 = 1 ∧ iI 0 = 0 ∧ iI 0 = 0 ∧ iI 0 = 0 ∧ 1 = 1 ∧ x = x ∧ y = y ∧ iI 2 = 2 ∧ 1 = 1 ∧ iI 0 = 0 ∧
iI 0 = 0 ∧ iI 0 = 0 ∧ 1 = 1 ∧ 2 * x + 1 = 2 * x + 1 ∧ 2 * y + 1 = 2 * y + 1 ∧ 1 = 1 ∧ iI 0 = 0 ∧ iI 1 = 1 ∧ 1 = 1 ∧ sh1 x = sh1 x ∧ sh1 y = sh1 y ∧ b.k = b.k ∧ 0 = 0 ∧ 0 = 0 ∧ 0 = 0 ∧ iI 0 = 0 ∧ iI
(-1) = -1 ∧ iI 2 = 2 ∧ iI 0 = 0 ∧ iI 0 = 0 ∧ iI (-1) = -1 ∧ iI 2 = 2 ∧ iI 0 = 0 ∧ iI 0 = 0 ∧ iI 1 = 1 ∧ iI 0 = 0 ∧ iI 0 = 0 ∧ iI 3 = 3 ∧ iI 0 = 0 ∧ iI 0 = 0 ∧ iI 2 = 2 ∧ iI 0 = 0 ∧ iI 1 = 1 ∧ iI 0 = 0
∧ iI 1 = 1 ∧ iI 1 = 1 ∧ iI 1 = 1 ∧ iI 0 = 0 ∧ iI 3 = 3 ∧ iI 0 = 0 ∧ iI 0 = 0 ∧ iI 0 = 0 ∧ iI 0 = 0 ∧ iI 0 = 0 ∧ iI 2 = 2 ∧ iI 2 = 2 ∧ iI 2 = 2 ∧ iI 2 = 2 ∧ iI 0 = 0 ∧ iI 0 = 0 ∧ iI 1 = 1 ∧ iI 2 = 2 ∧
iI 1 = 1 ∧ iI 0 = 0 ∧ iI 1 = 1 ∧ iI 0 = 0 ∧ iI 0 = 0 ∧ iI 0 = 0 ∧ iI 3 = 3 ∧ iI 0 = 0 ∧ iI 0 = 0 ∧ iI 1 = 1 ∧ iI 2 = 2 ∧ iI 2 = 2 ∧ iI 0 = 0 ∧ iI 2 = 2 ∧ iI (-1) = -1 ∧ iI 0 = 0 ∧ iI 1 = 1 ∧ iI 0 = 0
∧ iI (-1) = -1 ∧ iI 0 = 0 ∧ iI 1 = 1 ∧ iI 0 = 0 ∧ iI 0 = 0 ∧ iI 2 = 2 ∧ iI 0 = 0 ∧ iI 0 = 0 ∧ iI 0 = 0 ∧ iI 0 = 0 ∧ iI 0 = 0 ∧ iI 0 = 0 ∧ iI 2 = 2 ∧ b.i = 4 ∧ ltb b.i 4 = false ∧ True ∧ True) ∧ ∀ (b_1
: Unit), True → sh1 x = x ∧ sh1 y = y ∧ b.k = 2 ∧ True))))) := by kernel_rfl

theorem ob_o132_3 (x y : Int) : fnP (TN132) G 10000 fe132 (.r [] 0 (.r [] 253 (.r [] 59 (.r [] 3 (.r [] 59 (.r [] 1651 (.r [] 1 (.lp (l132 3 (sh1 x) (sh1 y)) [] [] (fun b => (.br (b.i == 0) (.jn (jC 0 true) [] [] (.r [] 0 .nil) (fun b_1 => (.lit (.r [] 15 (.r [] 3 (.lit (.r [] 1 .nil))))))) (.br (b.i == 1) (.jn (jC 1 true) [] [] (.r [] 0 .nil) (fun b_1 => (.lit (.r [] 15 (.r [] 3 (.lit (.r [] 1 .nil))))))) (.br (b.i == 2) (.jn (jC 2 true) [] [] (.r [] 0 .nil) (fun b_1 => (.lit (.r [] 15 (.r [] 3 (.lit (.r [] 1 .nil))))))) (.br (b.i == 3) (.jn (jC 3 true) [] [] (.r [] 0 .nil) (fun b_1 => (.lit (.r [] 15 (.r [] 3 (.lit (.r [] 3 (.r [] 1 .nil)))))))) (.jn (jC 4 false) [] [] (.r [] 0 .nil) (fun b_1 => (.lit (.r [] 3 .nil))))))))))))))))) ([.agg [.int .u8 0, .int .i64 0, .int .i64 0], .agg [.int .i64 x, .int .i64 y, .int .u8 3]]) ([.agg [.int .i64 x, .int .i64 y, .int .u8 3]]) ([]) = (
smP x y ∧ (id3 0 0 0 ∧ smP (2 * x + 1) (2 * y + 1)) ∧ (id3 0 0 0 ∧ smP (-1) 0) ∧ inR IntKind.i64 (2 * x + 1 - bitI BinOp.and IntKind.i64 (2 * x + 1) 1) = true ∧ inR IntKind.i64 (Int.tdiv (2 * x + 1 -
bitI BinOp.and IntKind.i64 (2 * x + 1) 1) 2) = true ∧ inR IntKind.i64 (2 * y + 1 - bitI BinOp.and IntKind.i64 (2 * y + 1) 1) = true ∧ inR IntKind.i64 (Int.tdiv (2 * y + 1 - bitI BinOp.and IntKind.i64
(2 * y + 1) 1) 2) = true ∧ 1 = 1 ∧ iI 0 = 0 ∧ iI 0 = 0 ∧ iI 0 = 0 ∧ 1 = 1 ∧ x = x ∧ y = y ∧ iI 3 = 3 ∧ 1 = 1 ∧ iI 0 = 0 ∧ iI 0 = 0 ∧ iI 0 = 0 ∧ 1 = 1 ∧ 2 * x + 1 = 2 * x + 1 ∧ 2 * y + 1 = 2 * y + 1 ∧
1 = 1 ∧ iI (-1) = -1 ∧ iI 0 = 0 ∧ 1 = 1 ∧ Int.tdiv (2 * x + 1 - bitI BinOp.and IntKind.i64 (2 * x + 1) 1) 2 = sh1 x ∧ Int.tdiv (2 * y + 1 - bitI BinOp.and IntKind.i64 (2 * y + 1) 1) 2 = sh1 y ∧ iI 0 =
0 ∧ 0 = 0 ∧ 0 = 0 ∧ 0 = 0 ∧ iI 0 = 0 ∧ iI (-1) = -1 ∧ iI 2 = 2 ∧ iI 0 = 0 ∧ iI 0 = 0 ∧ iI (-1) = -1 ∧ iI 2 = 2 ∧ iI 0 = 0 ∧ iI 0 = 0 ∧ iI 1 = 1 ∧ iI 0 = 0 ∧ iI 0 = 0 ∧ iI 3 = 3 ∧ iI 0 = 0 ∧ iI 0 = 0 ∧
iI 2 = 2 ∧ iI 0 = 0 ∧ iI 1 = 1 ∧ iI 0 = 0 ∧ iI 1 = 1 ∧ iI 1 = 1 ∧ iI 1 = 1 ∧ iI 0 = 0 ∧ iI 3 = 3 ∧ iI 0 = 0 ∧ iI 0 = 0 ∧ iI 0 = 0 ∧ iI 0 = 0 ∧ iI 0 = 0 ∧ iI 2 = 2 ∧ iI 2 = 2 ∧ iI 2 = 2 ∧ iI 2 = 2 ∧ iI
0 = 0 ∧ iI 0 = 0 ∧ iI 1 = 1 ∧ iI 2 = 2 ∧ iI 1 = 1 ∧ iI 0 = 0 ∧ iI 1 = 1 ∧ iI 0 = 0 ∧ iI 0 = 0 ∧ iI 0 = 0 ∧ iI 3 = 3 ∧ iI 0 = 0 ∧ iI 0 = 0 ∧ iI 1 = 1 ∧ iI 2 = 2 ∧ iI 2 = 2 ∧ iI 0 = 0 ∧ iI 2 = 2 ∧ iI
(-1) = -1 ∧ iI 0 = 0 ∧ iI 1 = 1 ∧ iI 0 = 0 ∧ iI (-1) = -1 ∧ iI 0 = 0 ∧ iI 1 = 1 ∧ iI 0 = 0 ∧ iI 0 = 0 ∧ iI 2 = 2 ∧ iI 0 = 0 ∧ iI 0 = 0 ∧ iI 0 = 0 ∧ iI 0 = 0 ∧ iI 0 = 0 ∧ iI 0 = 0 ∧ iI 2 = 2 ∧ iI 0 = 0
∧ (∃ (n : Nat), 0 = (↑n : Int) ∧ n ≤ 4 ∧ 0 = kAft 3 n) ∧ ∀ (b : L132), (∃ (n : Nat), b.i = (↑n : Int) ∧ n ≤ 4 ∧ b.k = kAft 3 n) → ((b.i == 0) = true → (1 = 1 ∧ iI 0 = 0 ∧ iI 0 = 0 ∧ iI 0 = 0 ∧ 1 = 1 ∧
x = x ∧ y = y ∧ iI 3 = 3 ∧ 1 = 1 ∧ iI 0 = 0 ∧ iI 0 = 0 ∧ iI 0 = 0 ∧ 1 = 1 ∧ 2 * x + 1 = 2 * x + 1 ∧ 2 * y + 1 = 2 * y + 1 ∧ 1 = 1 ∧ iI (-1) = -1 ∧ iI 0 = 0 ∧ 1 = 1 ∧ sh1 x = sh1 x ∧ sh1 y = sh1 y ∧
b.k = b.k ∧ 0 = 0 ∧ 0 = 0 ∧ 0 = 0 ∧ iI 0 = 0 ∧ iI (-1) = -1 ∧ iI 2 = 2 ∧ iI 0 = 0 ∧ iI 0 = 0 ∧ iI (-1) = -1 ∧ iI 2 = 2 ∧ iI 0 = 0 ∧ iI 0 = 0 ∧ iI 1 = 1 ∧ iI 0 = 0 ∧ iI 0 = 0 ∧ iI 3 = 3 ∧ iI 0 = 0 ∧ iI
0 = 0 ∧ iI 2 = 2 ∧ iI 0 = 0 ∧ iI 1 = 1 ∧ iI 0 = 0 ∧ iI 1 = 1 ∧ iI 1 = 1 ∧ iI 1 = 1 ∧ iI 0 = 0 ∧ iI 3 = 3 ∧ iI 0 = 0 ∧ iI 0 = 0 ∧ iI 0 = 0 ∧ iI 0 = 0 ∧ iI 0 = 0 ∧ iI 2 = 2 ∧ iI 2 = 2 ∧ iI 2 = 2 ∧ iI 2
= 2 ∧ iI 0 = 0 ∧ iI 0 = 0 ∧ iI 1 = 1 ∧ iI 2 = 2 ∧ iI 1 = 1 ∧ iI 0 = 0 ∧ iI 1 = 1 ∧ iI 0 = 0 ∧ iI 0 = 0 ∧ iI 0 = 0 ∧ iI 3 = 3 ∧ iI 0 = 0 ∧ iI 0 = 0 ∧ iI 1 = 1 ∧ iI 2 = 2 ∧ iI 2 = 2 ∧ iI 0 = 0 ∧ iI 2 =
2 ∧ iI (-1) = -1 ∧ iI 0 = 0 ∧ iI 1 = 1 ∧ iI 0 = 0 ∧ iI (-1) = -1 ∧ iI 0 = 0 ∧ iI 1 = 1 ∧ iI 0 = 0 ∧ iI 0 = 0 ∧ iI 2 = 2 ∧ iI 0 = 0 ∧ iI 0 = 0 ∧ iI 0 = 0 ∧ iI 0 = 0 ∧ iI 0 = 0 ∧ iI 0 = 0 ∧ iI 2 = 2 ∧
b.i = 0 ∧ ltb b.i 4 = true ∧ True ∧ True) ∧ ∀ (b_1 : Unit), True → 1 = 1 ∧ iI 0 = 0 ∧ iI 0 = 0 ∧ iI 0 = 0 ∧ 1 = 1 ∧ x = x ∧ y = y ∧ iI 3 = 3 ∧ 1 = 1 ∧ iI 0 = 0 ∧ iI 0 = 0 ∧ iI 0 = 0 ∧ 1 = 1 ∧ 2 * x +
1 = 2 * x + 1 ∧ 2 * y + 1 = 2 * y + 1 ∧ 1 = 1 ∧ iI (-1) = -1 ∧ iI 0 = 0 ∧ 1 = 1 ∧ sh1 x = sh1 x ∧ sh1 y = sh1 y ∧ b.k = b.k ∧ 0 = 0 ∧ 0 = 0 ∧ 0 = 0 ∧ iI 0 = 0 ∧ iI (-1) = -1 ∧ iI 2 = 2 ∧ iI 0 = 0 ∧ iI
0 = 0 ∧ iI (-1) = -1 ∧ iI 2 = 2 ∧ iI 0 = 0 ∧ iI 0 = 0 ∧ iI 1 = 1 ∧ iI 0 = 0 ∧ iI 0 = 0 ∧ iI 3 = 3 ∧ iI 0 = 0 ∧ iI 0 = 0 ∧ iI 2 = 2 ∧ iI 0 = 0 ∧ iI 1 = 1 ∧ iI 0 = 0 ∧ iI 1 = 1 ∧ iI 1 = 1 ∧ iI 1 = 1 ∧
iI 0 = 0 ∧ iI 3 = 3 ∧ iI 0 = 0 ∧ iI 0 = 0 ∧ iI 0 = 0 ∧ iI 0 = 0 ∧ iI 0 = 0 ∧ iI 2 = 2 ∧ iI 2 = 2 ∧ iI 2 = 2 ∧ iI 2 = 2 ∧ iI 0 = 0 ∧ iI 0 = 0 ∧ iI 1 = 1 ∧ iI 2 = 2 ∧ iI 1 = 1 ∧ iI 0 = 0 ∧ iI 1 = 1 ∧ iI
0 = 0 ∧ iI 0 = 0 ∧ iI 0 = 0 ∧ iI 3 = 3 ∧ iI 0 = 0 ∧ iI 0 = 0 ∧ iI 1 = 1 ∧ iI 2 = 2 ∧ iI 2 = 2 ∧ iI 0 = 0 ∧ iI 2 = 2 ∧ iI (-1) = -1 ∧ iI 0 = 0 ∧ iI 1 = 1 ∧ iI 0 = 0 ∧ iI (-1) = -1 ∧ iI 0 = 0 ∧ iI 1 = 1
∧ iI 0 = 0 ∧ iI 0 = 0 ∧ iI 2 = 2 ∧ iI 0 = 0 ∧ iI 0 = 0 ∧ iI 0 = 0 ∧ iI 0 = 0 ∧ iI 0 = 0 ∧ iI 0 = 0 ∧ iI 2 = 2 ∧ iI 1 = 1 ∧ (∃ (n : Nat), 1 = (↑n : Int) ∧ n ≤ 4 ∧ b.k = kAft 3 n) ∧ 3 < 4 - Int.toNat
b.i ∧ True) ∧ ((b.i == 0) = false → ((b.i == 1) = true → (1 = 1 ∧ iI 0 = 0 ∧ iI 0 = 0 ∧ iI 0 = 0 ∧ 1 = 1 ∧ x = x ∧ y = y ∧ iI 3 = 3 ∧ 1 = 1 ∧ iI 0 = 0 ∧ iI 0 = 0 ∧ iI 0 = 0 ∧ 1 = 1 ∧ 2 * x + 1 = 2 * x
+ 1 ∧ 2 * y + 1 = 2 * y + 1 ∧ 1 = 1 ∧ iI (-1) = -1 ∧ iI 0 = 0 ∧ 1 = 1 ∧ sh1 x = sh1 x ∧ sh1 y = sh1 y ∧ b.k = b.k ∧ 0 = 0 ∧ 0 = 0 ∧ 0 = 0 ∧ iI 0 = 0 ∧ iI (-1) = -1 ∧ iI 2 = 2 ∧ iI 0 = 0 ∧ iI 0 = 0 ∧
iI (-1) = -1 ∧ iI 2 = 2 ∧ iI 0 = 0 ∧ iI 0 = 0 ∧ iI 1 = 1 ∧ iI 0 = 0 ∧ iI 0 = 0 ∧ iI 3 = 3 ∧ iI 0 = 0 ∧ iI 0 = 0 ∧ iI 2 = 2 ∧ iI 0 = 0 ∧ iI 1 = 1 ∧ iI 0 = 0 ∧ iI 1 = 1 ∧ iI 1 = 1 ∧ iI 1 = 1 ∧ iI 0 = 0
∧ iI 3 = 3 ∧ iI 0 = 0 ∧ iI 0 = 0 ∧ iI 0 = 0 ∧ iI 0 = 0 ∧ iI 0 = 0 ∧ iI 2 = 2 ∧ iI 2 = 2 ∧ iI 2 = 2 ∧ iI 2 = 2 ∧ iI 0 = 0 ∧ iI 0 = 0 ∧ iI 1 = 1 ∧ iI 2 = 2 ∧ iI 1 = 1 ∧ iI 0 = 0 ∧ iI 1 = 1 ∧ iI 0 = 0 ∧
iI 0 = 0 ∧ iI 0 = 0 ∧ iI 3 = 3 ∧ iI 0 = 0 ∧ iI 0 = 0 ∧ iI 1 = 1 ∧ iI 2 = 2 ∧ iI 2 = 2 ∧ iI 0 = 0 ∧ iI 2 = 2 ∧ iI (-1) = -1 ∧ iI 0 = 0 ∧ iI 1 = 1 ∧ iI 0 = 0 ∧ iI (-1) = -1 ∧ iI 0 = 0 ∧ iI 1 = 1 ∧ iI 0
= 0 ∧ iI 0 = 0 ∧ iI 2 = 2 ∧ iI 0 = 0 ∧ iI 0 = 0 ∧ iI 0 = 0 ∧ iI 0 = 0 ∧ iI 0 = 0 ∧ iI 0 = 0 ∧ iI 2 = 2 ∧ b.i = 1 ∧ ltb b.i 4 = true ∧ True ∧ True) ∧ ∀ (b_1 : Unit), True → 1 = 1 ∧ iI 0 = 0 ∧ iI 0 = 0
∧ iI 0 = 0 ∧ 1 = 1 ∧ x = x ∧ y = y ∧ iI 3 = 3 ∧ 1 = 1 ∧ iI 0 = 0 ∧ iI 0 = 0 ∧ iI 0 = 0 ∧ 1 = 1 ∧ 2 * x + 1 = 2 * x + 1 ∧ 2 * y + 1 = 2 * y + 1 ∧ 1 = 1 ∧ iI (-1) = -1 ∧ iI 0 = 0 ∧ 1 = 1 ∧ sh1 x = sh1 x
∧ sh1 y = sh1 y ∧ b.k = b.k ∧ 0 = 0 ∧ 0 = 0 ∧ 0 = 0 ∧ iI 0 = 0 ∧ iI (-1) = -1 ∧ iI 2 = 2 ∧ iI 0 = 0 ∧ iI 0 = 0 ∧ iI (-1) = -1 ∧ iI 2 = 2 ∧ iI 0 = 0 ∧ iI 0 = 0 ∧ iI 1 = 1 ∧ iI 0 = 0 ∧ iI 0 = 0 ∧ iI 3 =
3 ∧ iI 0 = 0 ∧ iI 0 = 0 ∧ iI 2 = 2 ∧ iI 0 = 0 ∧ iI 1 = 1 ∧ iI 0 = 0 ∧ iI 1 = 1 ∧ iI 1 = 1 ∧ iI 1 = 1 ∧ iI 0 = 0 ∧ iI 3 = 3 ∧ iI 0 = 0 ∧ iI 0 = 0 ∧ iI 0 = 0 ∧ iI 0 = 0 ∧ iI 0 = 0 ∧ iI 2 = 2 ∧ iI 2 = 2
∧ iI 2 = 2 ∧ iI 2 = 2 ∧ iI 0 = 0 ∧ iI 0 = 0 ∧ iI 1 = 1 ∧ iI 2 = 2 ∧ iI 1 = 1 ∧ iI 0 = 0 ∧ iI 1 = 1 ∧ iI 0 = 0 ∧ iI 0 = 0 ∧ iI 0 = 0 ∧ iI 3 = 3 ∧ iI 0 = 0 ∧ iI 0 = 0 ∧ iI 1 = 1 ∧ iI 2 = 2 ∧ iI 2 = 2 ∧
iI 0 = 0 ∧ iI 2 = 2 ∧ iI (-1) = -1 ∧ iI 0 = 0 ∧ iI 1 = 1 ∧ iI 0 = 0 ∧ iI (-1) = -1 ∧ iI 0 = 0 ∧ iI 1 = 1 ∧ iI 0 = 0 ∧ iI 0 = 0 ∧ iI 2 = 2 ∧ iI 0 = 0 ∧ iI 0 = 0 ∧ iI 0 = 0 ∧ iI 0 = 0 ∧ iI 0 = 0 ∧ iI 0
= 0 ∧ iI 2 = 2 ∧ iI 2 = 2 ∧ (∃ (n : Nat), 2 = (↑n : Int) ∧ n ≤ 4 ∧ b.k = kAft 3 n) ∧ 2 < 4 - Int.toNat b.i ∧ True) ∧ ((b.i == 1) = false → ((b.i == 2) = true → (1 = 1 ∧ iI 0 = 0 ∧ iI 0 = 0 ∧ iI 0 = 0
∧ 1 = 1 ∧ x = x ∧ y = y ∧ iI 3 = 3 ∧ 1 = 1 ∧ iI 0 = 0 ∧ iI 0 = 0 ∧ iI 0 = 0 ∧ 1 = 1 ∧ 2 * x + 1 = 2 * x + 1 ∧ 2 * y + 1 = 2 * y + 1 ∧ 1 = 1 ∧ iI (-1) = -1 ∧ iI 0 = 0 ∧ 1 = 1 ∧ sh1 x = sh1 x ∧ sh1 y =
sh1 y ∧ b.k = b.k ∧ 0 = 0 ∧ 0 = 0 ∧ 0 = 0 ∧ iI 0 = 0 ∧ iI (-1) = -1 ∧ iI 2 = 2 ∧ iI 0 = 0 ∧ iI 0 = 0 ∧ iI (-1) = -1 ∧ iI 2 = 2 ∧ iI 0 = 0 ∧ iI 0 = 0 ∧ iI 1 = 1 ∧ iI 0 = 0 ∧ iI 0 = 0 ∧ iI 3 = 3 ∧ iI 0
= 0 ∧ iI 0 = 0 ∧ iI 2 = 2 ∧ iI 0 = 0 ∧ iI 1 = 1 ∧ iI 0 = 0 ∧ iI 1 = 1 ∧ iI 1 = 1 ∧ iI 1 = 1 ∧ iI 0 = 0 ∧ iI 3 = 3 ∧ iI 0 = 0 ∧ iI 0 = 0 ∧ iI 0 = 0 ∧ iI 0 = 0 ∧ iI 0 = 0 ∧ iI 2 = 2 ∧ iI 2 = 2 ∧ iI 2 =
2 ∧ iI 2 = 2 ∧ iI 0 = 0 ∧ iI 0 = 0 ∧ iI 1 = 1 ∧ iI 2 = 2 ∧ iI 1 = 1 ∧ iI 0 = 0 ∧ iI 1 = 1 ∧ iI 0 = 0 ∧ iI 0 = 0 ∧ iI 0 = 0 ∧ iI 3 = 3 ∧ iI 0 = 0 ∧ iI 0 = 0 ∧ iI 1 = 1 ∧ iI 2 = 2 ∧ iI 2 = 2 ∧ iI 0 = 0
∧ iI 2 = 2 ∧ iI (-1) = -1 ∧ iI 0 = 0 ∧ iI 1 = 1 ∧ iI 0 = 0 ∧ iI (-1) = -1 ∧ iI 0 = 0 ∧ iI 1 = 1 ∧ iI 0 = 0 ∧ iI 0 = 0 ∧ iI 2 = 2 ∧ iI 0 = 0 ∧ iI 0 = 0 ∧ iI 0 = 0 ∧ iI 0 = 0 ∧ iI 0 = 0 ∧ iI 0 = 0 ∧ iI
2 = 2 ∧ b.i = 2 ∧ ltb b.i 4 = true ∧ True ∧ True) ∧ ∀ (b_1 : Unit), True → 1 = 1 ∧ iI 0 = 0 ∧ iI 0 = 0 ∧ iI 0 = 0 ∧ 1 = 1 ∧ x = x ∧ y = y ∧ iI 3 = 3 ∧ 1 = 1 ∧ iI 0 = 0 ∧ iI 0 = 0 ∧ iI 0 = 0 ∧ 1 = 1 ∧
2 * x + 1 = 2 * x + 1 ∧ 2 * y + 1 = 2 * y + 1 ∧ 1 = 1 ∧ iI (-1) = -1 ∧ iI 0 = 0 ∧ 1 = 1 ∧ sh1 x = sh1 x ∧ sh1 y = sh1 y ∧ b.k = b.k ∧ 0 = 0 ∧ 0 = 0 ∧ 0 = 0 ∧ iI 0 = 0 ∧ iI (-1) = -1 ∧ iI 2 = 2 ∧ iI 0
= 0 ∧ iI 0 = 0 ∧ iI (-1) = -1 ∧ iI 2 = 2 ∧ iI 0 = 0 ∧ iI 0 = 0 ∧ iI 1 = 1 ∧ iI 0 = 0 ∧ iI 0 = 0 ∧ iI 3 = 3 ∧ iI 0 = 0 ∧ iI 0 = 0 ∧ iI 2 = 2 ∧ iI 0 = 0 ∧ iI 1 = 1 ∧ iI 0 = 0 ∧ iI 1 = 1 ∧ iI 1 = 1 ∧ iI
1 = 1 ∧ iI 0 = 0 ∧ iI 3 = 3 ∧ iI 0 = 0 ∧ iI 0 = 0 ∧ iI 0 = 0 ∧ iI 0 = 0 ∧ iI 0 = 0 ∧ iI 2 = 2 ∧ iI 2 = 2 ∧ iI 2 = 2 ∧ iI 2 = 2 ∧ iI 0 = 0 ∧ iI 0 = 0 ∧ iI 1 = 1 ∧ iI 2 = 2 ∧ iI 1 = 1 ∧ iI 0 = 0 ∧ iI 1
= 1 ∧ iI 0 = 0 ∧ iI 0 = 0 ∧ iI 0 = 0 ∧ iI 3 = 3 ∧ iI 0 = 0 ∧ iI 0 = 0 ∧ iI 1 = 1 ∧ iI 2 = 2 ∧ iI 2 = 2 ∧ iI 0 = 0 ∧ iI 2 = 2 ∧ iI (-1) = -1 ∧ iI 0 = 0 ∧ iI 1 = 1 ∧ iI 0 = 0 ∧ iI (-1) = -1 ∧ iI 0 = 0 ∧
iI 1 = 1 ∧ iI 0 = 0 ∧ iI 0 = 0 ∧ iI 2 = 2 ∧ iI 0 = 0 ∧ iI 0 = 0 ∧ iI 0 = 0 ∧ iI 0 = 0 ∧ iI 0 = 0 ∧ iI 0 = 0 ∧ iI 2 = 2 ∧ iI 3 = 3 ∧ (∃ (n : Nat), 3 = (↑n : Int) ∧ n ≤ 4 ∧ b.k = kAft 3 n) ∧ 1 < 4 -
Int.toNat b.i ∧ True) ∧ ((b.i == 2) = false → ((b.i == 3) = true → (1 = 1 ∧ iI 0 = 0 ∧ iI 0 = 0 ∧ iI 0 = 0 ∧ 1 = 1 ∧ x = x ∧ y = y ∧ iI 3 = 3 ∧ 1 = 1 ∧ iI 0 = 0 ∧ iI 0 = 0 ∧ iI 0 = 0 ∧ 1 = 1 ∧ 2 * x +
1 = 2 * x + 1 ∧ 2 * y + 1 = 2 * y + 1 ∧ 1 = 1 ∧ iI (-1) = -1 ∧ iI 0 = 0 ∧ 1 = 1 ∧ sh1 x = sh1 x ∧ sh1 y = sh1 y ∧ b.k = b.k ∧ 0 = 0 ∧ 0 = 0 ∧ 0 = 0 ∧ iI 0 = 0 ∧ iI (-1) = -1 ∧ iI 2 = 2 ∧ iI 0 = 0 ∧ iI
0 = 0 ∧ iI (-1) = -1 ∧ iI 2 = 2 ∧ iI 0 = 0 ∧ iI 0 = 0 ∧ iI 1 = 1 ∧ iI 0 = 0 ∧ iI 0 = 0 ∧ iI 3 = 3 ∧ iI 0 = 0 ∧ iI 0 = 0 ∧ iI 2 = 2 ∧ iI 0 = 0 ∧ iI 1 = 1 ∧ iI 0 = 0 ∧ iI 1 = 1 ∧ iI 1 = 1 ∧ iI 1 = 1 ∧
iI 0 = 0 ∧ iI 3 = 3 ∧ iI 0 = 0 ∧ iI 0 = 0 ∧ iI 0 = 0 ∧ iI 0 = 0 ∧ iI 0 = 0 ∧ iI 2 = 2 ∧ iI 2 = 2 ∧ iI 2 = 2 ∧ iI 2 = 2 ∧ iI 0 = 0 ∧ iI 0 = 0 ∧ iI 1 = 1 ∧ iI 2 = 2 ∧ iI 1 = 1 ∧ iI 0 = 0 ∧ iI 1 = 1 ∧ iI
0 = 0 ∧ iI 0 = 0 ∧ iI 0 = 0 ∧ iI 3 = 3 ∧ iI 0 = 0 ∧ iI 0 = 0 ∧ iI 1 = 1 ∧ iI 2 = 2 ∧ iI 2 = 2 ∧ iI 0 = 0 ∧ iI 2 = 2 ∧ iI (-1) = -1 ∧ iI 0 = 0 ∧ iI 1 = 1 ∧ iI 0 = 0 ∧ iI (-1) = -1 ∧ iI 0 = 0 ∧ iI 1 = 1
∧ iI 0 = 0 ∧ iI 0 = 0 ∧ iI 2 = 2 ∧ iI 0 = 0 ∧ iI 0 = 0 ∧ iI 0 = 0 ∧ iI 0 = 0 ∧ iI 0 = 0 ∧ iI 0 = 0 ∧ iI 2 = 2 ∧ b.i = 3 ∧ ltb b.i 4 = true ∧ True ∧ True) ∧ ∀ (b_1 : Unit), True → 1 = 1 ∧ iI 0 = 0 ∧ iI
0 = 0 ∧ iI 0 = 0 ∧ 1 = 1 ∧ x = x ∧ y = y ∧ iI 3 = 3 ∧ 1 = 1 ∧ iI 0 = 0 ∧ iI 0 = 0 ∧ iI 0 = 0 ∧ 1 = 1 ∧ 2 * x + 1 = 2 * x + 1 ∧ 2 * y + 1 = 2 * y + 1 ∧ 1 = 1 ∧ iI (-1) = -1 ∧ iI 0 = 0 ∧ 1 = 1 ∧ sh1 x =
sh1 x ∧ sh1 y = sh1 y ∧ iI 3 = 3 ∧ 0 = 0 ∧ 0 = 0 ∧ 0 = 0 ∧ iI 0 = 0 ∧ iI (-1) = -1 ∧ iI 2 = 2 ∧ iI 0 = 0 ∧ iI 0 = 0 ∧ iI (-1) = -1 ∧ iI 2 = 2 ∧ iI 0 = 0 ∧ iI 0 = 0 ∧ iI 1 = 1 ∧ iI 0 = 0 ∧ iI 0 = 0 ∧
iI 3 = 3 ∧ iI 0 = 0 ∧ iI 0 = 0 ∧ iI 2 = 2 ∧ iI 0 = 0 ∧ iI 1 = 1 ∧ iI 0 = 0 ∧ iI 1 = 1 ∧ iI 1 = 1 ∧ iI 1 = 1 ∧ iI 0 = 0 ∧ iI 3 = 3 ∧ iI 0 = 0 ∧ iI 0 = 0 ∧ iI 0 = 0 ∧ iI 0 = 0 ∧ iI 0 = 0 ∧ iI 2 = 2 ∧ iI
2 = 2 ∧ iI 2 = 2 ∧ iI 2 = 2 ∧ iI 0 = 0 ∧ iI 0 = 0 ∧ iI 1 = 1 ∧ iI 2 = 2 ∧ iI 1 = 1 ∧ iI 0 = 0 ∧ iI 1 = 1 ∧ iI 0 = 0 ∧ iI 0 = 0 ∧ iI 0 = 0 ∧ iI 3 = 3 ∧ iI 0 = 0 ∧ iI 0 = 0 ∧ iI 1 = 1 ∧ iI 2 = 2 ∧ iI 2
= 2 ∧ iI 0 = 0 ∧ iI 2 = 2 ∧ iI (-1) = -1 ∧ iI 0 = 0 ∧ iI 1 = 1 ∧ iI 0 = 0 ∧ iI (-1) = -1 ∧ iI 0 = 0 ∧ iI 1 = 1 ∧ iI 0 = 0 ∧ iI 0 = 0 ∧ iI 2 = 2 ∧ iI 0 = 0 ∧ iI 0 = 0 ∧ iI 0 = 0 ∧ iI 0 = 0 ∧ iI 0 = 0 ∧
iI 0 = 0 ∧ iI 2 = 2 ∧ iI 4 = 4 ∧ (∃ (n : Nat), 4 = (↑n : Int) ∧ n ≤ 4 ∧ 3 = kAft 3 n) ∧ 0 < 4 - Int.toNat b.i ∧ True) ∧ ((b.i == 3) = false → (1 = 1 ∧ iI 0 = 0 ∧ iI 0 = 0 ∧ iI 0 = 0 ∧ 1 = 1 ∧ x = x ∧
y = y ∧ iI 3 = 3 ∧ 1 = 1 ∧ iI 0 = 0 ∧ iI 0 = 0 ∧ iI 0 = 0 ∧ 1 = 1 ∧ 2 * x + 1 = 2 * x + 1 ∧ 2 * y + 1 = 2 * y + 1 ∧ 1 = 1 ∧ iI (-1) = -1 ∧ iI 0 = 0 ∧ 1 = 1 ∧ sh1 x = sh1 x ∧ sh1 y = sh1 y ∧ b.k = b.k
∧ 0 = 0 ∧ 0 = 0 ∧ 0 = 0 ∧ iI 0 = 0 ∧ iI (-1) = -1 ∧ iI 2 = 2 ∧ iI 0 = 0 ∧ iI 0 = 0 ∧ iI (-1) = -1 ∧ iI 2 = 2 ∧ iI 0 = 0 ∧ iI 0 = 0 ∧ iI 1 = 1 ∧ iI 0 = 0 ∧ iI 0 = 0 ∧ iI 3 = 3 ∧ iI 0 = 0 ∧ iI 0 = 0 ∧
iI 2 = 2 ∧ iI 0 = 0 ∧ iI 1 = 1 ∧ iI 0 = 0 ∧ iI 1 = 1 ∧ iI 1 = 1 ∧ iI 1 = 1 ∧ iI 0 = 0 ∧ iI 3 = 3 ∧ iI 0 = 0 ∧ iI 0 = 0 ∧ iI 0 = 0 ∧ iI 0 = 0 ∧ iI 0 = 0 ∧ iI 2 = 2 ∧ iI 2 = 2 ∧ iI 2 = 2 ∧ iI 2 = 2 ∧ iI
0 = 0 ∧ iI 0 = 0 ∧ iI 1 = 1 ∧ iI 2 = 2 ∧ iI 1 = 1 ∧ iI 0 = 0 ∧ iI 1 = 1 ∧ iI 0 = 0 ∧ iI 0 = 0 ∧ iI 0 = 0 ∧ iI 3 = 3 ∧ iI 0 = 0 ∧ iI 0 = 0 ∧ iI 1 = 1 ∧ iI 2 = 2 ∧ iI 2 = 2 ∧ iI 0 = 0 ∧ iI 2 = 2 ∧ iI
(-1) = -1 ∧ iI 0 = 0 ∧ iI 1 = 1 ∧ iI 0 = 0 ∧ iI (-1) = -1 ∧ iI 0 = 0 ∧ iI 1 = 1 ∧ iI 0 = 0 ∧ iI 0 = 0 ∧ iI 2 = 2 ∧ iI 0 = 0 ∧ iI 0 = 0 ∧ iI 0 = 0 ∧ iI 0 = 0 ∧ iI 0 = 0 ∧ iI 0 = 0 ∧ iI 2 = 2 ∧ b.i = 4
∧ ltb b.i 4 = false ∧ True ∧ True) ∧ ∀ (b_1 : Unit), True → sh1 x = x ∧ sh1 y = y ∧ b.k = 3 ∧ True))))) := by kernel_rfl

theorem ob_o93i (x y q : Int) : fnP (TN93) G 10000 fe93 (.r [] 0 (.r [yL 132, yL 133, yL 134, yL 135] 509 (.cnd (.r [] 1 .nil) (.r [] 11 (.r [] 3 (.cnd (.r [] 1 .nil) (.r [] 3 .nil))))))) ([.agg [.int .u8 0, .int .i64 0, .int .i64 0], .agg [.int .i64 x, .int .i64 y, .int .u8 q]]) ([.agg [.int .i64 x, .int .i64 y, .int .u8 q], .int .i64 0]) ([]) = (
id3 0 0 0 ∧ ((bI (vldC (x, y, q)) 0 1 != 0) = true → 0 = x ∧ 0 = y ∧ 0 = q ∧ iI 1 = 0 ∧ True) ∧ ((bI (vldC (x, y, q)) 0 1 != 0) = false → (id3 0 0 0 ∧ vldC (x, y, q) = true ∧ 0 ≤ q) ∧ ((bI (vldC (x,
y, q)) 0 1 != 0) = true → 0 = x ∧ 0 = y ∧ 0 = q ∧ iI 3 = 0 ∧ True) ∧ ((bI (vldC (x, y, q)) 0 1 != 0) = false → x = x ∧ y = y ∧ q = q ∧ iI 0 = 0 ∧ True))) := by kernel_rfl

theorem ob_o38i (l : List Cl) : fnP (TN38 l) G 10000 fe38 (.r [] 0 (.r [] 1 (.lit (.r [] 0 (.r [] 0 (.cnd (.r [] 0 .nil) (.r [] 1 (.r [] 0 (.lp (l38 l) [] [] (fun b => (.r [] 0 (.cnd (.r [(642, .auto, Dr.val (kV l b.i))] 64 (.r [] 59 (.r [] 0 (.lit (.r [] 1 (.r [] 0 .nil)))))) (.r [(1025, .auto, Dr.heap)] 0 (.frz 7 0 (.r [] 0 .nil))))))))))))))) ([.agg [.int .u8 0, .int .i64 0, .int .i64 0], cls l]) ([.imm (.vals (flatK (mvX l))) (mvX l).length none, .int .i64 (chkI l)]) ([]) = (
id3 0 0 0 ∧ (okL (flatK l) (List.length l) ∧ okQ (unK (flatK l))) ∧ ((chkI (unK (flatK l)) != 0) = true → Cont.size (Cont.vals (flatK (mvX l))) = 0 ∧ List.length (mvX l) = 0 ∧ chkI (unK (flatK l)) =
chkI l ∧ True) ∧ ((chkI (unK (flatK l)) != 0) = false → leb (↑(List.length l) : Int) (↑(List.length l) : Int) = true ∧ leb ((↑(List.length l) : Int) * 24) 140737488355328 = true ∧ 1 = 1 ∧ iI 0 = 0 ∧
iI 0 = 0 ∧ iI 0 = 0 ∧ Int.toNat (↑(List.length l) : Int) = List.length l ∧ Int.toNat (↑(List.length l) : Int) = List.length l ∧ repL [AV.int IntKind.i64 0, AV.int IntKind.i64 0, AV.int IntKind.u8 0]
(Int.toNat (↑(List.length l) : Int)) = repL [AV.int IntKind.i64 0, AV.int IntKind.i64 0, AV.int IntKind.u8 0] (Int.toNat (↑(List.length l) : Int)) ∧ 0 = 0 ∧ Int.toNat (↑(List.length l) : Int) =
Int.toNat (↑(List.length l) : Int) ∧ Cont.vals (flatK l) = Cont.vals (flatK l) ∧ List.length l = List.length l ∧ (↑(List.length l) : Int) = (↑(List.length l) : Int) ∧ iI 0 = 0 ∧ (∃ (R : List Cl), ∃ (n
: Nat), 0 = (↑n : Int) ∧ n ≤ List.length l ∧ repL [AV.int IntKind.i64 0, AV.int IntKind.i64 0, AV.int IntKind.u8 0] (Int.toNat (↑(List.length l) : Int)) = flatK R ∧ List.length R = List.length l ∧
List.take n R = List.take n l) ∧ ∀ (b : L38), (∃ (R : List Cl), ∃ (n : Nat), b.i = (↑n : Int) ∧ n ≤ List.length l ∧ b.o = flatK R ∧ List.length R = List.length l ∧ List.take n R = List.take n l) →
(ltb b.i (↑(List.length l) : Int) = true → leb 0 b.i = true ∧ ltb b.i (↑(List.length l) : Int) = true ∧ ltn 0 (Cont.size (Cont.vals (flatK l))) = true ∧ (List.drop (Int.toNat b.i * 3) (flatK l))[0]? =
some (AV.int IntKind.i64 (kX l b.i)) ∧ (List.drop (Int.toNat b.i * 3) (flatK l))[1]? = some (AV.int IntKind.i64 (kY l b.i)) ∧ (List.drop (Int.toNat b.i * 3) (flatK l))[2]? = some (AV.int IntKind.u8
(kQ l b.i)) ∧ (id3 0 0 0 ∧ vldC (kX l b.i, kY l b.i, kQ l b.i) = true ∧ 0 ≤ kQ l b.i) ∧ leb 0 b.i = true ∧ ltb b.i (↑(Int.toNat (↑(List.length l) : Int)) : Int) = true ∧ List.length l = Int.toNat
(↑(List.length l) : Int) ∧ List.length l = Int.toNat (↑(List.length l) : Int) ∧ len' (Int.toNat b.i * 3 + 3) (Cont.size (Cont.vals b.o)) = true ∧ inR IntKind.i64 (b.i + 1) = true ∧ 1 = 1 ∧ iI 0 = 0 ∧
iI 0 = 0 ∧ iI 0 = 0 ∧ List.length l = List.length l ∧ List.length l = List.length l ∧ List.set (List.set (List.set b.o (Int.toNat b.i * 3) (AV.int IntKind.i64 (kX l b.i))) (Int.toNat b.i * 3 + 1)
(AV.int IntKind.i64 (kY l b.i))) (Int.toNat b.i * 3 + 1 + 1) (AV.int IntKind.u8 (kQ l b.i)) = List.set (List.set (List.set b.o (Int.toNat b.i * 3) (AV.int IntKind.i64 (kX l b.i))) (Int.toNat b.i * 3 +
1) (AV.int IntKind.i64 (kY l b.i))) (Int.toNat b.i * 3 + 1 + 1) (AV.int IntKind.u8 (kQ l b.i)) ∧ 0 = 0 ∧ Int.toNat (↑(List.length l) : Int) = Int.toNat (↑(List.length l) : Int) ∧ Cont.vals (flatK l) =
Cont.vals (flatK l) ∧ List.length l = List.length l ∧ (↑(List.length l) : Int) = (↑(List.length l) : Int) ∧ b.i + 1 = b.i + 1 ∧ (∃ (R : List Cl), ∃ (n : Nat), b.i + 1 = (↑n : Int) ∧ n ≤ List.length l
∧ List.set (List.set (List.set b.o (Int.toNat b.i * 3) (AV.int IntKind.i64 (kX l b.i))) (Int.toNat b.i * 3 + 1) (AV.int IntKind.i64 (kY l b.i))) (Int.toNat b.i * 3 + 1 + 1) (AV.int IntKind.u8 (kQ l
b.i)) = flatK R ∧ List.length R = List.length l ∧ List.take n R = List.take n l) ∧ List.length l - Int.toNat (b.i + 1) < List.length l - Int.toNat b.i ∧ True) ∧ (ltb b.i (↑(List.length l) : Int) =
false → ([(450, HO.blk (Blk.mk (Cont.vals b.o) 3 (List.length l) (some (List.length l)) (some false) true false))] = [(450, HO.blk (Blk.mk (Cont.vals (flatK l)) 3 (Int.toNat (↑(List.length l) : Int))
(some (Int.toNat (↑(List.length l) : Int))) (some false) true false))] ∧ Int.toNat (↑(List.length l) : Int) = List.length l ∧ List.length l < 1000000000 ∧ okQ l) ∧ Int.toNat (↑(List.length l) : Int) =
Int.toNat (↑(List.length l) : Int) ∧ Cont.vals (flatK (srtQ l)) = Cont.vals (flatK (mvX l)) ∧ Int.toNat (↑(List.length l) : Int) = List.length (mvX l) ∧ 0 = chkI l ∧ True))) := by kernel_rfl

end Go.Proofs.YtmnaghfndigfkaaDoor.X
