/-
 What is to be shown of the functions (made by a program).
-/
import Derived.Test.YtmnaghfndigfkaaDoorDVZ
import Derived.KernelRfl
set_option maxRecDepth 1000000
set_option linter.unusedVariables false
namespace Go.Proofs.YtmnaghfndigfkaaDoor.X
open Go Go.Ab

theorem ob_o108 (a : Int) : fnP (T0) G 10000 fe108 (.r [] 0 (.rs 3 [] 0 5 (.r [] 3 .nil) (.r [] 3 .nil))) ([.int .i64 a]) ([.bool (beyB a)]) ([]) = (
(ltb a (-16384) = true → true = beyB a ∧ True) ∧ (ltb a (-16384) = false → ltb 16384 a = beyB a ∧ True)) := by kernel_rfl

theorem ob_o55 (t a b : Int) : fnP (TV55) G 10000 fe55 (.r [] 0 (.rs 5 [] 1 7 (.r [] 63 (.lit (.r [] 0 .nil))) (.rs 5 [] 15 12 (.r [] 15 (.lit (.r [] 0 .nil))) (.rs 5 [] 15 17 (.r [] 3 (.lit (.r [] 0 .nil))) (.r [] 59 (.cnd (.r [] 0 .nil) (.r [] 0 .nil))))))) ([.agg [.int .u8 t, .int .i64 a, .int .i64 b]]) ([.int .i64 (bI (mvV t a b) 0 1)]) ([]) = (
inR IntKind.i64 t = true ∧ (leb 8 t = true → 1 = bI (mvV t a b) 0 1 ∧ True) ∧ (leb 8 t = false → (beyB a = true → 1 = bI (mvV t a b) 0 1 ∧ True) ∧ (beyB a = false → (beyB b = true → 1 = bI (mvV t a b)
0 1 ∧ True) ∧ (beyB b = false → inR IntKind.i64 (a + b) = true ∧ ((Int.tmod (a + b) 2 != 0) = true → 1 = bI (mvV t a b) 0 1 ∧ True) ∧ ((Int.tmod (a + b) 2 != 0) = false → 0 = bI (mvV t a b) 0 1 ∧
True))))) := by kernel_rfl

theorem ob_o39 (t a b : Int) : fnP (T0) G 10000 fe39 (.r [] 0 (.rs 4 [] 1 6 (.r [] 1023 (.lit (.r [] 0 .nil))) (.rs 5 [] 7 11 (.r [] 255 (.lit (.r [] 0 .nil))) (.rs 5 [] 7 16 (.r [] 63 (.lit (.r [] 0 .nil))) (.rs 5 [] 7 21 (.r [] 15 (.lit (.r [] 0 .nil))) (.rs 5 [] 7 26 (.r [] 3 (.lit (.r [] 0 .nil))) (.r [] 59 (.cnd (.r [] 0 .nil) (.r [] 0 .nil))))))))) ([.agg [.int .u8 t, .int .i64 a, .int .i64 b]]) ([.int .i64 (bI (mvV t a b) 1 0)]) ([]) = (
(ltb 7 t = true → 0 = bI (mvV t a b) 1 0 ∧ True) ∧ (ltb 7 t = false → (ltb a (-16384) = true → 0 = bI (mvV t a b) 1 0 ∧ True) ∧ (ltb a (-16384) = false → (ltb 16384 a = true → 0 = bI (mvV t a b) 1 0 ∧
True) ∧ (ltb 16384 a = false → (ltb b (-16384) = true → 0 = bI (mvV t a b) 1 0 ∧ True) ∧ (ltb b (-16384) = false → (ltb 16384 b = true → 0 = bI (mvV t a b) 1 0 ∧ True) ∧ (ltb 16384 b = false → inR
IntKind.i64 (a - b) = true ∧ ((Int.tmod (a - b) 2 != 0) = true → 0 = bI (mvV t a b) 1 0 ∧ True) ∧ ((Int.tmod (a - b) 2 != 0) = false → 1 = bI (mvV t a b) 1 0 ∧ True))))))) := by kernel_rfl

theorem ob_o112 (a b c d x y : Int) : fnP (T0) G 10000 fe112 (.r [] 0 (.r [] 165 .nil)) ([.agg [.int .i64 a, .int .i64 b, .int .i64 c, .int .i64 d], .int .i64 x, .int .i64 y]) ([.int .i64 (a * x + b * y), .int .i64 (c * x + d * y)]) ([]) = (
inR IntKind.i64 (a * x) = true ∧ inR IntKind.i64 (b * y) = true ∧ inR IntKind.i64 (a * x + b * y) = true ∧ inR IntKind.i64 (c * x) = true ∧ inR IntKind.i64 (d * y) = true ∧ inR IntKind.i64 (c * x + d
* y) = true ∧ a * x + b * y = a * x + b * y ∧ c * x + d * y = c * x + d * y ∧ True) := by kernel_rfl

theorem ob_o166_0 (a b x y : Int) : fnP (TV166) G 10000 fe166 (.r [] 0 (.r [yL 132, yL 133, yL 134, yL 135] 505 (.ff (.r [] 447 (.r [] 73 (.r [] 3 (.ff (.r [] 3 .nil)))))))) ([.agg [.int .u8 0, .int .i64 a, .int .i64 b], .agg [.int .i64 x, .int .i64 y]]) ([.agg [.int .i64 (mtX 0 x y + 2 * a), .int .i64 (mtY 0 x y + 2 * b)], .int .i64 0]) ([]) = (
(iI 0 ≤ iI 0 ∧ iI 0 ≤ iI 255) ∧ (!bI (mvV 0 a b) 0 1 != 0) = true ∧ (bI (ptB x y) 0 1 != 0) = false ∧ ((iI (-1) ≤ iI 1 ∧ iI 1 ≤ iI 1) ∧ (iI (-1) ≤ iI 0 ∧ iI 0 ≤ iI 1) ∧ (iI (-1) ≤ iI 0 ∧ iI 0 ≤ iI 1)
∧ (iI (-1) ≤ iI 1 ∧ iI 1 ≤ iI 1) ∧ smP x y) ∧ inR IntKind.i64 (2 * a) = true ∧ inR IntKind.i64 (1 * x + 0 * y + 2 * a) = true ∧ inR IntKind.i64 (2 * b) = true ∧ inR IntKind.i64 (0 * x + 1 * y + 2 * b)
= true ∧ (bI (ptB (1 * x + 0 * y + 2 * a) (0 * x + 1 * y + 2 * b)) 0 1 != 0) = false ∧ 1 * x + 0 * y + 2 * a = mtX 0 x y + 2 * a ∧ 0 * x + 1 * y + 2 * b = mtY 0 x y + 2 * b ∧ iI 0 = 0 ∧ True) := by kernel_rfl

theorem ob_o166_1 (a b x y : Int) : fnP (TV166) G 10000 fe166 (.r [] 0 (.r [yL 132, yL 133, yL 134, yL 135] 505 (.ff (.r [] 447 (.r [] 73 (.r [] 3 (.ff (.r [] 3 .nil)))))))) ([.agg [.int .u8 1, .int .i64 a, .int .i64 b], .agg [.int .i64 x, .int .i64 y]]) ([.agg [.int .i64 (mtX 1 x y + 2 * a), .int .i64 (mtY 1 x y + 2 * b)], .int .i64 0]) ([]) = (
(iI 0 ≤ iI 1 ∧ iI 1 ≤ iI 255) ∧ (!bI (mvV 1 a b) 0 1 != 0) = true ∧ (bI (ptB x y) 0 1 != 0) = false ∧ ((iI (-1) ≤ iI 0 ∧ iI 0 ≤ iI 1) ∧ (iI (-1) ≤ iI (-1) ∧ iI (-1) ≤ iI 1) ∧ (iI (-1) ≤ iI 1 ∧ iI 1 ≤
iI 1) ∧ (iI (-1) ≤ iI 0 ∧ iI 0 ≤ iI 1) ∧ smP x y) ∧ inR IntKind.i64 (2 * a) = true ∧ inR IntKind.i64 (0 * x + -1 * y + 2 * a) = true ∧ inR IntKind.i64 (2 * b) = true ∧ inR IntKind.i64 (1 * x + 0 * y +
2 * b) = true ∧ (bI (ptB (0 * x + -1 * y + 2 * a) (1 * x + 0 * y + 2 * b)) 0 1 != 0) = false ∧ 0 * x + -1 * y + 2 * a = mtX 1 x y + 2 * a ∧ 1 * x + 0 * y + 2 * b = mtY 1 x y + 2 * b ∧ iI 0 = 0 ∧ True) := by kernel_rfl

theorem ob_o166_2 (a b x y : Int) : fnP (TV166) G 10000 fe166 (.r [] 0 (.r [yL 132, yL 133, yL 134, yL 135] 505 (.ff (.r [] 447 (.r [] 73 (.r [] 3 (.ff (.r [] 3 .nil)))))))) ([.agg [.int .u8 2, .int .i64 a, .int .i64 b], .agg [.int .i64 x, .int .i64 y]]) ([.agg [.int .i64 (mtX 2 x y + 2 * a), .int .i64 (mtY 2 x y + 2 * b)], .int .i64 0]) ([]) = (
(iI 0 ≤ iI 2 ∧ iI 2 ≤ iI 255) ∧ (!bI (mvV 2 a b) 0 1 != 0) = true ∧ (bI (ptB x y) 0 1 != 0) = false ∧ ((iI (-1) ≤ iI (-1) ∧ iI (-1) ≤ iI 1) ∧ (iI (-1) ≤ iI 0 ∧ iI 0 ≤ iI 1) ∧ (iI (-1) ≤ iI 0 ∧ iI 0 ≤
iI 1) ∧ (iI (-1) ≤ iI (-1) ∧ iI (-1) ≤ iI 1) ∧ smP x y) ∧ inR IntKind.i64 (2 * a) = true ∧ inR IntKind.i64 (-1 * x + 0 * y + 2 * a) = true ∧ inR IntKind.i64 (2 * b) = true ∧ inR IntKind.i64 (0 * x +
-1 * y + 2 * b) = true ∧ (bI (ptB (-1 * x + 0 * y + 2 * a) (0 * x + -1 * y + 2 * b)) 0 1 != 0) = false ∧ -1 * x + 0 * y + 2 * a = mtX 2 x y + 2 * a ∧ 0 * x + -1 * y + 2 * b = mtY 2 x y + 2 * b ∧ iI 0
= 0 ∧ True) := by kernel_rfl

theorem ob_o166_3 (a b x y : Int) : fnP (TV166) G 10000 fe166 (.r [] 0 (.r [yL 132, yL 133, yL 134, yL 135] 505 (.ff (.r [] 447 (.r [] 73 (.r [] 3 (.ff (.r [] 3 .nil)))))))) ([.agg [.int .u8 3, .int .i64 a, .int .i64 b], .agg [.int .i64 x, .int .i64 y]]) ([.agg [.int .i64 (mtX 3 x y + 2 * a), .int .i64 (mtY 3 x y + 2 * b)], .int .i64 0]) ([]) = (
(iI 0 ≤ iI 3 ∧ iI 3 ≤ iI 255) ∧ (!bI (mvV 3 a b) 0 1 != 0) = true ∧ (bI (ptB x y) 0 1 != 0) = false ∧ ((iI (-1) ≤ iI 0 ∧ iI 0 ≤ iI 1) ∧ (iI (-1) ≤ iI 1 ∧ iI 1 ≤ iI 1) ∧ (iI (-1) ≤ iI (-1) ∧ iI (-1) ≤
iI 1) ∧ (iI (-1) ≤ iI 0 ∧ iI 0 ≤ iI 1) ∧ smP x y) ∧ inR IntKind.i64 (2 * a) = true ∧ inR IntKind.i64 (0 * x + 1 * y + 2 * a) = true ∧ inR IntKind.i64 (2 * b) = true ∧ inR IntKind.i64 (-1 * x + 0 * y +
2 * b) = true ∧ (bI (ptB (0 * x + 1 * y + 2 * a) (-1 * x + 0 * y + 2 * b)) 0 1 != 0) = false ∧ 0 * x + 1 * y + 2 * a = mtX 3 x y + 2 * a ∧ -1 * x + 0 * y + 2 * b = mtY 3 x y + 2 * b ∧ iI 0 = 0 ∧ True) := by kernel_rfl

theorem ob_o166_4 (a b x y : Int) : fnP (TV166) G 10000 fe166 (.r [] 0 (.r [yL 132, yL 133, yL 134, yL 135] 505 (.ff (.r [] 447 (.r [] 73 (.r [] 3 (.ff (.r [] 3 .nil)))))))) ([.agg [.int .u8 4, .int .i64 a, .int .i64 b], .agg [.int .i64 x, .int .i64 y]]) ([.agg [.int .i64 (mtX 4 x y + 2 * a), .int .i64 (mtY 4 x y + 2 * b)], .int .i64 0]) ([]) = (
(iI 0 ≤ iI 4 ∧ iI 4 ≤ iI 255) ∧ (!bI (mvV 4 a b) 0 1 != 0) = true ∧ (bI (ptB x y) 0 1 != 0) = false ∧ ((iI (-1) ≤ iI (-1) ∧ iI (-1) ≤ iI 1) ∧ (iI (-1) ≤ iI 0 ∧ iI 0 ≤ iI 1) ∧ (iI (-1) ≤ iI 0 ∧ iI 0 ≤
iI 1) ∧ (iI (-1) ≤ iI 1 ∧ iI 1 ≤ iI 1) ∧ smP x y) ∧ inR IntKind.i64 (2 * a) = true ∧ inR IntKind.i64 (-1 * x + 0 * y + 2 * a) = true ∧ inR IntKind.i64 (2 * b) = true ∧ inR IntKind.i64 (0 * x + 1 * y +
2 * b) = true ∧ (bI (ptB (-1 * x + 0 * y + 2 * a) (0 * x + 1 * y + 2 * b)) 0 1 != 0) = false ∧ -1 * x + 0 * y + 2 * a = mtX 4 x y + 2 * a ∧ 0 * x + 1 * y + 2 * b = mtY 4 x y + 2 * b ∧ iI 0 = 0 ∧ True) := by kernel_rfl

theorem ob_o166_5 (a b x y : Int) : fnP (TV166) G 10000 fe166 (.r [] 0 (.r [yL 132, yL 133, yL 134, yL 135] 505 (.ff (.r [] 447 (.r [] 73 (.r [] 3 (.ff (.r [] 3 .nil)))))))) ([.agg [.int .u8 5, .int .i64 a, .int .i64 b], .agg [.int .i64 x, .int .i64 y]]) ([.agg [.int .i64 (mtX 5 x y + 2 * a), .int .i64 (mtY 5 x y + 2 * b)], .int .i64 0]) ([]) = (
(iI 0 ≤ iI 5 ∧ iI 5 ≤ iI 255) ∧ (!bI (mvV 5 a b) 0 1 != 0) = true ∧ (bI (ptB x y) 0 1 != 0) = false ∧ ((iI (-1) ≤ iI 0 ∧ iI 0 ≤ iI 1) ∧ (iI (-1) ≤ iI (-1) ∧ iI (-1) ≤ iI 1) ∧ (iI (-1) ≤ iI (-1) ∧ iI
(-1) ≤ iI 1) ∧ (iI (-1) ≤ iI 0 ∧ iI 0 ≤ iI 1) ∧ smP x y) ∧ inR IntKind.i64 (2 * a) = true ∧ inR IntKind.i64 (0 * x + -1 * y + 2 * a) = true ∧ inR IntKind.i64 (2 * b) = true ∧ inR IntKind.i64 (-1 * x +
0 * y + 2 * b) = true ∧ (bI (ptB (0 * x + -1 * y + 2 * a) (-1 * x + 0 * y + 2 * b)) 0 1 != 0) = false ∧ 0 * x + -1 * y + 2 * a = mtX 5 x y + 2 * a ∧ -1 * x + 0 * y + 2 * b = mtY 5 x y + 2 * b ∧ iI 0 =
0 ∧ True) := by kernel_rfl

theorem ob_o166_6 (a b x y : Int) : fnP (TV166) G 10000 fe166 (.r [] 0 (.r [yL 132, yL 133, yL 134, yL 135] 505 (.ff (.r [] 447 (.r [] 73 (.r [] 3 (.ff (.r [] 3 .nil)))))))) ([.agg [.int .u8 6, .int .i64 a, .int .i64 b], .agg [.int .i64 x, .int .i64 y]]) ([.agg [.int .i64 (mtX 6 x y + 2 * a), .int .i64 (mtY 6 x y + 2 * b)], .int .i64 0]) ([]) = (
(iI 0 ≤ iI 6 ∧ iI 6 ≤ iI 255) ∧ (!bI (mvV 6 a b) 0 1 != 0) = true ∧ (bI (ptB x y) 0 1 != 0) = false ∧ ((iI (-1) ≤ iI 1 ∧ iI 1 ≤ iI 1) ∧ (iI (-1) ≤ iI 0 ∧ iI 0 ≤ iI 1) ∧ (iI (-1) ≤ iI 0 ∧ iI 0 ≤ iI 1)
∧ (iI (-1) ≤ iI (-1) ∧ iI (-1) ≤ iI 1) ∧ smP x y) ∧ inR IntKind.i64 (2 * a) = true ∧ inR IntKind.i64 (1 * x + 0 * y + 2 * a) = true ∧ inR IntKind.i64 (2 * b) = true ∧ inR IntKind.i64 (0 * x + -1 * y +
2 * b) = true ∧ (bI (ptB (1 * x + 0 * y + 2 * a) (0 * x + -1 * y + 2 * b)) 0 1 != 0) = false ∧ 1 * x + 0 * y + 2 * a = mtX 6 x y + 2 * a ∧ 0 * x + -1 * y + 2 * b = mtY 6 x y + 2 * b ∧ iI 0 = 0 ∧ True) := by kernel_rfl

theorem ob_o166_7 (a b x y : Int) : fnP (TV166) G 10000 fe166 (.r [] 0 (.r [yL 132, yL 133, yL 134, yL 135] 505 (.ff (.r [] 447 (.r [] 73 (.r [] 3 (.ff (.r [] 3 .nil)))))))) ([.agg [.int .u8 7, .int .i64 a, .int .i64 b], .agg [.int .i64 x, .int .i64 y]]) ([.agg [.int .i64 (mtX 7 x y + 2 * a), .int .i64 (mtY 7 x y + 2 * b)], .int .i64 0]) ([]) = (
(iI 0 ≤ iI 7 ∧ iI 7 ≤ iI 255) ∧ (!bI (mvV 7 a b) 0 1 != 0) = true ∧ (bI (ptB x y) 0 1 != 0) = false ∧ ((iI (-1) ≤ iI 0 ∧ iI 0 ≤ iI 1) ∧ (iI (-1) ≤ iI 1 ∧ iI 1 ≤ iI 1) ∧ (iI (-1) ≤ iI 1 ∧ iI 1 ≤ iI 1)
∧ (iI (-1) ≤ iI 0 ∧ iI 0 ≤ iI 1) ∧ smP x y) ∧ inR IntKind.i64 (2 * a) = true ∧ inR IntKind.i64 (0 * x + 1 * y + 2 * a) = true ∧ inR IntKind.i64 (2 * b) = true ∧ inR IntKind.i64 (1 * x + 0 * y + 2 * b)
= true ∧ (bI (ptB (0 * x + 1 * y + 2 * a) (1 * x + 0 * y + 2 * b)) 0 1 != 0) = false ∧ 0 * x + 1 * y + 2 * a = mtX 7 x y + 2 * a ∧ 1 * x + 0 * y + 2 * b = mtY 7 x y + 2 * b ∧ iI 0 = 0 ∧ True) := by kernel_rfl

theorem ob_o132 (t a b x y q : Int) : fnP (TV132) G 10000 fe132 (.r [] 0 (.r [(134, .auto, Dr.val [AV.int IntKind.i64 (sdX q), AV.int IntKind.i64 (sdY q)])] 389 (.r [] 59 (.r [] 3 (.r [] 59 (.r [] 1651 (.r [] 1 (.lp (l132 (mvQ t q) (hlf (mtX t (2 * x + 1) (2 * y + 1) + 2 * a)) (hlf (mtY t (2 * x + 1) (2 * y + 1) + 2 * b))) [] [] (fun b_1 => (.br (b_1.i == 0) (.jn (jD 0 true) [] [] (.r [] 0 .nil) (fun b_2 => (.lit (.r [] 15 (.r [] 3 (.cnd (.r [] 3 (.r [] 1 .nil)) (.r [] 1 .nil))))))) (.br (b_1.i == 1) (.jn (jD 1 true) [] [] (.r [] 0 .nil) (fun b_2 => (.lit (.r [] 15 (.r [] 3 (.cnd (.r [] 3 (.r [] 1 .nil)) (.r [] 1 .nil))))))) (.br (b_1.i == 2) (.jn (jD 2 true) [] [] (.r [] 0 .nil) (fun b_2 => (.lit (.r [] 15 (.r [] 3 (.cnd (.r [] 3 (.r [] 1 .nil)) (.r [] 1 .nil))))))) (.br (b_1.i == 3) (.jn (jD 3 true) [] [] (.r [] 0 .nil) (fun b_2 => (.lit (.r [] 15 (.r [] 3 (.cnd (.r [] 3 (.r [] 1 .nil)) (.r [] 1 .nil))))))) (.jn (jD 4 false) [] [] (.r [] 0 .nil) (fun b_2 => (.lit (.r [] 3 .nil))))))))))))))))) ([.agg [.int .u8 t, .int .i64 a, .int .i64 b], .agg [.int .i64 x, .int .i64 y, .int .u8 q]]) ([.agg [.int .i64 (mvX' t a x y), .int .i64 (mvY' t b x y), .int .u8 (mvQ t q)]]) ([]) = (
smP x y ∧ leb 0 q = true ∧ ltb q 4 = true ∧ (List.drop 0 (List.drop (Int.toNat q * 17) [AV.int IntKind.i64 0, AV.int IntKind.i64 (-1), AV.int IntKind.u8 2, AV.int IntKind.i64 0, AV.int IntKind.i64 0,
AV.int IntKind.i64 (-1), AV.int IntKind.u8 2, AV.int IntKind.i64 0, AV.int IntKind.i64 0, AV.int IntKind.u8 1, AV.int IntKind.i64 0, AV.int IntKind.i64 0, AV.int IntKind.u8 3, AV.int IntKind.i64 0,
AV.int IntKind.i64 0, AV.int IntKind.i64 2, AV.int IntKind.i64 0, AV.int IntKind.i64 1, AV.int IntKind.i64 0, AV.int IntKind.u8 1, AV.int IntKind.i64 1, AV.int IntKind.i64 1, AV.int IntKind.i64 0,
AV.int IntKind.u8 3, AV.int IntKind.i64 0, AV.int IntKind.i64 0, AV.int IntKind.u8 0, AV.int IntKind.i64 0, AV.int IntKind.i64 0, AV.int IntKind.u8 2, AV.int IntKind.i64 2, AV.int IntKind.i64 2,
AV.int IntKind.i64 2, AV.int IntKind.i64 0, AV.int IntKind.i64 0, AV.int IntKind.i64 1, AV.int IntKind.u8 2, AV.int IntKind.i64 1, AV.int IntKind.i64 0, AV.int IntKind.i64 1, AV.int IntKind.u8 0,
AV.int IntKind.i64 0, AV.int IntKind.i64 0, AV.int IntKind.u8 3, AV.int IntKind.i64 0, AV.int IntKind.i64 0, AV.int IntKind.u8 1, AV.int IntKind.i64 2, AV.int IntKind.i64 2, AV.int IntKind.i64 0,
AV.int IntKind.i64 2, AV.int IntKind.i64 (-1), AV.int IntKind.i64 0, AV.int IntKind.u8 1, AV.int IntKind.i64 0, AV.int IntKind.i64 (-1), AV.int IntKind.i64 0, AV.int IntKind.u8 1, AV.int IntKind.i64
0, AV.int IntKind.i64 0, AV.int IntKind.u8 2, AV.int IntKind.i64 0, AV.int IntKind.i64 0, AV.int IntKind.u8 0, AV.int IntKind.i64 0, AV.int IntKind.i64 0, AV.int IntKind.i64 0, AV.int IntKind.i64
2]))[0]? = some (AV.int IntKind.i64 (sdX q)) ∧ (List.drop 0 (List.drop (Int.toNat q * 17) [AV.int IntKind.i64 0, AV.int IntKind.i64 (-1), AV.int IntKind.u8 2, AV.int IntKind.i64 0, AV.int IntKind.i64
0, AV.int IntKind.i64 (-1), AV.int IntKind.u8 2, AV.int IntKind.i64 0, AV.int IntKind.i64 0, AV.int IntKind.u8 1, AV.int IntKind.i64 0, AV.int IntKind.i64 0, AV.int IntKind.u8 3, AV.int IntKind.i64 0,
AV.int IntKind.i64 0, AV.int IntKind.i64 2, AV.int IntKind.i64 0, AV.int IntKind.i64 1, AV.int IntKind.i64 0, AV.int IntKind.u8 1, AV.int IntKind.i64 1, AV.int IntKind.i64 1, AV.int IntKind.i64 0,
AV.int IntKind.u8 3, AV.int IntKind.i64 0, AV.int IntKind.i64 0, AV.int IntKind.u8 0, AV.int IntKind.i64 0, AV.int IntKind.i64 0, AV.int IntKind.u8 2, AV.int IntKind.i64 2, AV.int IntKind.i64 2,
AV.int IntKind.i64 2, AV.int IntKind.i64 0, AV.int IntKind.i64 0, AV.int IntKind.i64 1, AV.int IntKind.u8 2, AV.int IntKind.i64 1, AV.int IntKind.i64 0, AV.int IntKind.i64 1, AV.int IntKind.u8 0,
AV.int IntKind.i64 0, AV.int IntKind.i64 0, AV.int IntKind.u8 3, AV.int IntKind.i64 0, AV.int IntKind.i64 0, AV.int IntKind.u8 1, AV.int IntKind.i64 2, AV.int IntKind.i64 2, AV.int IntKind.i64 0,
AV.int IntKind.i64 2, AV.int IntKind.i64 (-1), AV.int IntKind.i64 0, AV.int IntKind.u8 1, AV.int IntKind.i64 0, AV.int IntKind.i64 (-1), AV.int IntKind.i64 0, AV.int IntKind.u8 1, AV.int IntKind.i64
0, AV.int IntKind.i64 0, AV.int IntKind.u8 2, AV.int IntKind.i64 0, AV.int IntKind.i64 0, AV.int IntKind.u8 0, AV.int IntKind.i64 0, AV.int IntKind.i64 0, AV.int IntKind.i64 0, AV.int IntKind.i64
2]))[1]? = some (AV.int IntKind.i64 (sdY q)) ∧ (mvO t a b ∧ s10k (2 * x + 1) (2 * y + 1)) ∧ (mvO t 0 0 ∧ s10k (sdX q) (sdY q)) ∧ inR IntKind.i64 (mtX t (2 * x + 1) (2 * y + 1) + 2 * a - bitI BinOp.and
IntKind.i64 (mtX t (2 * x + 1) (2 * y + 1) + 2 * a) 1) = true ∧ inR IntKind.i64 (Int.tdiv (mtX t (2 * x + 1) (2 * y + 1) + 2 * a - bitI BinOp.and IntKind.i64 (mtX t (2 * x + 1) (2 * y + 1) + 2 * a) 1)
2) = true ∧ inR IntKind.i64 (mtY t (2 * x + 1) (2 * y + 1) + 2 * b - bitI BinOp.and IntKind.i64 (mtY t (2 * x + 1) (2 * y + 1) + 2 * b) 1) = true ∧ inR IntKind.i64 (Int.tdiv (mtY t (2 * x + 1) (2 * y
+ 1) + 2 * b - bitI BinOp.and IntKind.i64 (mtY t (2 * x + 1) (2 * y + 1) + 2 * b) 1) 2) = true ∧ 1 = 1 ∧ t = t ∧ iI 0 = 0 ∧ iI 0 = 0 ∧ 1 = 1 ∧ x = x ∧ y = y ∧ q = q ∧ 1 = 1 ∧ iI 0 = 0 ∧ iI 0 = 0 ∧ iI
0 = 0 ∧ 1 = 1 ∧ mtX t (2 * x + 1) (2 * y + 1) + 2 * a = mtX t (2 * x + 1) (2 * y + 1) + 2 * a ∧ mtY t (2 * x + 1) (2 * y + 1) + 2 * b = mtY t (2 * x + 1) (2 * y + 1) + 2 * b ∧ 1 = 1 ∧ mtX t (sdX q)
(sdY q) + 0 = mtX t (sdX q) (sdY q) + 0 ∧ mtY t (sdX q) (sdY q) + 0 = mtY t (sdX q) (sdY q) + 0 ∧ 1 = 1 ∧ Int.tdiv (mtX t (2 * x + 1) (2 * y + 1) + 2 * a - bitI BinOp.and IntKind.i64 (mtX t (2 * x +
1) (2 * y + 1) + 2 * a) 1) 2 = hlf (mtX t (2 * x + 1) (2 * y + 1) + 2 * a) ∧ Int.tdiv (mtY t (2 * x + 1) (2 * y + 1) + 2 * b - bitI BinOp.and IntKind.i64 (mtY t (2 * x + 1) (2 * y + 1) + 2 * b) 1) 2 =
hlf (mtY t (2 * x + 1) (2 * y + 1) + 2 * b) ∧ iI 0 = 0 ∧ 0 = 0 ∧ 0 = 0 ∧ 0 = 0 ∧ iI 0 = 0 ∧ iI (-1) = -1 ∧ iI 2 = 2 ∧ iI 0 = 0 ∧ iI 0 = 0 ∧ iI (-1) = -1 ∧ iI 2 = 2 ∧ iI 0 = 0 ∧ iI 0 = 0 ∧ iI 1 = 1 ∧
iI 0 = 0 ∧ iI 0 = 0 ∧ iI 3 = 3 ∧ iI 0 = 0 ∧ iI 0 = 0 ∧ iI 2 = 2 ∧ iI 0 = 0 ∧ iI 1 = 1 ∧ iI 0 = 0 ∧ iI 1 = 1 ∧ iI 1 = 1 ∧ iI 1 = 1 ∧ iI 0 = 0 ∧ iI 3 = 3 ∧ iI 0 = 0 ∧ iI 0 = 0 ∧ iI 0 = 0 ∧ iI 0 = 0 ∧ iI
0 = 0 ∧ iI 2 = 2 ∧ iI 2 = 2 ∧ iI 2 = 2 ∧ iI 2 = 2 ∧ iI 0 = 0 ∧ iI 0 = 0 ∧ iI 1 = 1 ∧ iI 2 = 2 ∧ iI 1 = 1 ∧ iI 0 = 0 ∧ iI 1 = 1 ∧ iI 0 = 0 ∧ iI 0 = 0 ∧ iI 0 = 0 ∧ iI 3 = 3 ∧ iI 0 = 0 ∧ iI 0 = 0 ∧ iI 1
= 1 ∧ iI 2 = 2 ∧ iI 2 = 2 ∧ iI 0 = 0 ∧ iI 2 = 2 ∧ iI (-1) = -1 ∧ iI 0 = 0 ∧ iI 1 = 1 ∧ iI 0 = 0 ∧ iI (-1) = -1 ∧ iI 0 = 0 ∧ iI 1 = 1 ∧ iI 0 = 0 ∧ iI 0 = 0 ∧ iI 2 = 2 ∧ iI 0 = 0 ∧ iI 0 = 0 ∧ iI 0 = 0 ∧
iI 0 = 0 ∧ iI 0 = 0 ∧ iI 0 = 0 ∧ iI 2 = 2 ∧ iI 0 = 0 ∧ (∃ (n : Nat), 0 = (↑n : Int) ∧ n ≤ 4 ∧ 0 = kAft (mvQ t q) n) ∧ ∀ (b_1 : L132), (∃ (n : Nat), b_1.i = (↑n : Int) ∧ n ≤ 4 ∧ b_1.k = kAft (mvQ t q)
n) → ((b_1.i == 0) = true → (1 = 1 ∧ t = t ∧ iI 0 = 0 ∧ iI 0 = 0 ∧ 1 = 1 ∧ x = x ∧ y = y ∧ q = q ∧ 1 = 1 ∧ iI 0 = 0 ∧ iI 0 = 0 ∧ iI 0 = 0 ∧ 1 = 1 ∧ mtX t (2 * x + 1) (2 * y + 1) + 2 * a = mtX t (2 * x
+ 1) (2 * y + 1) + 2 * a ∧ mtY t (2 * x + 1) (2 * y + 1) + 2 * b = mtY t (2 * x + 1) (2 * y + 1) + 2 * b ∧ 1 = 1 ∧ mtX t (sdX q) (sdY q) + 0 = mtX t (sdX q) (sdY q) + 0 ∧ mtY t (sdX q) (sdY q) + 0 =
mtY t (sdX q) (sdY q) + 0 ∧ 1 = 1 ∧ hlf (mtX t (2 * x + 1) (2 * y + 1) + 2 * a) = hlf (mtX t (2 * x + 1) (2 * y + 1) + 2 * a) ∧ hlf (mtY t (2 * x + 1) (2 * y + 1) + 2 * b) = hlf (mtY t (2 * x + 1) (2
* y + 1) + 2 * b) ∧ b_1.k = b_1.k ∧ 0 = 0 ∧ 0 = 0 ∧ 0 = 0 ∧ iI 0 = 0 ∧ iI (-1) = -1 ∧ iI 2 = 2 ∧ iI 0 = 0 ∧ iI 0 = 0 ∧ iI (-1) = -1 ∧ iI 2 = 2 ∧ iI 0 = 0 ∧ iI 0 = 0 ∧ iI 1 = 1 ∧ iI 0 = 0 ∧ iI 0 = 0 ∧
iI 3 = 3 ∧ iI 0 = 0 ∧ iI 0 = 0 ∧ iI 2 = 2 ∧ iI 0 = 0 ∧ iI 1 = 1 ∧ iI 0 = 0 ∧ iI 1 = 1 ∧ iI 1 = 1 ∧ iI 1 = 1 ∧ iI 0 = 0 ∧ iI 3 = 3 ∧ iI 0 = 0 ∧ iI 0 = 0 ∧ iI 0 = 0 ∧ iI 0 = 0 ∧ iI 0 = 0 ∧ iI 2 = 2 ∧ iI
2 = 2 ∧ iI 2 = 2 ∧ iI 2 = 2 ∧ iI 0 = 0 ∧ iI 0 = 0 ∧ iI 1 = 1 ∧ iI 2 = 2 ∧ iI 1 = 1 ∧ iI 0 = 0 ∧ iI 1 = 1 ∧ iI 0 = 0 ∧ iI 0 = 0 ∧ iI 0 = 0 ∧ iI 3 = 3 ∧ iI 0 = 0 ∧ iI 0 = 0 ∧ iI 1 = 1 ∧ iI 2 = 2 ∧ iI 2
= 2 ∧ iI 0 = 0 ∧ iI 2 = 2 ∧ iI (-1) = -1 ∧ iI 0 = 0 ∧ iI 1 = 1 ∧ iI 0 = 0 ∧ iI (-1) = -1 ∧ iI 0 = 0 ∧ iI 1 = 1 ∧ iI 0 = 0 ∧ iI 0 = 0 ∧ iI 2 = 2 ∧ iI 0 = 0 ∧ iI 0 = 0 ∧ iI 0 = 0 ∧ iI 0 = 0 ∧ iI 0 = 0 ∧
iI 0 = 0 ∧ iI 2 = 2 ∧ b_1.i = 0 ∧ ltb b_1.i 4 = true ∧ True ∧ True) ∧ ∀ (b_2 : Unit), True → ((0 == mtX t (sdX q) (sdY q) + 0 && -1 == mtY t (sdX q) (sdY q) + 0) = true → 1 = 1 ∧ t = t ∧ iI 0 = 0 ∧ iI
0 = 0 ∧ 1 = 1 ∧ x = x ∧ y = y ∧ q = q ∧ 1 = 1 ∧ iI 0 = 0 ∧ iI 0 = 0 ∧ iI 0 = 0 ∧ 1 = 1 ∧ mtX t (2 * x + 1) (2 * y + 1) + 2 * a = mtX t (2 * x + 1) (2 * y + 1) + 2 * a ∧ mtY t (2 * x + 1) (2 * y + 1) +
2 * b = mtY t (2 * x + 1) (2 * y + 1) + 2 * b ∧ 1 = 1 ∧ mtX t (sdX q) (sdY q) + 0 = mtX t (sdX q) (sdY q) + 0 ∧ mtY t (sdX q) (sdY q) + 0 = mtY t (sdX q) (sdY q) + 0 ∧ 1 = 1 ∧ hlf (mtX t (2 * x + 1)
(2 * y + 1) + 2 * a) = hlf (mtX t (2 * x + 1) (2 * y + 1) + 2 * a) ∧ hlf (mtY t (2 * x + 1) (2 * y + 1) + 2 * b) = hlf (mtY t (2 * x + 1) (2 * y + 1) + 2 * b) ∧ iI 0 = 0 ∧ 0 = 0 ∧ 0 = 0 ∧ 0 = 0 ∧ iI 0
= 0 ∧ iI (-1) = -1 ∧ iI 2 = 2 ∧ iI 0 = 0 ∧ iI 0 = 0 ∧ iI (-1) = -1 ∧ iI 2 = 2 ∧ iI 0 = 0 ∧ iI 0 = 0 ∧ iI 1 = 1 ∧ iI 0 = 0 ∧ iI 0 = 0 ∧ iI 3 = 3 ∧ iI 0 = 0 ∧ iI 0 = 0 ∧ iI 2 = 2 ∧ iI 0 = 0 ∧ iI 1 = 1 ∧
iI 0 = 0 ∧ iI 1 = 1 ∧ iI 1 = 1 ∧ iI 1 = 1 ∧ iI 0 = 0 ∧ iI 3 = 3 ∧ iI 0 = 0 ∧ iI 0 = 0 ∧ iI 0 = 0 ∧ iI 0 = 0 ∧ iI 0 = 0 ∧ iI 2 = 2 ∧ iI 2 = 2 ∧ iI 2 = 2 ∧ iI 2 = 2 ∧ iI 0 = 0 ∧ iI 0 = 0 ∧ iI 1 = 1 ∧ iI
2 = 2 ∧ iI 1 = 1 ∧ iI 0 = 0 ∧ iI 1 = 1 ∧ iI 0 = 0 ∧ iI 0 = 0 ∧ iI 0 = 0 ∧ iI 3 = 3 ∧ iI 0 = 0 ∧ iI 0 = 0 ∧ iI 1 = 1 ∧ iI 2 = 2 ∧ iI 2 = 2 ∧ iI 0 = 0 ∧ iI 2 = 2 ∧ iI (-1) = -1 ∧ iI 0 = 0 ∧ iI 1 = 1 ∧
iI 0 = 0 ∧ iI (-1) = -1 ∧ iI 0 = 0 ∧ iI 1 = 1 ∧ iI 0 = 0 ∧ iI 0 = 0 ∧ iI 2 = 2 ∧ iI 0 = 0 ∧ iI 0 = 0 ∧ iI 0 = 0 ∧ iI 0 = 0 ∧ iI 0 = 0 ∧ iI 0 = 0 ∧ iI 2 = 2 ∧ iI 1 = 1 ∧ (∃ (n : Nat), 1 = (↑n : Int) ∧
n ≤ 4 ∧ 0 = kAft (mvQ t q) n) ∧ 3 < 4 - Int.toNat b_1.i ∧ True) ∧ ((0 == mtX t (sdX q) (sdY q) + 0 && -1 == mtY t (sdX q) (sdY q) + 0) = false → 1 = 1 ∧ t = t ∧ iI 0 = 0 ∧ iI 0 = 0 ∧ 1 = 1 ∧ x = x ∧ y
= y ∧ q = q ∧ 1 = 1 ∧ iI 0 = 0 ∧ iI 0 = 0 ∧ iI 0 = 0 ∧ 1 = 1 ∧ mtX t (2 * x + 1) (2 * y + 1) + 2 * a = mtX t (2 * x + 1) (2 * y + 1) + 2 * a ∧ mtY t (2 * x + 1) (2 * y + 1) + 2 * b = mtY t (2 * x + 1)
(2 * y + 1) + 2 * b ∧ 1 = 1 ∧ mtX t (sdX q) (sdY q) + 0 = mtX t (sdX q) (sdY q) + 0 ∧ mtY t (sdX q) (sdY q) + 0 = mtY t (sdX q) (sdY q) + 0 ∧ 1 = 1 ∧ hlf (mtX t (2 * x + 1) (2 * y + 1) + 2 * a) = hlf
(mtX t (2 * x + 1) (2 * y + 1) + 2 * a) ∧ hlf (mtY t (2 * x + 1) (2 * y + 1) + 2 * b) = hlf (mtY t (2 * x + 1) (2 * y + 1) + 2 * b) ∧ b_1.k = b_1.k ∧ 0 = 0 ∧ 0 = 0 ∧ 0 = 0 ∧ iI 0 = 0 ∧ iI (-1) = -1 ∧
iI 2 = 2 ∧ iI 0 = 0 ∧ iI 0 = 0 ∧ iI (-1) = -1 ∧ iI 2 = 2 ∧ iI 0 = 0 ∧ iI 0 = 0 ∧ iI 1 = 1 ∧ iI 0 = 0 ∧ iI 0 = 0 ∧ iI 3 = 3 ∧ iI 0 = 0 ∧ iI 0 = 0 ∧ iI 2 = 2 ∧ iI 0 = 0 ∧ iI 1 = 1 ∧ iI 0 = 0 ∧ iI 1 = 1
∧ iI 1 = 1 ∧ iI 1 = 1 ∧ iI 0 = 0 ∧ iI 3 = 3 ∧ iI 0 = 0 ∧ iI 0 = 0 ∧ iI 0 = 0 ∧ iI 0 = 0 ∧ iI 0 = 0 ∧ iI 2 = 2 ∧ iI 2 = 2 ∧ iI 2 = 2 ∧ iI 2 = 2 ∧ iI 0 = 0 ∧ iI 0 = 0 ∧ iI 1 = 1 ∧ iI 2 = 2 ∧ iI 1 = 1 ∧
iI 0 = 0 ∧ iI 1 = 1 ∧ iI 0 = 0 ∧ iI 0 = 0 ∧ iI 0 = 0 ∧ iI 3 = 3 ∧ iI 0 = 0 ∧ iI 0 = 0 ∧ iI 1 = 1 ∧ iI 2 = 2 ∧ iI 2 = 2 ∧ iI 0 = 0 ∧ iI 2 = 2 ∧ iI (-1) = -1 ∧ iI 0 = 0 ∧ iI 1 = 1 ∧ iI 0 = 0 ∧ iI (-1) =
-1 ∧ iI 0 = 0 ∧ iI 1 = 1 ∧ iI 0 = 0 ∧ iI 0 = 0 ∧ iI 2 = 2 ∧ iI 0 = 0 ∧ iI 0 = 0 ∧ iI 0 = 0 ∧ iI 0 = 0 ∧ iI 0 = 0 ∧ iI 0 = 0 ∧ iI 2 = 2 ∧ iI 1 = 1 ∧ (∃ (n : Nat), 1 = (↑n : Int) ∧ n ≤ 4 ∧ b_1.k = kAft
(mvQ t q) n) ∧ 3 < 4 - Int.toNat b_1.i ∧ True)) ∧ ((b_1.i == 0) = false → ((b_1.i == 1) = true → (1 = 1 ∧ t = t ∧ iI 0 = 0 ∧ iI 0 = 0 ∧ 1 = 1 ∧ x = x ∧ y = y ∧ q = q ∧ 1 = 1 ∧ iI 0 = 0 ∧ iI 0 = 0 ∧ iI
0 = 0 ∧ 1 = 1 ∧ mtX t (2 * x + 1) (2 * y + 1) + 2 * a = mtX t (2 * x + 1) (2 * y + 1) + 2 * a ∧ mtY t (2 * x + 1) (2 * y + 1) + 2 * b = mtY t (2 * x + 1) (2 * y + 1) + 2 * b ∧ 1 = 1 ∧ mtX t (sdX q)
(sdY q) + 0 = mtX t (sdX q) (sdY q) + 0 ∧ mtY t (sdX q) (sdY q) + 0 = mtY t (sdX q) (sdY q) + 0 ∧ 1 = 1 ∧ hlf (mtX t (2 * x + 1) (2 * y + 1) + 2 * a) = hlf (mtX t (2 * x + 1) (2 * y + 1) + 2 * a) ∧
hlf (mtY t (2 * x + 1) (2 * y + 1) + 2 * b) = hlf (mtY t (2 * x + 1) (2 * y + 1) + 2 * b) ∧ b_1.k = b_1.k ∧ 0 = 0 ∧ 0 = 0 ∧ 0 = 0 ∧ iI 0 = 0 ∧ iI (-1) = -1 ∧ iI 2 = 2 ∧ iI 0 = 0 ∧ iI 0 = 0 ∧ iI (-1) =
-1 ∧ iI 2 = 2 ∧ iI 0 = 0 ∧ iI 0 = 0 ∧ iI 1 = 1 ∧ iI 0 = 0 ∧ iI 0 = 0 ∧ iI 3 = 3 ∧ iI 0 = 0 ∧ iI 0 = 0 ∧ iI 2 = 2 ∧ iI 0 = 0 ∧ iI 1 = 1 ∧ iI 0 = 0 ∧ iI 1 = 1 ∧ iI 1 = 1 ∧ iI 1 = 1 ∧ iI 0 = 0 ∧ iI 3 = 3
∧ iI 0 = 0 ∧ iI 0 = 0 ∧ iI 0 = 0 ∧ iI 0 = 0 ∧ iI 0 = 0 ∧ iI 2 = 2 ∧ iI 2 = 2 ∧ iI 2 = 2 ∧ iI 2 = 2 ∧ iI 0 = 0 ∧ iI 0 = 0 ∧ iI 1 = 1 ∧ iI 2 = 2 ∧ iI 1 = 1 ∧ iI 0 = 0 ∧ iI 1 = 1 ∧ iI 0 = 0 ∧ iI 0 = 0 ∧
iI 0 = 0 ∧ iI 3 = 3 ∧ iI 0 = 0 ∧ iI 0 = 0 ∧ iI 1 = 1 ∧ iI 2 = 2 ∧ iI 2 = 2 ∧ iI 0 = 0 ∧ iI 2 = 2 ∧ iI (-1) = -1 ∧ iI 0 = 0 ∧ iI 1 = 1 ∧ iI 0 = 0 ∧ iI (-1) = -1 ∧ iI 0 = 0 ∧ iI 1 = 1 ∧ iI 0 = 0 ∧ iI 0
= 0 ∧ iI 2 = 2 ∧ iI 0 = 0 ∧ iI 0 = 0 ∧ iI 0 = 0 ∧ iI 0 = 0 ∧ iI 0 = 0 ∧ iI 0 = 0 ∧ iI 2 = 2 ∧ b_1.i = 1 ∧ ltb b_1.i 4 = true ∧ True ∧ True) ∧ ∀ (b_2 : Unit), True → ((1 == mtX t (sdX q) (sdY q) + 0 &&
0 == mtY t (sdX q) (sdY q) + 0) = true → 1 = 1 ∧ t = t ∧ iI 0 = 0 ∧ iI 0 = 0 ∧ 1 = 1 ∧ x = x ∧ y = y ∧ q = q ∧ 1 = 1 ∧ iI 0 = 0 ∧ iI 0 = 0 ∧ iI 0 = 0 ∧ 1 = 1 ∧ mtX t (2 * x + 1) (2 * y + 1) + 2 * a =
mtX t (2 * x + 1) (2 * y + 1) + 2 * a ∧ mtY t (2 * x + 1) (2 * y + 1) + 2 * b = mtY t (2 * x + 1) (2 * y + 1) + 2 * b ∧ 1 = 1 ∧ mtX t (sdX q) (sdY q) + 0 = mtX t (sdX q) (sdY q) + 0 ∧ mtY t (sdX q)
(sdY q) + 0 = mtY t (sdX q) (sdY q) + 0 ∧ 1 = 1 ∧ hlf (mtX t (2 * x + 1) (2 * y + 1) + 2 * a) = hlf (mtX t (2 * x + 1) (2 * y + 1) + 2 * a) ∧ hlf (mtY t (2 * x + 1) (2 * y + 1) + 2 * b) = hlf (mtY t
(2 * x + 1) (2 * y + 1) + 2 * b) ∧ iI 1 = 1 ∧ 0 = 0 ∧ 0 = 0 ∧ 0 = 0 ∧ iI 0 = 0 ∧ iI (-1) = -1 ∧ iI 2 = 2 ∧ iI 0 = 0 ∧ iI 0 = 0 ∧ iI (-1) = -1 ∧ iI 2 = 2 ∧ iI 0 = 0 ∧ iI 0 = 0 ∧ iI 1 = 1 ∧ iI 0 = 0 ∧
iI 0 = 0 ∧ iI 3 = 3 ∧ iI 0 = 0 ∧ iI 0 = 0 ∧ iI 2 = 2 ∧ iI 0 = 0 ∧ iI 1 = 1 ∧ iI 0 = 0 ∧ iI 1 = 1 ∧ iI 1 = 1 ∧ iI 1 = 1 ∧ iI 0 = 0 ∧ iI 3 = 3 ∧ iI 0 = 0 ∧ iI 0 = 0 ∧ iI 0 = 0 ∧ iI 0 = 0 ∧ iI 0 = 0 ∧ iI
2 = 2 ∧ iI 2 = 2 ∧ iI 2 = 2 ∧ iI 2 = 2 ∧ iI 0 = 0 ∧ iI 0 = 0 ∧ iI 1 = 1 ∧ iI 2 = 2 ∧ iI 1 = 1 ∧ iI 0 = 0 ∧ iI 1 = 1 ∧ iI 0 = 0 ∧ iI 0 = 0 ∧ iI 0 = 0 ∧ iI 3 = 3 ∧ iI 0 = 0 ∧ iI 0 = 0 ∧ iI 1 = 1 ∧ iI 2
= 2 ∧ iI 2 = 2 ∧ iI 0 = 0 ∧ iI 2 = 2 ∧ iI (-1) = -1 ∧ iI 0 = 0 ∧ iI 1 = 1 ∧ iI 0 = 0 ∧ iI (-1) = -1 ∧ iI 0 = 0 ∧ iI 1 = 1 ∧ iI 0 = 0 ∧ iI 0 = 0 ∧ iI 2 = 2 ∧ iI 0 = 0 ∧ iI 0 = 0 ∧ iI 0 = 0 ∧ iI 0 = 0 ∧
iI 0 = 0 ∧ iI 0 = 0 ∧ iI 2 = 2 ∧ iI 2 = 2 ∧ (∃ (n : Nat), 2 = (↑n : Int) ∧ n ≤ 4 ∧ 1 = kAft (mvQ t q) n) ∧ 2 < 4 - Int.toNat b_1.i ∧ True) ∧ ((1 == mtX t (sdX q) (sdY q) + 0 && 0 == mtY t (sdX q) (sdY
q) + 0) = false → 1 = 1 ∧ t = t ∧ iI 0 = 0 ∧ iI 0 = 0 ∧ 1 = 1 ∧ x = x ∧ y = y ∧ q = q ∧ 1 = 1 ∧ iI 0 = 0 ∧ iI 0 = 0 ∧ iI 0 = 0 ∧ 1 = 1 ∧ mtX t (2 * x + 1) (2 * y + 1) + 2 * a = mtX t (2 * x + 1) (2 *
y + 1) + 2 * a ∧ mtY t (2 * x + 1) (2 * y + 1) + 2 * b = mtY t (2 * x + 1) (2 * y + 1) + 2 * b ∧ 1 = 1 ∧ mtX t (sdX q) (sdY q) + 0 = mtX t (sdX q) (sdY q) + 0 ∧ mtY t (sdX q) (sdY q) + 0 = mtY t (sdX
q) (sdY q) + 0 ∧ 1 = 1 ∧ hlf (mtX t (2 * x + 1) (2 * y + 1) + 2 * a) = hlf (mtX t (2 * x + 1) (2 * y + 1) + 2 * a) ∧ hlf (mtY t (2 * x + 1) (2 * y + 1) + 2 * b) = hlf (mtY t (2 * x + 1) (2 * y + 1) +
2 * b) ∧ b_1.k = b_1.k ∧ 0 = 0 ∧ 0 = 0 ∧ 0 = 0 ∧ iI 0 = 0 ∧ iI (-1) = -1 ∧ iI 2 = 2 ∧ iI 0 = 0 ∧ iI 0 = 0 ∧ iI (-1) = -1 ∧ iI 2 = 2 ∧ iI 0 = 0 ∧ iI 0 = 0 ∧ iI 1 = 1 ∧ iI 0 = 0 ∧ iI 0 = 0 ∧ iI 3 = 3 ∧
iI 0 = 0 ∧ iI 0 = 0 ∧ iI 2 = 2 ∧ iI 0 = 0 ∧ iI 1 = 1 ∧ iI 0 = 0 ∧ iI 1 = 1 ∧ iI 1 = 1 ∧ iI 1 = 1 ∧ iI 0 = 0 ∧ iI 3 = 3 ∧ iI 0 = 0 ∧ iI 0 = 0 ∧ iI 0 = 0 ∧ iI 0 = 0 ∧ iI 0 = 0 ∧ iI 2 = 2 ∧ iI 2 = 2 ∧ iI
2 = 2 ∧ iI 2 = 2 ∧ iI 0 = 0 ∧ iI 0 = 0 ∧ iI 1 = 1 ∧ iI 2 = 2 ∧ iI 1 = 1 ∧ iI 0 = 0 ∧ iI 1 = 1 ∧ iI 0 = 0 ∧ iI 0 = 0 ∧ iI 0 = 0 ∧ iI 3 = 3 ∧ iI 0 = 0 ∧ iI 0 = 0 ∧ iI 1 = 1 ∧ iI 2 = 2 ∧ iI 2 = 2 ∧ iI 0
= 0 ∧ iI 2 = 2 ∧ iI (-1) = -1 ∧ iI 0 = 0 ∧ iI 1 = 1 ∧ iI 0 = 0 ∧ iI (-1) = -1 ∧ iI 0 = 0 ∧ iI 1 = 1 ∧ iI 0 = 0 ∧ iI 0 = 0 ∧ iI 2 = 2 ∧ iI 0 = 0 ∧ iI 0 = 0 ∧ iI 0 = 0 ∧ iI 0 = 0 ∧ iI 0 = 0 ∧ iI 0 = 0 ∧
iI 2 = 2 ∧ iI 2 = 2 ∧ (∃ (n : Nat), 2 = (↑n : Int) ∧ n ≤ 4 ∧ b_1.k = kAft (mvQ t q) n) ∧ 2 < 4 - Int.toNat b_1.i ∧ True)) ∧ ((b_1.i == 1) = false → ((b_1.i == 2) = true → (1 = 1 ∧ t = t ∧ iI 0 = 0 ∧
iI 0 = 0 ∧ 1 = 1 ∧ x = x ∧ y = y ∧ q = q ∧ 1 = 1 ∧ iI 0 = 0 ∧ iI 0 = 0 ∧ iI 0 = 0 ∧ 1 = 1 ∧ mtX t (2 * x + 1) (2 * y + 1) + 2 * a = mtX t (2 * x + 1) (2 * y + 1) + 2 * a ∧ mtY t (2 * x + 1) (2 * y +
1) + 2 * b = mtY t (2 * x + 1) (2 * y + 1) + 2 * b ∧ 1 = 1 ∧ mtX t (sdX q) (sdY q) + 0 = mtX t (sdX q) (sdY q) + 0 ∧ mtY t (sdX q) (sdY q) + 0 = mtY t (sdX q) (sdY q) + 0 ∧ 1 = 1 ∧ hlf (mtX t (2 * x +
1) (2 * y + 1) + 2 * a) = hlf (mtX t (2 * x + 1) (2 * y + 1) + 2 * a) ∧ hlf (mtY t (2 * x + 1) (2 * y + 1) + 2 * b) = hlf (mtY t (2 * x + 1) (2 * y + 1) + 2 * b) ∧ b_1.k = b_1.k ∧ 0 = 0 ∧ 0 = 0 ∧ 0 =
0 ∧ iI 0 = 0 ∧ iI (-1) = -1 ∧ iI 2 = 2 ∧ iI 0 = 0 ∧ iI 0 = 0 ∧ iI (-1) = -1 ∧ iI 2 = 2 ∧ iI 0 = 0 ∧ iI 0 = 0 ∧ iI 1 = 1 ∧ iI 0 = 0 ∧ iI 0 = 0 ∧ iI 3 = 3 ∧ iI 0 = 0 ∧ iI 0 = 0 ∧ iI 2 = 2 ∧ iI 0 = 0 ∧
iI 1 = 1 ∧ iI 0 = 0 ∧ iI 1 = 1 ∧ iI 1 = 1 ∧ iI 1 = 1 ∧ iI 0 = 0 ∧ iI 3 = 3 ∧ iI 0 = 0 ∧ iI 0 = 0 ∧ iI 0 = 0 ∧ iI 0 = 0 ∧ iI 0 = 0 ∧ iI 2 = 2 ∧ iI 2 = 2 ∧ iI 2 = 2 ∧ iI 2 = 2 ∧ iI 0 = 0 ∧ iI 0 = 0 ∧ iI
1 = 1 ∧ iI 2 = 2 ∧ iI 1 = 1 ∧ iI 0 = 0 ∧ iI 1 = 1 ∧ iI 0 = 0 ∧ iI 0 = 0 ∧ iI 0 = 0 ∧ iI 3 = 3 ∧ iI 0 = 0 ∧ iI 0 = 0 ∧ iI 1 = 1 ∧ iI 2 = 2 ∧ iI 2 = 2 ∧ iI 0 = 0 ∧ iI 2 = 2 ∧ iI (-1) = -1 ∧ iI 0 = 0 ∧
iI 1 = 1 ∧ iI 0 = 0 ∧ iI (-1) = -1 ∧ iI 0 = 0 ∧ iI 1 = 1 ∧ iI 0 = 0 ∧ iI 0 = 0 ∧ iI 2 = 2 ∧ iI 0 = 0 ∧ iI 0 = 0 ∧ iI 0 = 0 ∧ iI 0 = 0 ∧ iI 0 = 0 ∧ iI 0 = 0 ∧ iI 2 = 2 ∧ b_1.i = 2 ∧ ltb b_1.i 4 = true
∧ True ∧ True) ∧ ∀ (b_2 : Unit), True → ((0 == mtX t (sdX q) (sdY q) + 0 && 1 == mtY t (sdX q) (sdY q) + 0) = true → 1 = 1 ∧ t = t ∧ iI 0 = 0 ∧ iI 0 = 0 ∧ 1 = 1 ∧ x = x ∧ y = y ∧ q = q ∧ 1 = 1 ∧ iI 0
= 0 ∧ iI 0 = 0 ∧ iI 0 = 0 ∧ 1 = 1 ∧ mtX t (2 * x + 1) (2 * y + 1) + 2 * a = mtX t (2 * x + 1) (2 * y + 1) + 2 * a ∧ mtY t (2 * x + 1) (2 * y + 1) + 2 * b = mtY t (2 * x + 1) (2 * y + 1) + 2 * b ∧ 1 =
1 ∧ mtX t (sdX q) (sdY q) + 0 = mtX t (sdX q) (sdY q) + 0 ∧ mtY t (sdX q) (sdY q) + 0 = mtY t (sdX q) (sdY q) + 0 ∧ 1 = 1 ∧ hlf (mtX t (2 * x + 1) (2 * y + 1) + 2 * a) = hlf (mtX t (2 * x + 1) (2 * y
+ 1) + 2 * a) ∧ hlf (mtY t (2 * x + 1) (2 * y + 1) + 2 * b) = hlf (mtY t (2 * x + 1) (2 * y + 1) + 2 * b) ∧ iI 2 = 2 ∧ 0 = 0 ∧ 0 = 0 ∧ 0 = 0 ∧ iI 0 = 0 ∧ iI (-1) = -1 ∧ iI 2 = 2 ∧ iI 0 = 0 ∧ iI 0 = 0
∧ iI (-1) = -1 ∧ iI 2 = 2 ∧ iI 0 = 0 ∧ iI 0 = 0 ∧ iI 1 = 1 ∧ iI 0 = 0 ∧ iI 0 = 0 ∧ iI 3 = 3 ∧ iI 0 = 0 ∧ iI 0 = 0 ∧ iI 2 = 2 ∧ iI 0 = 0 ∧ iI 1 = 1 ∧ iI 0 = 0 ∧ iI 1 = 1 ∧ iI 1 = 1 ∧ iI 1 = 1 ∧ iI 0 =
0 ∧ iI 3 = 3 ∧ iI 0 = 0 ∧ iI 0 = 0 ∧ iI 0 = 0 ∧ iI 0 = 0 ∧ iI 0 = 0 ∧ iI 2 = 2 ∧ iI 2 = 2 ∧ iI 2 = 2 ∧ iI 2 = 2 ∧ iI 0 = 0 ∧ iI 0 = 0 ∧ iI 1 = 1 ∧ iI 2 = 2 ∧ iI 1 = 1 ∧ iI 0 = 0 ∧ iI 1 = 1 ∧ iI 0 = 0
∧ iI 0 = 0 ∧ iI 0 = 0 ∧ iI 3 = 3 ∧ iI 0 = 0 ∧ iI 0 = 0 ∧ iI 1 = 1 ∧ iI 2 = 2 ∧ iI 2 = 2 ∧ iI 0 = 0 ∧ iI 2 = 2 ∧ iI (-1) = -1 ∧ iI 0 = 0 ∧ iI 1 = 1 ∧ iI 0 = 0 ∧ iI (-1) = -1 ∧ iI 0 = 0 ∧ iI 1 = 1 ∧ iI
0 = 0 ∧ iI 0 = 0 ∧ iI 2 = 2 ∧ iI 0 = 0 ∧ iI 0 = 0 ∧ iI 0 = 0 ∧ iI 0 = 0 ∧ iI 0 = 0 ∧ iI 0 = 0 ∧ iI 2 = 2 ∧ iI 3 = 3 ∧ (∃ (n : Nat), 3 = (↑n : Int) ∧ n ≤ 4 ∧ 2 = kAft (mvQ t q) n) ∧ 1 < 4 - Int.toNat
b_1.i ∧ True) ∧ ((0 == mtX t (sdX q) (sdY q) + 0 && 1 == mtY t (sdX q) (sdY q) + 0) = false → 1 = 1 ∧ t = t ∧ iI 0 = 0 ∧ iI 0 = 0 ∧ 1 = 1 ∧ x = x ∧ y = y ∧ q = q ∧ 1 = 1 ∧ iI 0 = 0 ∧ iI 0 = 0 ∧ iI 0 =
0 ∧ 1 = 1 ∧ mtX t (2 * x + 1) (2 * y + 1) + 2 * a = mtX t (2 * x + 1) (2 * y + 1) + 2 * a ∧ mtY t (2 * x + 1) (2 * y + 1) + 2 * b = mtY t (2 * x + 1) (2 * y + 1) + 2 * b ∧ 1 = 1 ∧ mtX t (sdX q) (sdY
q) + 0 = mtX t (sdX q) (sdY q) + 0 ∧ mtY t (sdX q) (sdY q) + 0 = mtY t (sdX q) (sdY q) + 0 ∧ 1 = 1 ∧ hlf (mtX t (2 * x + 1) (2 * y + 1) + 2 * a) = hlf (mtX t (2 * x + 1) (2 * y + 1) + 2 * a) ∧ hlf
(mtY t (2 * x + 1) (2 * y + 1) + 2 * b) = hlf (mtY t (2 * x + 1) (2 * y + 1) + 2 * b) ∧ b_1.k = b_1.k ∧ 0 = 0 ∧ 0 = 0 ∧ 0 = 0 ∧ iI 0 = 0 ∧ iI (-1) = -1 ∧ iI 2 = 2 ∧ iI 0 = 0 ∧ iI 0 = 0 ∧ iI (-1) = -1
∧ iI 2 = 2 ∧ iI 0 = 0 ∧ iI 0 = 0 ∧ iI 1 = 1 ∧ iI 0 = 0 ∧ iI 0 = 0 ∧ iI 3 = 3 ∧ iI 0 = 0 ∧ iI 0 = 0 ∧ iI 2 = 2 ∧ iI 0 = 0 ∧ iI 1 = 1 ∧ iI 0 = 0 ∧ iI 1 = 1 ∧ iI 1 = 1 ∧ iI 1 = 1 ∧ iI 0 = 0 ∧ iI 3 = 3 ∧
iI 0 = 0 ∧ iI 0 = 0 ∧ iI 0 = 0 ∧ iI 0 = 0 ∧ iI 0 = 0 ∧ iI 2 = 2 ∧ iI 2 = 2 ∧ iI 2 = 2 ∧ iI 2 = 2 ∧ iI 0 = 0 ∧ iI 0 = 0 ∧ iI 1 = 1 ∧ iI 2 = 2 ∧ iI 1 = 1 ∧ iI 0 = 0 ∧ iI 1 = 1 ∧ iI 0 = 0 ∧ iI 0 = 0 ∧ iI
0 = 0 ∧ iI 3 = 3 ∧ iI 0 = 0 ∧ iI 0 = 0 ∧ iI 1 = 1 ∧ iI 2 = 2 ∧ iI 2 = 2 ∧ iI 0 = 0 ∧ iI 2 = 2 ∧ iI (-1) = -1 ∧ iI 0 = 0 ∧ iI 1 = 1 ∧ iI 0 = 0 ∧ iI (-1) = -1 ∧ iI 0 = 0 ∧ iI 1 = 1 ∧ iI 0 = 0 ∧ iI 0 = 0
∧ iI 2 = 2 ∧ iI 0 = 0 ∧ iI 0 = 0 ∧ iI 0 = 0 ∧ iI 0 = 0 ∧ iI 0 = 0 ∧ iI 0 = 0 ∧ iI 2 = 2 ∧ iI 3 = 3 ∧ (∃ (n : Nat), 3 = (↑n : Int) ∧ n ≤ 4 ∧ b_1.k = kAft (mvQ t q) n) ∧ 1 < 4 - Int.toNat b_1.i ∧ True))
∧ ((b_1.i == 2) = false → ((b_1.i == 3) = true → (1 = 1 ∧ t = t ∧ iI 0 = 0 ∧ iI 0 = 0 ∧ 1 = 1 ∧ x = x ∧ y = y ∧ q = q ∧ 1 = 1 ∧ iI 0 = 0 ∧ iI 0 = 0 ∧ iI 0 = 0 ∧ 1 = 1 ∧ mtX t (2 * x + 1) (2 * y + 1) +
2 * a = mtX t (2 * x + 1) (2 * y + 1) + 2 * a ∧ mtY t (2 * x + 1) (2 * y + 1) + 2 * b = mtY t (2 * x + 1) (2 * y + 1) + 2 * b ∧ 1 = 1 ∧ mtX t (sdX q) (sdY q) + 0 = mtX t (sdX q) (sdY q) + 0 ∧ mtY t
(sdX q) (sdY q) + 0 = mtY t (sdX q) (sdY q) + 0 ∧ 1 = 1 ∧ hlf (mtX t (2 * x + 1) (2 * y + 1) + 2 * a) = hlf (mtX t (2 * x + 1) (2 * y + 1) + 2 * a) ∧ hlf (mtY t (2 * x + 1) (2 * y + 1) + 2 * b) = hlf
(mtY t (2 * x + 1) (2 * y + 1) + 2 * b) ∧ b_1.k = b_1.k ∧ 0 = 0 ∧ 0 = 0 ∧ 0 = 0 ∧ iI 0 = 0 ∧ iI (-1) = -1 ∧ iI 2 = 2 ∧ iI 0 = 0 ∧ iI 0 = 0 ∧ iI (-1) = -1 ∧ iI 2 = 2 ∧ iI 0 = 0 ∧ iI 0 = 0 ∧ iI 1 = 1 ∧
iI 0 = 0 ∧ iI 0 = 0 ∧ iI 3 = 3 ∧ iI 0 = 0 ∧ iI 0 = 0 ∧ iI 2 = 2 ∧ iI 0 = 0 ∧ iI 1 = 1 ∧ iI 0 = 0 ∧ iI 1 = 1 ∧ iI 1 = 1 ∧ iI 1 = 1 ∧ iI 0 = 0 ∧ iI 3 = 3 ∧ iI 0 = 0 ∧ iI 0 = 0 ∧ iI 0 = 0 ∧ iI 0 = 0 ∧ iI
0 = 0 ∧ iI 2 = 2 ∧ iI 2 = 2 ∧ iI 2 = 2 ∧ iI 2 = 2 ∧ iI 0 = 0 ∧ iI 0 = 0 ∧ iI 1 = 1 ∧ iI 2 = 2 ∧ iI 1 = 1 ∧ iI 0 = 0 ∧ iI 1 = 1 ∧ iI 0 = 0 ∧ iI 0 = 0 ∧ iI 0 = 0 ∧ iI 3 = 3 ∧ iI 0 = 0 ∧ iI 0 = 0 ∧ iI 1
= 1 ∧ iI 2 = 2 ∧ iI 2 = 2 ∧ iI 0 = 0 ∧ iI 2 = 2 ∧ iI (-1) = -1 ∧ iI 0 = 0 ∧ iI 1 = 1 ∧ iI 0 = 0 ∧ iI (-1) = -1 ∧ iI 0 = 0 ∧ iI 1 = 1 ∧ iI 0 = 0 ∧ iI 0 = 0 ∧ iI 2 = 2 ∧ iI 0 = 0 ∧ iI 0 = 0 ∧ iI 0 = 0 ∧
iI 0 = 0 ∧ iI 0 = 0 ∧ iI 0 = 0 ∧ iI 2 = 2 ∧ b_1.i = 3 ∧ ltb b_1.i 4 = true ∧ True ∧ True) ∧ ∀ (b_2 : Unit), True → ((-1 == mtX t (sdX q) (sdY q) + 0 && 0 == mtY t (sdX q) (sdY q) + 0) = true → 1 = 1 ∧
t = t ∧ iI 0 = 0 ∧ iI 0 = 0 ∧ 1 = 1 ∧ x = x ∧ y = y ∧ q = q ∧ 1 = 1 ∧ iI 0 = 0 ∧ iI 0 = 0 ∧ iI 0 = 0 ∧ 1 = 1 ∧ mtX t (2 * x + 1) (2 * y + 1) + 2 * a = mtX t (2 * x + 1) (2 * y + 1) + 2 * a ∧ mtY t (2
* x + 1) (2 * y + 1) + 2 * b = mtY t (2 * x + 1) (2 * y + 1) + 2 * b ∧ 1 = 1 ∧ mtX t (sdX q) (sdY q) + 0 = mtX t (sdX q) (sdY q) + 0 ∧ mtY t (sdX q) (sdY q) + 0 = mtY t (sdX q) (sdY q) + 0 ∧ 1 = 1 ∧
hlf (mtX t (2 * x + 1) (2 * y + 1) + 2 * a) = hlf (mtX t (2 * x + 1) (2 * y + 1) + 2 * a) ∧ hlf (mtY t (2 * x + 1) (2 * y + 1) + 2 * b) = hlf (mtY t (2 * x + 1) (2 * y + 1) + 2 * b) ∧ iI 3 = 3 ∧ 0 = 0
∧ 0 = 0 ∧ 0 = 0 ∧ iI 0 = 0 ∧ iI (-1) = -1 ∧ iI 2 = 2 ∧ iI 0 = 0 ∧ iI 0 = 0 ∧ iI (-1) = -1 ∧ iI 2 = 2 ∧ iI 0 = 0 ∧ iI 0 = 0 ∧ iI 1 = 1 ∧ iI 0 = 0 ∧ iI 0 = 0 ∧ iI 3 = 3 ∧ iI 0 = 0 ∧ iI 0 = 0 ∧ iI 2 = 2
∧ iI 0 = 0 ∧ iI 1 = 1 ∧ iI 0 = 0 ∧ iI 1 = 1 ∧ iI 1 = 1 ∧ iI 1 = 1 ∧ iI 0 = 0 ∧ iI 3 = 3 ∧ iI 0 = 0 ∧ iI 0 = 0 ∧ iI 0 = 0 ∧ iI 0 = 0 ∧ iI 0 = 0 ∧ iI 2 = 2 ∧ iI 2 = 2 ∧ iI 2 = 2 ∧ iI 2 = 2 ∧ iI 0 = 0 ∧
iI 0 = 0 ∧ iI 1 = 1 ∧ iI 2 = 2 ∧ iI 1 = 1 ∧ iI 0 = 0 ∧ iI 1 = 1 ∧ iI 0 = 0 ∧ iI 0 = 0 ∧ iI 0 = 0 ∧ iI 3 = 3 ∧ iI 0 = 0 ∧ iI 0 = 0 ∧ iI 1 = 1 ∧ iI 2 = 2 ∧ iI 2 = 2 ∧ iI 0 = 0 ∧ iI 2 = 2 ∧ iI (-1) = -1
∧ iI 0 = 0 ∧ iI 1 = 1 ∧ iI 0 = 0 ∧ iI (-1) = -1 ∧ iI 0 = 0 ∧ iI 1 = 1 ∧ iI 0 = 0 ∧ iI 0 = 0 ∧ iI 2 = 2 ∧ iI 0 = 0 ∧ iI 0 = 0 ∧ iI 0 = 0 ∧ iI 0 = 0 ∧ iI 0 = 0 ∧ iI 0 = 0 ∧ iI 2 = 2 ∧ iI 4 = 4 ∧ (∃ (n :
Nat), 4 = (↑n : Int) ∧ n ≤ 4 ∧ 3 = kAft (mvQ t q) n) ∧ 0 < 4 - Int.toNat b_1.i ∧ True) ∧ ((-1 == mtX t (sdX q) (sdY q) + 0 && 0 == mtY t (sdX q) (sdY q) + 0) = false → 1 = 1 ∧ t = t ∧ iI 0 = 0 ∧ iI 0
= 0 ∧ 1 = 1 ∧ x = x ∧ y = y ∧ q = q ∧ 1 = 1 ∧ iI 0 = 0 ∧ iI 0 = 0 ∧ iI 0 = 0 ∧ 1 = 1 ∧ mtX t (2 * x + 1) (2 * y + 1) + 2 * a = mtX t (2 * x + 1) (2 * y + 1) + 2 * a ∧ mtY t (2 * x + 1) (2 * y + 1) + 2
* b = mtY t (2 * x + 1) (2 * y + 1) + 2 * b ∧ 1 = 1 ∧ mtX t (sdX q) (sdY q) + 0 = mtX t (sdX q) (sdY q) + 0 ∧ mtY t (sdX q) (sdY q) + 0 = mtY t (sdX q) (sdY q) + 0 ∧ 1 = 1 ∧ hlf (mtX t (2 * x + 1) (2
* y + 1) + 2 * a) = hlf (mtX t (2 * x + 1) (2 * y + 1) + 2 * a) ∧ hlf (mtY t (2 * x + 1) (2 * y + 1) + 2 * b) = hlf (mtY t (2 * x + 1) (2 * y + 1) + 2 * b) ∧ b_1.k = b_1.k ∧ 0 = 0 ∧ 0 = 0 ∧ 0 = 0 ∧ iI
0 = 0 ∧ iI (-1) = -1 ∧ iI 2 = 2 ∧ iI 0 = 0 ∧ iI 0 = 0 ∧ iI (-1) = -1 ∧ iI 2 = 2 ∧ iI 0 = 0 ∧ iI 0 = 0 ∧ iI 1 = 1 ∧ iI 0 = 0 ∧ iI 0 = 0 ∧ iI 3 = 3 ∧ iI 0 = 0 ∧ iI 0 = 0 ∧ iI 2 = 2 ∧ iI 0 = 0 ∧ iI 1 = 1
∧ iI 0 = 0 ∧ iI 1 = 1 ∧ iI 1 = 1 ∧ iI 1 = 1 ∧ iI 0 = 0 ∧ iI 3 = 3 ∧ iI 0 = 0 ∧ iI 0 = 0 ∧ iI 0 = 0 ∧ iI 0 = 0 ∧ iI 0 = 0 ∧ iI 2 = 2 ∧ iI 2 = 2 ∧ iI 2 = 2 ∧ iI 2 = 2 ∧ iI 0 = 0 ∧ iI 0 = 0 ∧ iI 1 = 1 ∧
iI 2 = 2 ∧ iI 1 = 1 ∧ iI 0 = 0 ∧ iI 1 = 1 ∧ iI 0 = 0 ∧ iI 0 = 0 ∧ iI 0 = 0 ∧ iI 3 = 3 ∧ iI 0 = 0 ∧ iI 0 = 0 ∧ iI 1 = 1 ∧ iI 2 = 2 ∧ iI 2 = 2 ∧ iI 0 = 0 ∧ iI 2 = 2 ∧ iI (-1) = -1 ∧ iI 0 = 0 ∧ iI 1 = 1
∧ iI 0 = 0 ∧ iI (-1) = -1 ∧ iI 0 = 0 ∧ iI 1 = 1 ∧ iI 0 = 0 ∧ iI 0 = 0 ∧ iI 2 = 2 ∧ iI 0 = 0 ∧ iI 0 = 0 ∧ iI 0 = 0 ∧ iI 0 = 0 ∧ iI 0 = 0 ∧ iI 0 = 0 ∧ iI 2 = 2 ∧ iI 4 = 4 ∧ (∃ (n : Nat), 4 = (↑n : Int)
∧ n ≤ 4 ∧ b_1.k = kAft (mvQ t q) n) ∧ 0 < 4 - Int.toNat b_1.i ∧ True)) ∧ ((b_1.i == 3) = false → (1 = 1 ∧ t = t ∧ iI 0 = 0 ∧ iI 0 = 0 ∧ 1 = 1 ∧ x = x ∧ y = y ∧ q = q ∧ 1 = 1 ∧ iI 0 = 0 ∧ iI 0 = 0 ∧ iI
0 = 0 ∧ 1 = 1 ∧ mtX t (2 * x + 1) (2 * y + 1) + 2 * a = mtX t (2 * x + 1) (2 * y + 1) + 2 * a ∧ mtY t (2 * x + 1) (2 * y + 1) + 2 * b = mtY t (2 * x + 1) (2 * y + 1) + 2 * b ∧ 1 = 1 ∧ mtX t (sdX q)
(sdY q) + 0 = mtX t (sdX q) (sdY q) + 0 ∧ mtY t (sdX q) (sdY q) + 0 = mtY t (sdX q) (sdY q) + 0 ∧ 1 = 1 ∧ hlf (mtX t (2 * x + 1) (2 * y + 1) + 2 * a) = hlf (mtX t (2 * x + 1) (2 * y + 1) + 2 * a) ∧
hlf (mtY t (2 * x + 1) (2 * y + 1) + 2 * b) = hlf (mtY t (2 * x + 1) (2 * y + 1) + 2 * b) ∧ b_1.k = b_1.k ∧ 0 = 0 ∧ 0 = 0 ∧ 0 = 0 ∧ iI 0 = 0 ∧ iI (-1) = -1 ∧ iI 2 = 2 ∧ iI 0 = 0 ∧ iI 0 = 0 ∧ iI (-1) =
-1 ∧ iI 2 = 2 ∧ iI 0 = 0 ∧ iI 0 = 0 ∧ iI 1 = 1 ∧ iI 0 = 0 ∧ iI 0 = 0 ∧ iI 3 = 3 ∧ iI 0 = 0 ∧ iI 0 = 0 ∧ iI 2 = 2 ∧ iI 0 = 0 ∧ iI 1 = 1 ∧ iI 0 = 0 ∧ iI 1 = 1 ∧ iI 1 = 1 ∧ iI 1 = 1 ∧ iI 0 = 0 ∧ iI 3 = 3
∧ iI 0 = 0 ∧ iI 0 = 0 ∧ iI 0 = 0 ∧ iI 0 = 0 ∧ iI 0 = 0 ∧ iI 2 = 2 ∧ iI 2 = 2 ∧ iI 2 = 2 ∧ iI 2 = 2 ∧ iI 0 = 0 ∧ iI 0 = 0 ∧ iI 1 = 1 ∧ iI 2 = 2 ∧ iI 1 = 1 ∧ iI 0 = 0 ∧ iI 1 = 1 ∧ iI 0 = 0 ∧ iI 0 = 0 ∧
iI 0 = 0 ∧ iI 3 = 3 ∧ iI 0 = 0 ∧ iI 0 = 0 ∧ iI 1 = 1 ∧ iI 2 = 2 ∧ iI 2 = 2 ∧ iI 0 = 0 ∧ iI 2 = 2 ∧ iI (-1) = -1 ∧ iI 0 = 0 ∧ iI 1 = 1 ∧ iI 0 = 0 ∧ iI (-1) = -1 ∧ iI 0 = 0 ∧ iI 1 = 1 ∧ iI 0 = 0 ∧ iI 0
= 0 ∧ iI 2 = 2 ∧ iI 0 = 0 ∧ iI 0 = 0 ∧ iI 0 = 0 ∧ iI 0 = 0 ∧ iI 0 = 0 ∧ iI 0 = 0 ∧ iI 2 = 2 ∧ b_1.i = 4 ∧ ltb b_1.i 4 = false ∧ True ∧ True) ∧ ∀ (b_2 : Unit), True → hlf (mtX t (2 * x + 1) (2 * y + 1)
+ 2 * a) = mvX' t a x y ∧ hlf (mtY t (2 * x + 1) (2 * y + 1) + 2 * b) = mvY' t b x y ∧ b_1.k = mvQ t q ∧ True))))) := by kernel_rfl

theorem ob_o93 (t a b x y q : Int) : fnP (TV93) G 10000 fe93 (.r [] 0 (.r [yL 132, yL 133, yL 134, yL 135] 505 (.ff (.r [] 11 (.r [] 3 (.cnd (.r [] 1 .nil) (.r [] 3 .nil))))))) ([.agg [.int .u8 t, .int .i64 a, .int .i64 b], .agg [.int .i64 x, .int .i64 y, .int .u8 q]]) ([.agg [.int .i64 (bI (mvB t a b x y q) (mvX' t a x y) 0), .int .i64 (bI (mvB t a b x y q) (mvY' t b x y) 0), .int .u8 (bI (mvB t a b x y q) (mvQ t q) 0)], .int .i64 (bI (mvB t a b x y q) 0 3)]) ([]) = (
(0 ≤ t ∧ t ≤ 255) ∧ (!bI (mvV t a b) 0 1 != 0) = true ∧ (bI (vldC (x, y, q)) 0 1 != 0) = false ∧ (mvO t a b ∧ vq x y q) ∧ ((bI (vldC (mvX' t a x y, mvY' t b x y, mvQ t q)) 0 1 != 0) = true → 0 = bI
(mvB t a b x y q) (mvX' t a x y) 0 ∧ 0 = bI (mvB t a b x y q) (mvY' t b x y) 0 ∧ 0 = bI (mvB t a b x y q) (mvQ t q) 0 ∧ 3 = bI (mvB t a b x y q) 0 3 ∧ True) ∧ ((bI (vldC (mvX' t a x y, mvY' t b x y,
mvQ t q)) 0 1 != 0) = false → mvX' t a x y = bI (mvB t a b x y q) (mvX' t a x y) 0 ∧ mvY' t b x y = bI (mvB t a b x y q) (mvY' t b x y) 0 ∧ mvQ t q = bI (mvB t a b x y q) (mvQ t q) 0 ∧ 0 = bI (mvB t a
b x y q) 0 3 ∧ True)) := by kernel_rfl

theorem ob_o38 (t a b : Int) (l : List Cl) : fnP (TV38 (mvL t a b l)) G 10000 fe38 (.r [] 0 (.r [] 1 (.cnd (.r [] 0 .nil) (.r [] 0 (.r [] 0 (.cnd (.r [] 0 .nil) (.r [] 1 (.r [] 0 (.lp (l38m t a b l) [] [] (fun b_1 => (.r [] 0 (.cnd (.r [(642, .auto, Dr.val (kV l b_1.i))] 64 (.r [] 59 (.r [] 0 (.cnd (.r [] 0 .nil) (.r [] 1 (.r [] 0 .nil)))))) (.r [(1025, .auto, Dr.heap)] 0 (.frz 7 0 (.r [] 0 .nil))))))))))))))) ([.agg [.int .u8 t, .int .i64 a, .int .i64 b], cls l]) ([.imm (.vals (flatK (mvR t a b l))) (mvR t a b l).length (some (mvR t a b l).length), .int .i64 (mvE t a b l)]) ([]) = (
(0 ≤ t ∧ t ≤ 255) ∧ ((bI (mvV t a b) 0 1 != 0) = true → Cont.size (Cont.vals (flatK (mvR t a b l))) = 0 ∧ List.length (mvR t a b l) = 0 ∧ List.length (mvR t a b l) = 0 ∧ 1 = mvE t a b l ∧ True) ∧ ((bI
(mvV t a b) 0 1 != 0) = false → (okL (flatK l) (List.length l) ∧ okQ (unK (flatK l))) ∧ ((chkI (unK (flatK l)) != 0) = true → Cont.size (Cont.vals (flatK (mvR t a b l))) = 0 ∧ List.length (mvR t a b
l) = 0 ∧ List.length (mvR t a b l) = 0 ∧ chkI (unK (flatK l)) = mvE t a b l ∧ True) ∧ ((chkI (unK (flatK l)) != 0) = false → leb (↑(List.length l) : Int) (↑(List.length l) : Int) = true ∧ leb
((↑(List.length l) : Int) * 24) 140737488355328 = true ∧ 1 = 1 ∧ t = t ∧ a = a ∧ b = b ∧ Int.toNat (↑(List.length l) : Int) = List.length l ∧ Int.toNat (↑(List.length l) : Int) = List.length l ∧ repL
[AV.int IntKind.i64 0, AV.int IntKind.i64 0, AV.int IntKind.u8 0] (Int.toNat (↑(List.length l) : Int)) = repL [AV.int IntKind.i64 0, AV.int IntKind.i64 0, AV.int IntKind.u8 0] (Int.toNat
(↑(List.length l) : Int)) ∧ 0 = 0 ∧ Int.toNat (↑(List.length l) : Int) = Int.toNat (↑(List.length l) : Int) ∧ Cont.vals (flatK l) = Cont.vals (flatK l) ∧ List.length l = List.length l ∧ (↑(List.length
l) : Int) = (↑(List.length l) : Int) ∧ iI 0 = 0 ∧ (∃ (R : List Cl), ∃ (n : Nat), 0 = (↑n : Int) ∧ n ≤ List.length l ∧ repL [AV.int IntKind.i64 0, AV.int IntKind.i64 0, AV.int IntKind.u8 0] (Int.toNat
(↑(List.length l) : Int)) = flatK R ∧ List.length R = List.length l ∧ List.take n R = mvL t a b (List.take n l) ∧ mvOut t a b (List.take n l) = true) ∧ ∀ (b_1 : L38), (∃ (R : List Cl), ∃ (n : Nat),
b_1.i = (↑n : Int) ∧ n ≤ List.length l ∧ b_1.o = flatK R ∧ List.length R = List.length l ∧ List.take n R = mvL t a b (List.take n l) ∧ mvOut t a b (List.take n l) = true) → (ltb b_1.i (↑(List.length
l) : Int) = true → leb 0 b_1.i = true ∧ ltb b_1.i (↑(List.length l) : Int) = true ∧ ltn 0 (Cont.size (Cont.vals (flatK l))) = true ∧ (List.drop (Int.toNat b_1.i * 3) (flatK l))[0]? = some (AV.int
IntKind.i64 (kX l b_1.i)) ∧ (List.drop (Int.toNat b_1.i * 3) (flatK l))[1]? = some (AV.int IntKind.i64 (kY l b_1.i)) ∧ (List.drop (Int.toNat b_1.i * 3) (flatK l))[2]? = some (AV.int IntKind.u8 (kQ l
b_1.i)) ∧ (mvO t a b ∧ vq (kX l b_1.i) (kY l b_1.i) (kQ l b_1.i)) ∧ ((bI (mvB t a b (kX l b_1.i) (kY l b_1.i) (kQ l b_1.i)) 0 3 != 0) = true → Cont.size (Cont.vals (flatK (mvR t a b l))) = 0 ∧
List.length (mvR t a b l) = 0 ∧ List.length (mvR t a b l) = 0 ∧ bI (mvB t a b (kX l b_1.i) (kY l b_1.i) (kQ l b_1.i)) 0 3 = mvE t a b l ∧ True) ∧ ((bI (mvB t a b (kX l b_1.i) (kY l b_1.i) (kQ l
b_1.i)) 0 3 != 0) = false → leb 0 b_1.i = true ∧ ltb b_1.i (↑(Int.toNat (↑(List.length l) : Int)) : Int) = true ∧ List.length l = Int.toNat (↑(List.length l) : Int) ∧ List.length l = Int.toNat
(↑(List.length l) : Int) ∧ len' (Int.toNat b_1.i * 3 + 3) (Cont.size (Cont.vals b_1.o)) = true ∧ inR IntKind.i64 (b_1.i + 1) = true ∧ 1 = 1 ∧ t = t ∧ a = a ∧ b = b ∧ List.length l = List.length l ∧
List.length l = List.length l ∧ List.set (List.set (List.set b_1.o (Int.toNat b_1.i * 3) (AV.int IntKind.i64 (bI (mvB t a b (kX l b_1.i) (kY l b_1.i) (kQ l b_1.i)) (mvX' t a (kX l b_1.i) (kY l b_1.i))
0))) (Int.toNat b_1.i * 3 + 1) (AV.int IntKind.i64 (bI (mvB t a b (kX l b_1.i) (kY l b_1.i) (kQ l b_1.i)) (mvY' t b (kX l b_1.i) (kY l b_1.i)) 0))) (Int.toNat b_1.i * 3 + 1 + 1) (AV.int IntKind.u8 (bI
(mvB t a b (kX l b_1.i) (kY l b_1.i) (kQ l b_1.i)) (mvQ t (kQ l b_1.i)) 0)) = List.set (List.set (List.set b_1.o (Int.toNat b_1.i * 3) (AV.int IntKind.i64 (bI (mvB t a b (kX l b_1.i) (kY l b_1.i) (kQ
l b_1.i)) (mvX' t a (kX l b_1.i) (kY l b_1.i)) 0))) (Int.toNat b_1.i * 3 + 1) (AV.int IntKind.i64 (bI (mvB t a b (kX l b_1.i) (kY l b_1.i) (kQ l b_1.i)) (mvY' t b (kX l b_1.i) (kY l b_1.i)) 0)))
(Int.toNat b_1.i * 3 + 1 + 1) (AV.int IntKind.u8 (bI (mvB t a b (kX l b_1.i) (kY l b_1.i) (kQ l b_1.i)) (mvQ t (kQ l b_1.i)) 0)) ∧ 0 = 0 ∧ Int.toNat (↑(List.length l) : Int) = Int.toNat (↑(List.length
l) : Int) ∧ Cont.vals (flatK l) = Cont.vals (flatK l) ∧ List.length l = List.length l ∧ (↑(List.length l) : Int) = (↑(List.length l) : Int) ∧ b_1.i + 1 = b_1.i + 1 ∧ (∃ (R : List Cl), ∃ (n : Nat),
b_1.i + 1 = (↑n : Int) ∧ n ≤ List.length l ∧ List.set (List.set (List.set b_1.o (Int.toNat b_1.i * 3) (AV.int IntKind.i64 (bI (mvB t a b (kX l b_1.i) (kY l b_1.i) (kQ l b_1.i)) (mvX' t a (kX l b_1.i)
(kY l b_1.i)) 0))) (Int.toNat b_1.i * 3 + 1) (AV.int IntKind.i64 (bI (mvB t a b (kX l b_1.i) (kY l b_1.i) (kQ l b_1.i)) (mvY' t b (kX l b_1.i) (kY l b_1.i)) 0))) (Int.toNat b_1.i * 3 + 1 + 1) (AV.int
IntKind.u8 (bI (mvB t a b (kX l b_1.i) (kY l b_1.i) (kQ l b_1.i)) (mvQ t (kQ l b_1.i)) 0)) = flatK R ∧ List.length R = List.length l ∧ List.take n R = mvL t a b (List.take n l) ∧ mvOut t a b
(List.take n l) = true) ∧ List.length l - Int.toNat (b_1.i + 1) < List.length l - Int.toNat b_1.i ∧ True)) ∧ (ltb b_1.i (↑(List.length l) : Int) = false → ([(450, HO.blk (Blk.mk (Cont.vals b_1.o) 3
(List.length l) (some (List.length l)) (some false) true false))] = [(450, HO.blk (Blk.mk (Cont.vals (flatK (mvL t a b l))) 3 (Int.toNat (↑(List.length l) : Int)) (some (Int.toNat (↑(List.length l) :
Int))) (some false) true false))] ∧ Int.toNat (↑(List.length l) : Int) = List.length (mvL t a b l) ∧ List.length (mvL t a b l) < 1000000000 ∧ okQ (mvL t a b l)) ∧ Int.toNat (↑(List.length l) : Int) =
Int.toNat (↑(List.length l) : Int) ∧ Cont.vals (flatK (srtQ (mvL t a b l))) = Cont.vals (flatK (mvR t a b l)) ∧ Int.toNat (↑(List.length l) : Int) = List.length (mvR t a b l) ∧ Int.toNat
(↑(List.length l) : Int) = List.length (mvR t a b l) ∧ 0 = mvE t a b l ∧ True)))) := by kernel_rfl

theorem ob_o135_0 (a b x y : Int) : fnP (T0) G 10000 fe135 (.r [] 0 (.r [] 3 (.r [] 1 (.lit (.r [] 1 (.lit (.r [] 1 (.lit (.r [] 1 (.lit (.r [] 1 (.lit (.r [] 1 (.lit (.r [] 1 (.lit (.r [] 73 .nil))))))))))))))))) ([.agg [.int .u8 0, .int .i64 a, .int .i64 b], .agg [.int .i64 x, .int .i64 y]]) ([.agg [.int .i64 (mtX 0 x y + 2 * a), .int .i64 (mtY 0 x y + 2 * b)]]) ([]) = (
inR IntKind.i64 (2 * a) = true ∧ inR IntKind.i64 (x + 2 * a) = true ∧ inR IntKind.i64 (2 * b) = true ∧ inR IntKind.i64 (y + 2 * b) = true ∧ x + 2 * a = mtX 0 x y + 2 * a ∧ y + 2 * b = mtY 0 x y + 2 *
b ∧ True) := by kernel_rfl

theorem ob_o135_1 (a b x y : Int) : fnP (T0) G 10000 fe135 (.r [] 0 (.r [] 3 (.r [] 1 (.lit (.r [] 5 (.r [] 1 (.lit (.r [] 1 (.lit (.r [] 1 (.lit (.r [] 1 (.lit (.r [] 1 (.lit (.r [] 1 (.lit (.r [] 73 .nil)))))))))))))))))) ([.agg [.int .u8 1, .int .i64 a, .int .i64 b], .agg [.int .i64 x, .int .i64 y]]) ([.agg [.int .i64 (mtX 1 x y + 2 * a), .int .i64 (mtY 1 x y + 2 * b)]]) ([]) = (
inR IntKind.i64 (0 - y) = true ∧ inR IntKind.i64 (2 * a) = true ∧ inR IntKind.i64 (0 - y + 2 * a) = true ∧ inR IntKind.i64 (2 * b) = true ∧ inR IntKind.i64 (x + 2 * b) = true ∧ 0 - y + 2 * a = mtX 1 x
y + 2 * a ∧ x + 2 * b = mtY 1 x y + 2 * b ∧ True) := by kernel_rfl

theorem ob_o135_2 (a b x y : Int) : fnP (T0) G 10000 fe135 (.r [] 0 (.r [] 3 (.r [] 1 (.lit (.r [] 1 (.lit (.r [] 5 (.r [] 1 (.lit (.r [] 1 (.lit (.r [] 1 (.lit (.r [] 1 (.lit (.r [] 1 (.lit (.r [] 73 .nil)))))))))))))))))) ([.agg [.int .u8 2, .int .i64 a, .int .i64 b], .agg [.int .i64 x, .int .i64 y]]) ([.agg [.int .i64 (mtX 2 x y + 2 * a), .int .i64 (mtY 2 x y + 2 * b)]]) ([]) = (
inR IntKind.i64 (0 - x) = true ∧ inR IntKind.i64 (0 - y) = true ∧ inR IntKind.i64 (2 * a) = true ∧ inR IntKind.i64 (0 - x + 2 * a) = true ∧ inR IntKind.i64 (2 * b) = true ∧ inR IntKind.i64 (0 - y + 2
* b) = true ∧ 0 - x + 2 * a = mtX 2 x y + 2 * a ∧ 0 - y + 2 * b = mtY 2 x y + 2 * b ∧ True) := by kernel_rfl

theorem ob_o135_3 (a b x y : Int) : fnP (T0) G 10000 fe135 (.r [] 0 (.r [] 3 (.r [] 1 (.lit (.r [] 1 (.lit (.r [] 1 (.lit (.r [] 3 (.r [] 1 (.lit (.r [] 1 (.lit (.r [] 1 (.lit (.r [] 1 (.lit (.r [] 73 .nil)))))))))))))))))) ([.agg [.int .u8 3, .int .i64 a, .int .i64 b], .agg [.int .i64 x, .int .i64 y]]) ([.agg [.int .i64 (mtX 3 x y + 2 * a), .int .i64 (mtY 3 x y + 2 * b)]]) ([]) = (
inR IntKind.i64 (0 - x) = true ∧ inR IntKind.i64 (2 * a) = true ∧ inR IntKind.i64 (y + 2 * a) = true ∧ inR IntKind.i64 (2 * b) = true ∧ inR IntKind.i64 (0 - x + 2 * b) = true ∧ y + 2 * a = mtX 3 x y +
2 * a ∧ 0 - x + 2 * b = mtY 3 x y + 2 * b ∧ True) := by kernel_rfl

theorem ob_o135_4 (a b x y : Int) : fnP (T0) G 10000 fe135 (.r [] 0 (.r [] 3 (.r [] 1 (.lit (.r [] 1 (.lit (.r [] 1 (.lit (.r [] 1 (.lit (.r [] 5 (.r [] 1 (.lit (.r [] 1 (.lit (.r [] 1 (.lit (.r [] 73 .nil)))))))))))))))))) ([.agg [.int .u8 4, .int .i64 a, .int .i64 b], .agg [.int .i64 x, .int .i64 y]]) ([.agg [.int .i64 (mtX 4 x y + 2 * a), .int .i64 (mtY 4 x y + 2 * b)]]) ([]) = (
inR IntKind.i64 (0 - x) = true ∧ inR IntKind.i64 (2 * a) = true ∧ inR IntKind.i64 (0 - x + 2 * a) = true ∧ inR IntKind.i64 (2 * b) = true ∧ inR IntKind.i64 (y + 2 * b) = true ∧ 0 - x + 2 * a = mtX 4 x
y + 2 * a ∧ y + 2 * b = mtY 4 x y + 2 * b ∧ True) := by kernel_rfl

theorem ob_o135_5 (a b x y : Int) : fnP (T0) G 10000 fe135 (.r [] 0 (.r [] 3 (.r [] 1 (.lit (.r [] 1 (.lit (.r [] 1 (.lit (.r [] 1 (.lit (.r [] 1 (.lit (.r [] 5 (.r [] 1 (.lit (.r [] 1 (.lit (.r [] 73 .nil)))))))))))))))))) ([.agg [.int .u8 5, .int .i64 a, .int .i64 b], .agg [.int .i64 x, .int .i64 y]]) ([.agg [.int .i64 (mtX 5 x y + 2 * a), .int .i64 (mtY 5 x y + 2 * b)]]) ([]) = (
inR IntKind.i64 (0 - y) = true ∧ inR IntKind.i64 (0 - x) = true ∧ inR IntKind.i64 (2 * a) = true ∧ inR IntKind.i64 (0 - y + 2 * a) = true ∧ inR IntKind.i64 (2 * b) = true ∧ inR IntKind.i64 (0 - x + 2
* b) = true ∧ 0 - y + 2 * a = mtX 5 x y + 2 * a ∧ 0 - x + 2 * b = mtY 5 x y + 2 * b ∧ True) := by kernel_rfl

theorem ob_o135_6 (a b x y : Int) : fnP (T0) G 10000 fe135 (.r [] 0 (.r [] 3 (.r [] 1 (.lit (.r [] 1 (.lit (.r [] 1 (.lit (.r [] 1 (.lit (.r [] 1 (.lit (.r [] 1 (.lit (.r [] 3 (.r [] 1 (.lit (.r [] 73 .nil)))))))))))))))))) ([.agg [.int .u8 6, .int .i64 a, .int .i64 b], .agg [.int .i64 x, .int .i64 y]]) ([.agg [.int .i64 (mtX 6 x y + 2 * a), .int .i64 (mtY 6 x y + 2 * b)]]) ([]) = (
inR IntKind.i64 (0 - y) = true ∧ inR IntKind.i64 (2 * a) = true ∧ inR IntKind.i64 (x + 2 * a) = true ∧ inR IntKind.i64 (2 * b) = true ∧ inR IntKind.i64 (0 - y + 2 * b) = true ∧ x + 2 * a = mtX 6 x y +
2 * a ∧ 0 - y + 2 * b = mtY 6 x y + 2 * b ∧ True) := by kernel_rfl

theorem ob_o135_7 (a b x y : Int) : fnP (T0) G 10000 fe135 (.r [] 0 (.r [] 3 (.r [] 1 (.lit (.r [] 1 (.lit (.r [] 1 (.lit (.r [] 1 (.lit (.r [] 1 (.lit (.r [] 1 (.lit (.r [] 1 (.lit (.r [] 3 (.r [] 73 .nil)))))))))))))))))) ([.agg [.int .u8 7, .int .i64 a, .int .i64 b], .agg [.int .i64 x, .int .i64 y]]) ([.agg [.int .i64 (mtX 7 x y + 2 * a), .int .i64 (mtY 7 x y + 2 * b)]]) ([]) = (
inR IntKind.i64 (2 * a) = true ∧ inR IntKind.i64 (y + 2 * a) = true ∧ inR IntKind.i64 (2 * b) = true ∧ inR IntKind.i64 (x + 2 * b) = true ∧ y + 2 * a = mtX 7 x y + 2 * a ∧ x + 2 * b = mtY 7 x y + 2 *
b ∧ True) := by kernel_rfl

theorem ob_o95 (t a b x y q : Int) : fnP (TV95) G 10000 fe95 (.r [] 0 (.r [] 5 (.r [] 0 (.un (.r [] 0 (.lit (.r [] 239 (.r [] 1 (.un (.r [] 0 (.lit (.r [] 239 (.r [] 1 (.un (.r [] 0 (.lit (.r [] 239 (.r [] 1 (.un (.r [] 0 (.lit (.r [] 5 .nil)))))))))))))))))))))) ([.agg [.int .u8 t, .int .i64 a, .int .i64 b], .agg [.int .i64 x, .int .i64 y, .int .u8 q]]) ([.agg [.int .i64 (mvX' t a x y), .int .i64 (mvY' t b x y), .int .u8 (mvQ t q)]]) ([]) = (
(sml x ∧ sml y ∧ 0 ≤ q ∧ q ≤ 3) ∧ (mvO t a b ∧ s10k (2 * x + 1) (2 * y + 1)) ∧ (mvO t a b ∧ s10k (2 * x + 2 * crS q) (2 * y + 2 * crS q)) ∧ (mvO t a b ∧ s10k (2 * x + 2 * crX q) (2 * y + 2 * crY q)) ∧
wOk (mtX t (2 * x + 1) (2 * y + 1) + 2 * a) (mtY t (2 * x + 1) (2 * y + 1) + 2 * b) (mtX t (2 * x + 2 * crS q) (2 * y + 2 * crS q) + 2 * a) (mtY t (2 * x + 2 * crS q) (2 * y + 2 * crS q) + 2 * b) (mtX
t (2 * x + 2 * crX q) (2 * y + 2 * crY q) + 2 * a) (mtY t (2 * x + 2 * crX q) (2 * y + 2 * crY q) + 2 * b) ∧ (mtX t (2 * x + 1) (2 * y + 1) + 2 * a - 1) / 2 = mvX' t a x y ∧ (mtY t (2 * x + 1) (2 * y
+ 1) + 2 * b - 1) / 2 = mvY' t b x y ∧ wQ (mtX t (2 * x + 2 * crS q) (2 * y + 2 * crS q) + 2 * a + (mtX t (2 * x + 2 * crX q) (2 * y + 2 * crY q) + 2 * a) - 2 * (mtX t (2 * x + 1) (2 * y + 1) + 2 *
a)) (mtY t (2 * x + 2 * crS q) (2 * y + 2 * crS q) + 2 * b + (mtY t (2 * x + 2 * crX q) (2 * y + 2 * crY q) + 2 * b) - 2 * (mtY t (2 * x + 1) (2 * y + 1) + 2 * b)) = mvQ t q ∧ True) := by kernel_rfl

theorem ob_o40 (t a b : Int) (l : List Cl) : fnP (TV40) G 10000 fe40 (.r [] 0 (.r [] 0 (.r [] 0 (.lp (l40 t a b l) [] [] (fun b_1 => (.r [] 0 (.cnd (.r [(389, .auto, Dr.val (kV l b_1.i))] 1 (.r [] 0 .nil)) (.r [] 0 .nil)))))))) ([.agg [.int .u8 t, .int .i64 a, .int .i64 b], cls l]) ([cls (ofL (mvL t a b l))]) ([]) = (
1 = 1 ∧ t = t ∧ a = a ∧ b = b ∧ Cont.vals (flatK l) = Cont.vals (flatK l) ∧ List.length l = List.length l ∧ 0 = 0 ∧ 0 = 0 ∧ 0 = 0 ∧ iI 0 = 0 ∧ (∃ (n : Nat), 0 = (↑n : Int) ∧ n ≤ List.length l ∧ [] =
flatK (ofL (mvL t a b (List.take n l))) ∧ 0 = List.length (ofL (mvL t a b (List.take n l)))) ∧ ∀ (b_1 : L62), (∃ (n : Nat), b_1.i = (↑n : Int) ∧ n ≤ List.length l ∧ b_1.o = flatK (ofL (mvL t a b
(List.take n l))) ∧ b_1.n = List.length (ofL (mvL t a b (List.take n l)))) → (ltb b_1.i (↑(List.length l) : Int) = true → leb 0 b_1.i = true ∧ ltb b_1.i (↑(List.length l) : Int) = true ∧ ltn 0
(Cont.size (Cont.vals (flatK l))) = true ∧ (List.drop (Int.toNat b_1.i * 3) (flatK l))[0]? = some (AV.int IntKind.i64 (kX l b_1.i)) ∧ (List.drop (Int.toNat b_1.i * 3) (flatK l))[1]? = some (AV.int
IntKind.i64 (kY l b_1.i)) ∧ (List.drop (Int.toNat b_1.i * 3) (flatK l))[2]? = some (AV.int IntKind.u8 (kQ l b_1.i)) ∧ (mvO t a b ∧ vq (kX l b_1.i) (kY l b_1.i) (kQ l b_1.i)) ∧ okL b_1.o b_1.n ∧ inR
IntKind.i64 (b_1.i + 1) = true ∧ 1 = 1 ∧ t = t ∧ a = a ∧ b = b ∧ Cont.vals (flatK l) = Cont.vals (flatK l) ∧ List.length l = List.length l ∧ 0 = 0 ∧ Cont.vals (flatK (addL (unK b_1.o) (mvX' t a (kX l
b_1.i) (kY l b_1.i), mvY' t b (kX l b_1.i) (kY l b_1.i), mvQ t (kQ l b_1.i)))) = Cont.vals (flatK (addL (unK b_1.o) (mvX' t a (kX l b_1.i) (kY l b_1.i), mvY' t b (kX l b_1.i) (kY l b_1.i), mvQ t (kQ l
b_1.i)))) ∧ List.length (addL (unK b_1.o) (mvX' t a (kX l b_1.i) (kY l b_1.i), mvY' t b (kX l b_1.i) (kY l b_1.i), mvQ t (kQ l b_1.i))) = List.length (addL (unK b_1.o) (mvX' t a (kX l b_1.i) (kY l
b_1.i), mvY' t b (kX l b_1.i) (kY l b_1.i), mvQ t (kQ l b_1.i))) ∧ b_1.i + 1 = b_1.i + 1 ∧ (∃ (n : Nat), b_1.i + 1 = (↑n : Int) ∧ n ≤ List.length l ∧ flatK (addL (unK b_1.o) (mvX' t a (kX l b_1.i) (kY
l b_1.i), mvY' t b (kX l b_1.i) (kY l b_1.i), mvQ t (kQ l b_1.i))) = flatK (ofL (mvL t a b (List.take n l))) ∧ List.length (addL (unK b_1.o) (mvX' t a (kX l b_1.i) (kY l b_1.i), mvY' t b (kX l b_1.i)
(kY l b_1.i), mvQ t (kQ l b_1.i))) = List.length (ofL (mvL t a b (List.take n l)))) ∧ List.length l - Int.toNat (b_1.i + 1) < List.length l - Int.toNat b_1.i ∧ True) ∧ (ltb b_1.i (↑(List.length l) :
Int) = false → Cont.vals b_1.o = Cont.vals (flatK (ofL (mvL t a b l))) ∧ b_1.n = List.length (ofL (mvL t a b l)) ∧ True)) := by kernel_rfl

end Go.Proofs.YtmnaghfndigfkaaDoor.X
