/-
  What is to be shown of the functions (made by a program).
-/
import Derived.Test.YtpkmnabefnhcfaaDoorKD1Z
import Derived.KernelRfl
set_option maxRecDepth 1000000
set_option linter.unusedVariables false
namespace Go.Proofs.YtpkmnabefnhcfaaDoor.X
open Go Go.Ab

theorem ob_o37 (x y : Int) : fnP (TA) G 10000 fe37 (.r [] 0 (.r [] 1 .nil)) ([ptV x y]) ([.int .i64 x]) ([]) = (
(sm x ∧ sm y) ∧ acr 1 x y = x ∧ True) := by kernel_rfl

theorem ob_o40 (x y : Int) : fnP (TA) G 10000 fe40 (.r [] 0 (.r [] 1 .nil)) ([ptV x y]) ([.int .i64 y]) ([]) = (
(sm x ∧ sm y) ∧ acr 2 x y = y ∧ True) := by kernel_rfl

theorem ob_o43 (x y : Int) : fnP (TA) G 10000 fe43 (.r [] 0 (.r [] 1 .nil)) ([ptV x y]) ([.int .i64 (x + y)]) ([]) = (
(sm x ∧ sm y) ∧ acr 3 x y = x + y ∧ True) := by kernel_rfl

theorem ob_o46 (x y : Int) : fnP (TA) G 10000 fe46 (.r [] 0 (.r [] 1 .nil)) ([ptV x y]) ([.int .i64 (y - x)]) ([]) = (
(sm x ∧ sm y) ∧ acr 4 x y = y - x ∧ True) := by kernel_rfl

theorem ob_o15f (k c x y : Int) : fnP (TK0) G 10000 fe15 (.r [] 0 (.rs 4 [] 3 9 (.r [] 3 (.lit (.r [] 0 .nil))) (.r [] 15 (.tt (.r [] 0 .nil))))) ([lnV k c, ptV x y]) ([.int .i64 0]) ([]) = (
((bI (vl k c) 0 1 != 0) = true → iI 0 = 0 ∧ True) ∧ ((bI (vl k c) 0 1 != 0) = false → (bI (ins x y) 0 1 != 0) = true ∧ iI 0 = 0 ∧ True)) := by kernel_rfl

theorem ob_o15k1 (c x y : Int) : fnP (TK0) G 10000 fe15 (.r [] 0 (.rs 4 [] 3 9 (.r [] 3 (.lit (.r [] 0 .nil))) (.r [] 15 (.cnd (.r [] 0 .nil) (.r [] 127 (.r [] 1 (.cnd (.r [] 0 .nil) (.r [] 1 (.cnd (.r [] 0 .nil) (.r [] 0 .nil)))))))))) ([lnV 1 c, ptV x y]) ([.int .i64 (sideI 1 c x y)]) ([]) = (
((bI (vl 1 c) 0 1 != 0) = true → 0 = sideI 1 c x y ∧ True) ∧ ((bI (vl 1 c) 0 1 != 0) = false → ((bI (ins x y) 0 1 != 0) = true → 0 = sideI 1 c x y ∧ True) ∧ ((bI (ins x y) 0 1 != 0) = false → (sm x ∧
sm y) ∧ inR IntKind.i64 (2 * c) = true ∧ (ltb x (2 * c) = true → -1 = sideI 1 c x y ∧ True) ∧ (ltb x (2 * c) = false → inR IntKind.i64 (2 * c) = true ∧ (ltb (2 * c) x = true → 1 = sideI 1 c x y ∧
True) ∧ (ltb (2 * c) x = false → 0 = sideI 1 c x y ∧ True))))) := by kernel_rfl

theorem ob_o15k2 (c x y : Int) : fnP (TK0) G 10000 fe15 (.r [] 0 (.rs 4 [] 3 9 (.r [] 3 (.lit (.r [] 0 .nil))) (.r [] 15 (.cnd (.r [] 0 .nil) (.r [] 127 (.r [] 1 (.cnd (.r [] 0 .nil) (.r [] 1 (.cnd (.r [] 0 .nil) (.r [] 0 .nil)))))))))) ([lnV 2 c, ptV x y]) ([.int .i64 (sideI 2 c x y)]) ([]) = (
((bI (vl 2 c) 0 1 != 0) = true → 0 = sideI 2 c x y ∧ True) ∧ ((bI (vl 2 c) 0 1 != 0) = false → ((bI (ins x y) 0 1 != 0) = true → 0 = sideI 2 c x y ∧ True) ∧ ((bI (ins x y) 0 1 != 0) = false → (sm x ∧
sm y) ∧ inR IntKind.i64 (2 * c) = true ∧ (ltb y (2 * c) = true → -1 = sideI 2 c x y ∧ True) ∧ (ltb y (2 * c) = false → inR IntKind.i64 (2 * c) = true ∧ (ltb (2 * c) y = true → 1 = sideI 2 c x y ∧
True) ∧ (ltb (2 * c) y = false → 0 = sideI 2 c x y ∧ True))))) := by kernel_rfl

theorem ob_o15k3 (c x y : Int) : fnP (TK0) G 10000 fe15 (.r [] 0 (.rs 4 [] 3 9 (.r [] 3 (.lit (.r [] 0 .nil))) (.r [] 15 (.cnd (.r [] 0 .nil) (.r [] 127 (.r [] 1 (.cnd (.r [] 0 .nil) (.r [] 1 (.cnd (.r [] 0 .nil) (.r [] 0 .nil)))))))))) ([lnV 3 c, ptV x y]) ([.int .i64 (sideI 3 c x y)]) ([]) = (
((bI (vl 3 c) 0 1 != 0) = true → 0 = sideI 3 c x y ∧ True) ∧ ((bI (vl 3 c) 0 1 != 0) = false → ((bI (ins x y) 0 1 != 0) = true → 0 = sideI 3 c x y ∧ True) ∧ ((bI (ins x y) 0 1 != 0) = false → (sm x ∧
sm y) ∧ inR IntKind.i64 (2 * c) = true ∧ (ltb (x + y) (2 * c) = true → -1 = sideI 3 c x y ∧ True) ∧ (ltb (x + y) (2 * c) = false → inR IntKind.i64 (2 * c) = true ∧ (ltb (2 * c) (x + y) = true → 1 =
sideI 3 c x y ∧ True) ∧ (ltb (2 * c) (x + y) = false → 0 = sideI 3 c x y ∧ True))))) := by kernel_rfl

theorem ob_o15k4 (c x y : Int) : fnP (TK0) G 10000 fe15 (.r [] 0 (.rs 4 [] 3 9 (.r [] 3 (.lit (.r [] 0 .nil))) (.r [] 15 (.cnd (.r [] 0 .nil) (.r [] 127 (.r [] 1 (.cnd (.r [] 0 .nil) (.r [] 1 (.cnd (.r [] 0 .nil) (.r [] 0 .nil)))))))))) ([lnV 4 c, ptV x y]) ([.int .i64 (sideI 4 c x y)]) ([]) = (
((bI (vl 4 c) 0 1 != 0) = true → 0 = sideI 4 c x y ∧ True) ∧ ((bI (vl 4 c) 0 1 != 0) = false → ((bI (ins x y) 0 1 != 0) = true → 0 = sideI 4 c x y ∧ True) ∧ ((bI (ins x y) 0 1 != 0) = false → (sm x ∧
sm y) ∧ inR IntKind.i64 (2 * c) = true ∧ (ltb (y - x) (2 * c) = true → -1 = sideI 4 c x y ∧ True) ∧ (ltb (y - x) (2 * c) = false → inR IntKind.i64 (2 * c) = true ∧ (ltb (2 * c) (y - x) = true → 1 =
sideI 4 c x y ∧ True) ∧ (ltb (2 * c) (y - x) = false → 0 = sideI 4 c x y ∧ True))))) := by kernel_rfl

theorem ob_o3tt (k c x y : Int) : fnP (TKtt) G 10000 fe3 (.r [] 0 (.r [] 1 (.r [] 1 (.r [] 16253 (.lit (.r [] 7 (.r [] 3 (.lit (.r [] 0 (.r [] 3 (.cnd (.r [] 0 (.r [] 3 (.cnd (.r [] 0 (.r [] 63 (.rs 4 [] 0 78 (.rs 3 [] 0 81 (.r [] 127 .nil) (.rs 9 [] 255 90 (.r [] 7 .nil) (.r [] 3 .nil))) (.r [] 15 .nil)))) (.r [] 63 (.rs 4 [] 0 78 (.rs 3 [] 0 81 (.r [] 127 .nil) (.rs 9 [] 255 90 (.r [] 7 .nil) (.r [] 3 .nil))) (.r [] 15 .nil)))))) (.r [] 3 (.cnd (.r [] 0 (.r [] 63 (.rs 4 [] 0 78 (.rs 3 [] 0 81 (.r [] 127 .nil) (.rs 9 [] 255 90 (.r [] 7 .nil) (.r [] 3 .nil))) (.r [] 15 .nil)))) (.r [] 63 (.rs 4 [] 0 78 (.rs 3 [] 0 81 (.r [] 127 .nil) (.rs 9 [] 255 90 (.r [] 7 .nil) (.r [] 3 .nil))) (.r [] 15 .nil)))))))))))))))) ([lnV k c, ptV x y]) ([.bool true]) ([]) = (
vl k c = true ∧ ins x y = true ∧ vl k c = true ∧ ins x y = true ∧ (vl k c = true ∧ sm x ∧ sm y) ∧ (ltb (acr k x y - 2 * c) 0 = true → (vl k c = true ∧ sm x ∧ sm y) ∧ (ltb 0 (acr k x y - 2 * c) = true
→ ((sideI k c x y == 1) = true → ((rfE k c x y != 0) = true → true = true ∧ True) ∧ ((rfE k c x y != 0) = false → ((sideI k c (rfPX k c x y) (rfPY k c x y) == -1) = true → true = true ∧ True) ∧
((sideI k c (rfPX k c x y) (rfPY k c x y) == -1) = false → false = true ∧ True))) ∧ ((sideI k c x y == 1) = false → false = true ∧ True)) ∧ (ltb 0 (acr k x y - 2 * c) = false → ((sideI k c x y == -1)
= true → ((rfE k c x y != 0) = true → true = true ∧ True) ∧ ((rfE k c x y != 0) = false → ((sideI k c (rfPX k c x y) (rfPY k c x y) == 1) = true → true = true ∧ True) ∧ ((sideI k c (rfPX k c x y)
(rfPY k c x y) == 1) = false → false = true ∧ True))) ∧ ((sideI k c x y == -1) = false → false = true ∧ True))) ∧ (ltb (acr k x y - 2 * c) 0 = false → (vl k c = true ∧ sm x ∧ sm y) ∧ (ltb 0 (acr k x y
- 2 * c) = true → ((sideI k c x y == 1) = true → ((rfE k c x y != 0) = true → true = true ∧ True) ∧ ((rfE k c x y != 0) = false → ((sideI k c (rfPX k c x y) (rfPY k c x y) == -1) = true → true = true
∧ True) ∧ ((sideI k c (rfPX k c x y) (rfPY k c x y) == -1) = false → false = true ∧ True))) ∧ ((sideI k c x y == 1) = false → false = true ∧ True)) ∧ (ltb 0 (acr k x y - 2 * c) = false → ((sideI k c x
y == 0) = true → ((rfE k c x y != 0) = true → true = true ∧ True) ∧ ((rfE k c x y != 0) = false → ((sideI k c (rfPX k c x y) (rfPY k c x y) == 0) = true → true = true ∧ True) ∧ ((sideI k c (rfPX k c x
y) (rfPY k c x y) == 0) = false → false = true ∧ True))) ∧ ((sideI k c x y == 0) = false → false = true ∧ True)))) := by kernel_rfl

theorem ob_o3tf (k c x y : Int) : fnP (TKtf) G 10000 fe3 (.r [] 0 (.r [] 1 (.r [] 1 (.r [] 63357 (.lit (.r [] 3 (.r [] 3 (.lit (.r [] 7 .nil))))))))) ([lnV k c, ptV x y]) ([.bool true]) ([]) = (
vl k c = true ∧ ins x y = false ∧ vl k c = true ∧ ins x y = false ∧ ins x y = false ∧ (vl k c && ins x y) = false ∧ true = true ∧ True) := by kernel_rfl

theorem ob_o3ft (k c x y : Int) : fnP (TKft) G 10000 fe3 (.r [] 0 (.r [] 1 (.r [] 1 (.r [] 65013 (.lit (.r [] 3 (.r [] 3 (.lit (.r [] 7 .nil))))))))) ([lnV k c, ptV x y]) ([.bool true]) ([]) = (
vl k c = false ∧ ins x y = true ∧ vl k c = false ∧ vl k c = false ∧ ins x y = true ∧ (vl k c && ins x y) = false ∧ true = true ∧ True) := by kernel_rfl

theorem ob_o3ff (k c x y : Int) : fnP (TKff) G 10000 fe3 (.r [] 0 (.r [] 1 (.r [] 1 (.r [] 253429 (.lit (.r [] 3 (.r [] 3 (.lit (.r [] 7 .nil))))))))) ([lnV k c, ptV x y]) ([.bool true]) ([]) = (
vl k c = false ∧ ins x y = false ∧ vl k c = false ∧ vl k c = false ∧ ins x y = false ∧ ins x y = false ∧ (vl k c && ins x y) = false ∧ true = true ∧ True) := by kernel_rfl

theorem ob_o4f (k c x y : Int) : fnP (TRf) G 10000 fe4 (.r [] 0 (.r [] 63 (.r [] 13 (.lit (.rs 3 [] 0 28 (.rs 5 [] 7 33 (.r [] 7 .nil) (.r [] 3 .nil)) (.r [] 15 .nil)))))) ([lnV k c, ptV x y]) ([.bool true]) ([]) = (
vl k c = false ∧ ((rfE k c x y == 1) = true → ((rfPX k c x y == 0 && rfPY k c x y == 0) = true → true = true ∧ True) ∧ ((rfPX k c x y == 0 && rfPY k c x y == 0) = false → false = true ∧ True)) ∧ ((rfE
k c x y == 1) = false → false = true ∧ True)) := by kernel_rfl

theorem ob_o4t (k c x y : Int) : fnP (TRt) G 10000 fe4 (.r [] 0 (.r [] 63 (.r [] 61 (.cnd (.rs 3 [] 0 28 (.rs 5 [] 7 33 (.r [] 7 .nil) (.r [] 3 .nil)) (.r [] 15 .nil)) (.r [] 11 (.r [] 3 (.cnd (.rs 3 [] 0 44 (.rs 5 [] 7 49 (.r [] 7 .nil) (.r [] 3 .nil)) (.r [] 15 .nil)) (.r [] 63 (.r [] 15 (.r [yO 643, yO 644, yO 645, (646, .auto, Dr.pk true), yO 648, yO 649, (650, .auto, Dr.pk true), yO 652, yO 653, yO 654, (655, .auto, Dr.pk true), yO 657, yO 658, yO 659, yO 660, yO 661, yO 662, yO 663, yO 664, yO 665, yO 666, yO 667, yO 668, yO 669, yO 670, yO 671, (672, .auto, Dr.pk true), yO 674, yO 675, yO 676, yO 677, yO 678, yO 679, yO 680, yO 681, (682, .auto, Dr.pk true), yO 684, (685, .auto, Dr.pk true)] 834806736973108434090 .nil)))))))))) ([lnV k c, ptV x y]) ([.bool true]) ([]) = (
vl k c = true ∧ ((bI (ins x y) 1 0 == 0) = true → ((rfE k c x y == 1) = true → ((rfPX k c x y == 0 && rfPY k c x y == 0) = true → true = true ∧ True) ∧ ((rfPX k c x y == 0 && rfPY k c x y == 0) =
false → false = true ∧ True)) ∧ ((rfE k c x y == 1) = false → false = true ∧ True)) ∧ ((bI (ins x y) 1 0 == 0) = false → (vl k c = true ∧ sm x ∧ sm y) ∧ ((bI (ins (rfX k c x y) (rfY k c x y)) 1 0 ==
0) = true → ((rfE k c x y == 3) = true → ((rfPX k c x y == 0 && rfPY k c x y == 0) = true → true = true ∧ True) ∧ ((rfPX k c x y == 0 && rfPY k c x y == 0) = false → false = true ∧ True)) ∧ ((rfE k c
x y == 3) = false → false = true ∧ True)) ∧ ((bI (ins (rfX k c x y) (rfY k c x y)) 1 0 == 0) = false → (rfE k c x y == 0) = true ∧ (rfE k c x y == 0) = true ∧ (rfE k c x y == 0) = true ∧ (rfE k c x y
== 0) = true ∧ (rfPX k c x y == rfX k c x y && rfPY k c x y == rfY k c x y) = true ∧ (rfPX k c x y == rfX k c x y && rfPY k c x y == rfY k c x y) = true ∧ (rfPX k c x y == rfX k c x y && rfPY k c x y
== rfY k c x y) = true ∧ (rfE k c (rfPX k c x y) (rfPY k c x y) == 0) = true ∧ (rfE k c (rfPX k c x y) (rfPY k c x y) == 0) = true ∧ (rfE k c (rfPX k c x y) (rfPY k c x y) == 0) = true ∧ (rfE k c
(rfPX k c x y) (rfPY k c x y) == 0) = true ∧ (rfPX k c (rfPX k c x y) (rfPY k c x y) == x && rfPY k c (rfPX k c x y) (rfPY k c x y) == y) = true ∧ (rfPX k c (rfPX k c x y) (rfPY k c x y) == x && rfPY
k c (rfPX k c x y) (rfPY k c x y) == y) = true ∧ (rfPX k c (rfPX k c x y) (rfPY k c x y) == x && rfPY k c (rfPX k c x y) (rfPY k c x y) == y) = true ∧ (rfPX k c (rfPX k c x y) (rfPY k c x y) == x &&
rfPY k c (rfPX k c x y) (rfPY k c x y) == y) = true ∧ (rfPX k c (rfPX k c x y) (rfPY k c x y) == x && rfPY k c (rfPX k c x y) (rfPY k c x y) == y) = true ∧ (rfPX k c (rfPX k c x y) (rfPY k c x y) == x
&& rfPY k c (rfPX k c x y) (rfPY k c x y) == y) = true ∧ inR IntKind.i64 (rfPX k c x y - x) = true ∧ (rfPX k c (rfPX k c x y) (rfPY k c x y) == x && rfPY k c (rfPX k c x y) (rfPY k c x y) == y) = true
∧ inR IntKind.i64 (crB k * (rfPX k c x y - x)) = true ∧ (rfPX k c (rfPX k c x y) (rfPY k c x y) == x && rfPY k c (rfPX k c x y) (rfPY k c x y) == y) = true ∧ (rfPX k c (rfPX k c x y) (rfPY k c x y) ==
x && rfPY k c (rfPX k c x y) (rfPY k c x y) == y) = true ∧ (rfPX k c (rfPX k c x y) (rfPY k c x y) == x && rfPY k c (rfPX k c x y) (rfPY k c x y) == y) = true ∧ (rfPX k c (rfPX k c x y) (rfPY k c x y)
== x && rfPY k c (rfPX k c x y) (rfPY k c x y) == y) = true ∧ (rfPX k c (rfPX k c x y) (rfPY k c x y) == x && rfPY k c (rfPX k c x y) (rfPY k c x y) == y) = true ∧ (rfPX k c (rfPX k c x y) (rfPY k c x
y) == x && rfPY k c (rfPX k c x y) (rfPY k c x y) == y) = true ∧ inR IntKind.i64 (rfPY k c x y - y) = true ∧ (rfPX k c (rfPX k c x y) (rfPY k c x y) == x && rfPY k c (rfPX k c x y) (rfPY k c x y) ==
y) = true ∧ inR IntKind.i64 (crA k * (rfPY k c x y - y)) = true ∧ (rfPX k c (rfPX k c x y) (rfPY k c x y) == x && rfPY k c (rfPX k c x y) (rfPY k c x y) == y) = true ∧ (rfPX k c (rfPX k c x y) (rfPY k
c x y) == x && rfPY k c (rfPX k c x y) (rfPY k c x y) == y) = true ∧ (crB k * (rfPX k c x y - x) == crA k * (rfPY k c x y - y)) = true ∧ (crB k * (rfPX k c x y - x) == crA k * (rfPY k c x y - y)) =
true ∧ (crB k * (rfPX k c x y - x) == crA k * (rfPY k c x y - y)) = true ∧ (vl k c = true ∧ sm (rfPX k c x y) ∧ sm (rfPY k c x y)) ∧ (crB k * (rfPX k c x y - x) == crA k * (rfPY k c x y - y)) = true ∧
(crB k * (rfPX k c x y - x) == crA k * (rfPY k c x y - y)) = true ∧ (crB k * (rfPX k c x y - x) == crA k * (rfPY k c x y - y)) = true ∧ (vl k c = true ∧ sm x ∧ sm y) ∧ (crB k * (rfPX k c x y - x) ==
crA k * (rfPY k c x y - y)) = true ∧ inR IntKind.i64 (0 - (acr k x y - 2 * c)) = true ∧ (crB k * (rfPX k c x y - x) == crA k * (rfPY k c x y - y)) = true ∧ (crB k * (rfPX k c x y - x) == crA k * (rfPY
k c x y - y)) = true ∧ (acr k (rfPX k c x y) (rfPY k c x y) - 2 * c == 0 - (acr k x y - 2 * c)) = true ∧ (acr k (rfPX k c x y) (rfPY k c x y) - 2 * c == 0 - (acr k x y - 2 * c)) = true ∧ true = true ∧
True))) := by kernel_rfl

end Go.Proofs.YtpkmnabefnhcfaaDoor.X
