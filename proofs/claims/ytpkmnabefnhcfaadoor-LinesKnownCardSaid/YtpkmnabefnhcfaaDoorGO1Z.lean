/-
  What is to be shown of the functions (made by a program).
-/
import Derived.Test.YtpkmnabefnhcfaaDoorGDZ
import Derived.KernelRfl
set_option maxRecDepth 1000000
set_option linter.unusedVariables false
namespace Go.Proofs.YtpkmnabefnhcfaaDoor.X
open Go Go.Ab
open List IntKind

theorem ob_o11 (k c : Int) : fnP (T0) G 10000 fe11 (.r [] 0 (.rs 4 [] 1 6 (.rs 5 [] 7 11 (.rs 5 [] 7 16 (.r [] 7 (.cnd (.r [] 0 .nil) (.r [] 0 .nil))) (.r [] 3 (.lit (.r [] 0 .nil)))) (.r [] 15 (.lit (.r [] 0 .nil)))) (.r [] 63 (.lit (.r [] 0 .nil))))) ([lnV k c]) ([.int .i64 (bI (vl k c) 1 0)]) ([]) = (
 (leb 1 k = true → (leb k 4 = true → (leb (-4096) c = true → (leb c 4096 = true → 1 = bI (vl k c) 1 0 ∧ True) ∧ (leb c 4096 = false → 0 = bI (vl k c) 1 0 ∧ True)) ∧ (leb (-4096) c = false → 0 = bI (vl
 k c) 1 0 ∧ True)) ∧ (leb k 4 = false → 0 = bI (vl k c) 1 0 ∧ True)) ∧ (leb 1 k = false → 0 = bI (vl k c) 1 0 ∧ True)) := by kernel_rfl

theorem ob_o12 (x y : Int) : fnP (T0) G 10000 fe12 (.r [] 0 (.rs 4 [] 1 6 (.rs 5 [] 7 11 (.rs 5 [] 7 16 (.r [] 7 (.cnd (.r [] 0 .nil) (.r [] 0 .nil))) (.r [] 3 (.lit (.r [] 0 .nil)))) (.r [] 15 (.lit (.r [] 0 .nil)))) (.r [] 63 (.lit (.r [] 0 .nil))))) ([ptV x y]) ([.int .i64 (bI (ins x y) 1 0)]) ([]) = (
 (leb (-65536) x = true → (leb x 65536 = true → (leb (-65536) y = true → (leb y 65536 = true → 1 = bI (ins x y) 1 0 ∧ True) ∧ (leb y 65536 = false → 0 = bI (ins x y) 1 0 ∧ True)) ∧ (leb (-65536) y =
 false → 0 = bI (ins x y) 1 0 ∧ True)) ∧ (leb x 65536 = false → 0 = bI (ins x y) 1 0 ∧ True)) ∧ (leb (-65536) x = false → 0 = bI (ins x y) 1 0 ∧ True)) := by kernel_rfl

theorem ob_o13 (k c : Int) : fnP (T0) G 10000 fe13 (.r [] 0 (.rs 4 [] 1 6 (.r [] 63 (.lit (.r [] 0 .nil))) (.rs 5 [] 7 11 (.r [] 15 (.lit (.r [] 0 .nil))) (.rs 5 [] 7 16 (.r [] 3 (.lit (.r [] 0 .nil))) (.r [] 7 (.cnd (.r [] 0 .nil) (.r [] 0 .nil))))))) ([lnV k c]) ([.int .i64 (bI (vl k c) 0 1)]) ([]) = (
 (ltb k 1 = true → 1 = bI (vl k c) 0 1 ∧ True) ∧ (ltb k 1 = false → (ltb 4 k = true → 1 = bI (vl k c) 0 1 ∧ True) ∧ (ltb 4 k = false → (ltb c (-4096) = true → 1 = bI (vl k c) 0 1 ∧ True) ∧ (ltb c
 (-4096) = false → (ltb 4096 c = true → 1 = bI (vl k c) 0 1 ∧ True) ∧ (ltb 4096 c = false → 0 = bI (vl k c) 0 1 ∧ True))))) := by kernel_rfl

theorem ob_o14 (x y : Int) : fnP (T0) G 10000 fe14 (.r [] 0 (.rs 4 [] 1 6 (.r [] 63 (.lit (.r [] 0 .nil))) (.rs 5 [] 7 11 (.r [] 15 (.lit (.r [] 0 .nil))) (.rs 5 [] 7 16 (.r [] 3 (.lit (.r [] 0 .nil))) (.r [] 7 (.cnd (.r [] 0 .nil) (.r [] 0 .nil))))))) ([ptV x y]) ([.int .i64 (bI (ins x y) 0 1)]) ([]) = (
 (ltb x (-65536) = true → 1 = bI (ins x y) 0 1 ∧ True) ∧ (ltb x (-65536) = false → (ltb 65536 x = true → 1 = bI (ins x y) 0 1 ∧ True) ∧ (ltb 65536 x = false → (ltb y (-65536) = true → 1 = bI (ins x y)
 0 1 ∧ True) ∧ (ltb y (-65536) = false → (ltb 65536 y = true → 1 = bI (ins x y) 0 1 ∧ True) ∧ (ltb 65536 y = false → 0 = bI (ins x y) 0 1 ∧ True))))) := by kernel_rfl

theorem ob_o20 (k : Int) : fnP (T0) G 10000 fe20 (.r [] 0 (.r [] 0 (.cnd (.r [] 0 .nil) (.r [] 0 (.cnd (.r [] 0 .nil) (.r [] 0 (.cnd (.r [] 0 .nil) (.r [] 0 .nil)))))))) ([.int .u8 k]) ([.int .i64 (crA k), .int .i64 (crB k)]) ([]) = (
 ((k == 1) = true → 1 = crA k ∧ 0 = crB k ∧ True) ∧ ((k == 1) = false → ((k == 2) = true → 0 = crA k ∧ 1 = crB k ∧ True) ∧ ((k == 2) = false → ((k == 3) = true → 1 = crA k ∧ 1 = crB k ∧ True) ∧ ((k ==
 3) = false → -1 = crA k ∧ 1 = crB k ∧ True)))) := by kernel_rfl

theorem ob_o26 (x y : Int) : fnP (T0) G 10000 fe26 (.r [] 0 (.r [] 1 .nil)) ([.int .i64 x, .int .i64 y]) ([ptV x y]) ([]) = (
 x = x ∧ y = y ∧ True) := by kernel_rfl

theorem ob_o30 (k c : Int) : fnP (T0) G 10000 fe30 (.r [] 0 (.r [] 1 .nil)) ([.int .u8 k, .int .i64 c]) ([lnV k c]) ([]) = (
 k = k ∧ c = c ∧ True) := by kernel_rfl

theorem ob_o31  : fnP (T0) G 10000 fe31 (.r [] 0 (.r [] 1 (.r [] 1 .nil))) ([]) ([rulesV]) (rulesB) = (
 5 = 5 ∧ iL [0, 2, 1, 4, 3] = [0, 2, 1, 4, 3] ∧ 0 = 0 ∧ 0 = 0 ∧ True) := by kernel_rfl

theorem ob_o32 (k x y : Int) : fnP (T0) G 10000 fe32 (.r [] 0 (.r [] 0 (.r [] 0 (.cnd (.r [] 1 .nil) (.r [] 0 (.cnd (.r [] 1 .nil) (.r [] 0 (.cnd (.r [] 3 .nil) (.r [] 3 .nil))))))))) ([.int .u8 k, ptV x y]) ([.int .i64 (acr k x y)]) ([]) = (
 ((k == 1) = true → x = acr k x y ∧ True) ∧ ((k == 1) = false → ((k == 2) = true → y = acr k x y ∧ True) ∧ ((k == 2) = false → ((k == 3) = true → inR i64 (x + y) = true ∧ x + y = acr k x y ∧ True) ∧
 ((k == 3) = false → inR i64 (y - x) = true ∧ y - x = acr k x y ∧ True)))) := by kernel_rfl

theorem ob_o38 (c x y : Int) : fnP (T0) G 10000 fe38 (.r [] 0 (.r [] 26 .nil)) ([.int .i64 c, ptV x y]) ([ptV (4 * c - x) y]) ([]) = (
 inR i64 (4 * c) = true ∧ inR i64 (4 * c - x) = true ∧ 4 * c - x = 4 * c - x ∧ y = y ∧ True) := by kernel_rfl

theorem ob_o41 (c x y : Int) : fnP (T0) G 10000 fe41 (.r [] 0 (.r [] 21 .nil)) ([.int .i64 c, ptV x y]) ([ptV x (4 * c - y)]) ([]) = (
 inR i64 (4 * c) = true ∧ inR i64 (4 * c - y) = true ∧ x = x ∧ 4 * c - y = 4 * c - y ∧ True) := by kernel_rfl

theorem ob_o44 (c x y : Int) : fnP (T0) G 10000 fe44 (.r [] 0 (.r [] 82 .nil)) ([.int .i64 c, ptV x y]) ([ptV (2 * c - y) (2 * c - x)]) ([]) = (
 inR i64 (2 * c) = true ∧ inR i64 (2 * c - y) = true ∧ inR i64 (2 * c) = true ∧ inR i64 (2 * c - x) = true ∧ 2 * c - y = 2 * c - y ∧ 2 * c - x = 2 * c - x ∧ True) := by kernel_rfl

theorem ob_o47 (c x y : Int) : fnP (T0) G 10000 fe47 (.r [] 0 (.r [] 73 .nil)) ([.int .i64 c, ptV x y]) ([ptV (y - 2 * c) (x + 2 * c)]) ([]) = (
 inR i64 (2 * c) = true ∧ inR i64 (y - 2 * c) = true ∧ inR i64 (2 * c) = true ∧ inR i64 (x + 2 * c) = true ∧ y - 2 * c = y - 2 * c ∧ x + 2 * c = x + 2 * c ∧ True) := by kernel_rfl

theorem ob_o17 (k c x y : Int) : fnP (TA) G 10000 fe17 (.r [] 0 (.r [] 15 (.r [] 37 .nil))) ([lnV k c, ptV x y]) ([.int .i64 (acr k x y - 2 * c)]) ([]) = (
 inR i64 (crA k * x) = true ∧ inR i64 (crB k * y) = true ∧ inR i64 (crA k * x + crB k * y) = true ∧ inR i64 (2 * c) = true ∧ inR i64 (crA k * x + crB k * y - 2 * c) = true ∧ crA k * x + crB k * y - 2 *
 c = acr k x y - 2 * c ∧ True) := by kernel_rfl

theorem ob_o19 (k c x y : Int) : fnP (TB') G 10000 fe19 (.r [] 0 (.r [] 15 (.r [] 3 (.r [] 73 .nil)))) ([lnV k c, ptV x y]) ([ptV (rfX k c x y) (rfY k c x y)]) ([]) = (
 (vl k c = true ∧ sm x ∧ sm y) ∧ inR i64 (2 * (acr k x y - 2 * c)) = true ∧ inR i64 (crA k * crA k) = true ∧ inR i64 (crB k * crB k) = true ∧ inR i64 (crA k * crA k + crB k * crB k) = true ∧ inR i64
 (Int.tdiv (2 * (acr k x y - 2 * c)) (crA k * crA k + crB k * crB k)) = true ∧ (!crA k * crA k + crB k * crB k == 0) = true ∧ inR i64 (Int.tdiv (2 * (acr k x y - 2 * c)) (crA k * crA k + crB k * crB k)
 * crA k) = true ∧ inR i64 (x - Int.tdiv (2 * (acr k x y - 2 * c)) (crA k * crA k + crB k * crB k) * crA k) = true ∧ inR i64 (Int.tdiv (2 * (acr k x y - 2 * c)) (crA k * crA k + crB k * crB k) * crB k)
 = true ∧ inR i64 (y - Int.tdiv (2 * (acr k x y - 2 * c)) (crA k * crA k + crB k * crB k) * crB k) = true ∧ x - Int.tdiv (2 * (acr k x y - 2 * c)) (crA k * crA k + crB k * crB k) * crA k = rfX k c x y
 ∧ y - Int.tdiv (2 * (acr k x y - 2 * c)) (crA k * crA k + crB k * crB k) * crB k = rfY k c x y ∧ True) := by kernel_rfl

theorem ob_o18f (k c x y : Int) : fnP (TA) G 10000 fe18 (.r [] 0 (.rs 4 [] 3 10 (.r [] 3 (.lit (.r [] 1 .nil))) (.r [] 15 (.tt (.r [] 1 .nil))))) ([lnV k c, ptV x y]) ([ptV 0 0, .int .i64 1]) ([]) = (
 ((bI (vl k c) 0 1 != 0) = true → iI 0 = 0 ∧ iI 0 = 0 ∧ iI 1 = 1 ∧ True) ∧ ((bI (vl k c) 0 1 != 0) = false → (bI (ins x y) 0 1 != 0) = true ∧ iI 0 = 0 ∧ iI 0 = 0 ∧ iI 1 = 1 ∧ True)) := by kernel_rfl

theorem ob_o18k1 (c x y : Int) : fnP (TA) G 10000 fe18 (.r [] 0 (.rs 4 [] 3 10 (.r [] 3 (.lit (.r [] 1 .nil))) (.r [] 15 (.cnd (.r [] 1 .nil) (.r [] 767 (.r [] 3 (.cnd (.r [] 1 .nil) (.r [] 3 .nil)))))))) ([lnV 1 c, ptV x y]) ([ptV (rfPX 1 c x y) (rfPY 1 c x y), .int .i64 (rfE 1 c x y)]) ([]) = (
 ((bI (vl 1 c) 0 1 != 0) = true → 0 = rfPX 1 c x y ∧ 0 = rfPY 1 c x y ∧ 1 = rfE 1 c x y ∧ True) ∧ ((bI (vl 1 c) 0 1 != 0) = false → ((bI (ins x y) 0 1 != 0) = true → 0 = rfPX 1 c x y ∧ 0 = rfPY 1 c x y
 ∧ 1 = rfE 1 c x y ∧ True) ∧ ((bI (ins x y) 0 1 != 0) = false → (sm c ∧ sm x ∧ sm y) ∧ ((bI (ins (4 * c - x) y) 0 1 != 0) = true → 0 = rfPX 1 c x y ∧ 0 = rfPY 1 c x y ∧ 3 = rfE 1 c x y ∧ True) ∧ ((bI
 (ins (4 * c - x) y) 0 1 != 0) = false → 4 * c - x = rfPX 1 c x y ∧ y = rfPY 1 c x y ∧ 0 = rfE 1 c x y ∧ True)))) := by kernel_rfl

theorem ob_o18k2 (c x y : Int) : fnP (TA) G 10000 fe18 (.r [] 0 (.rs 4 [] 3 10 (.r [] 3 (.lit (.r [] 1 .nil))) (.r [] 15 (.cnd (.r [] 1 .nil) (.r [] 767 (.r [] 3 (.cnd (.r [] 1 .nil) (.r [] 3 .nil)))))))) ([lnV 2 c, ptV x y]) ([ptV (rfPX 2 c x y) (rfPY 2 c x y), .int .i64 (rfE 2 c x y)]) ([]) = (
 ((bI (vl 2 c) 0 1 != 0) = true → 0 = rfPX 2 c x y ∧ 0 = rfPY 2 c x y ∧ 1 = rfE 2 c x y ∧ True) ∧ ((bI (vl 2 c) 0 1 != 0) = false → ((bI (ins x y) 0 1 != 0) = true → 0 = rfPX 2 c x y ∧ 0 = rfPY 2 c x y
 ∧ 1 = rfE 2 c x y ∧ True) ∧ ((bI (ins x y) 0 1 != 0) = false → (sm c ∧ sm x ∧ sm y) ∧ ((bI (ins x (4 * c - y)) 0 1 != 0) = true → 0 = rfPX 2 c x y ∧ 0 = rfPY 2 c x y ∧ 3 = rfE 2 c x y ∧ True) ∧ ((bI
 (ins x (4 * c - y)) 0 1 != 0) = false → x = rfPX 2 c x y ∧ 4 * c - y = rfPY 2 c x y ∧ 0 = rfE 2 c x y ∧ True)))) := by kernel_rfl

theorem ob_o18k3 (c x y : Int) : fnP (TA) G 10000 fe18 (.r [] 0 (.rs 4 [] 3 10 (.r [] 3 (.lit (.r [] 1 .nil))) (.r [] 15 (.cnd (.r [] 1 .nil) (.r [] 767 (.r [] 3 (.cnd (.r [] 1 .nil) (.r [] 3 .nil)))))))) ([lnV 3 c, ptV x y]) ([ptV (rfPX 3 c x y) (rfPY 3 c x y), .int .i64 (rfE 3 c x y)]) ([]) = (
 ((bI (vl 3 c) 0 1 != 0) = true → 0 = rfPX 3 c x y ∧ 0 = rfPY 3 c x y ∧ 1 = rfE 3 c x y ∧ True) ∧ ((bI (vl 3 c) 0 1 != 0) = false → ((bI (ins x y) 0 1 != 0) = true → 0 = rfPX 3 c x y ∧ 0 = rfPY 3 c x y
 ∧ 1 = rfE 3 c x y ∧ True) ∧ ((bI (ins x y) 0 1 != 0) = false → (sm c ∧ sm x ∧ sm y) ∧ ((bI (ins (2 * c - y) (2 * c - x)) 0 1 != 0) = true → 0 = rfPX 3 c x y ∧ 0 = rfPY 3 c x y ∧ 3 = rfE 3 c x y ∧
 True) ∧ ((bI (ins (2 * c - y) (2 * c - x)) 0 1 != 0) = false → 2 * c - y = rfPX 3 c x y ∧ 2 * c - x = rfPY 3 c x y ∧ 0 = rfE 3 c x y ∧ True)))) := by kernel_rfl

theorem ob_o18k4 (c x y : Int) : fnP (TA) G 10000 fe18 (.r [] 0 (.rs 4 [] 3 10 (.r [] 3 (.lit (.r [] 1 .nil))) (.r [] 15 (.cnd (.r [] 1 .nil) (.r [] 767 (.r [] 3 (.cnd (.r [] 1 .nil) (.r [] 3 .nil)))))))) ([lnV 4 c, ptV x y]) ([ptV (rfPX 4 c x y) (rfPY 4 c x y), .int .i64 (rfE 4 c x y)]) ([]) = (
 ((bI (vl 4 c) 0 1 != 0) = true → 0 = rfPX 4 c x y ∧ 0 = rfPY 4 c x y ∧ 1 = rfE 4 c x y ∧ True) ∧ ((bI (vl 4 c) 0 1 != 0) = false → ((bI (ins x y) 0 1 != 0) = true → 0 = rfPX 4 c x y ∧ 0 = rfPY 4 c x y
 ∧ 1 = rfE 4 c x y ∧ True) ∧ ((bI (ins x y) 0 1 != 0) = false → (sm c ∧ sm x ∧ sm y) ∧ ((bI (ins (y - 2 * c) (x + 2 * c)) 0 1 != 0) = true → 0 = rfPX 4 c x y ∧ 0 = rfPY 4 c x y ∧ 3 = rfE 4 c x y ∧
 True) ∧ ((bI (ins (y - 2 * c) (x + 2 * c)) 0 1 != 0) = false → y - 2 * c = rfPX 4 c x y ∧ x + 2 * c = rfPY 4 c x y ∧ 0 = rfE 4 c x y ∧ True)))) := by kernel_rfl

theorem ob_o22 (k c : Int) : fnP (TA) G 10000 fe22 (.r [] 0 (.r [] 15 (.r [] 73 (.r [] 0 (.cnd (.r [] 21 (.r [] 403 .nil)) (.r [] 403 .nil)))))) ([lnV k c]) ([ptV (onX k c) (onY k c), ptV (onX k c - 2 * crB k) (onY k c + 2 * crA k)]) ([]) = (
 inR i64 (2 * c) = true ∧ inR i64 (2 * c * crA k) = true ∧ inR i64 (2 * c) = true ∧ inR i64 (2 * c * crB k) = true ∧ inR i64 (crA k * crA k) = true ∧ inR i64 (crB k * crB k) = true ∧ inR i64 (crA k *
 crA k + crB k * crB k) = true ∧ ((crA k * crA k + crB k * crB k == 2) = true → inR i64 (c * crA k) = true ∧ inR i64 (c * crB k) = true ∧ inR i64 (2 * crB k) = true ∧ inR i64 (c * crA k - 2 * crB k) =
 true ∧ inR i64 (2 * crA k) = true ∧ inR i64 (c * crB k + 2 * crA k) = true ∧ c * crA k = onX k c ∧ c * crB k = onY k c ∧ c * crA k - 2 * crB k = onX k c - 2 * crB k ∧ c * crB k + 2 * crA k = onY k c +
 2 * crA k ∧ True) ∧ ((crA k * crA k + crB k * crB k == 2) = false → inR i64 (2 * crB k) = true ∧ inR i64 (2 * c * crA k - 2 * crB k) = true ∧ inR i64 (2 * crA k) = true ∧ inR i64 (2 * c * crB k + 2 *
 crA k) = true ∧ 2 * c * crA k = onX k c ∧ 2 * c * crB k = onY k c ∧ 2 * c * crA k - 2 * crB k = onX k c - 2 * crB k ∧ 2 * c * crB k + 2 * crA k = onY k c + 2 * crA k ∧ True)) := by kernel_rfl

theorem ob_o25 (k c : Int) : fnP (T0) G 10000 fe25 (.r [] 0 (.r [] 43 .nil)) ([.agg [.int .u8 k, .int .i8 c]]) ([lnV (1 + k.tmod 4) c]) ([]) = (
 inR u8 (1 + Int.tmod k 4) = true ∧ inR i64 c = true ∧ 1 + Int.tmod k 4 = 1 + Int.tmod k 4 ∧ c = c ∧ True) := by kernel_rfl

end Go.Proofs.YtpkmnabefnhcfaaDoor.X
