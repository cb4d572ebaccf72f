/-
  What is to be shown of the functions (made by a program).
-/
import Derived.Test.YtpkmnabefnhcfaaDoorGDZ
import Derived.KernelRfl
set_option maxRecDepth 1000000
set_option linter.unusedVariables false
namespace Go.Proofs.YtpkmnabefnhcfaaDoor.X
open Go Go.Ab
open List IntKind

theorem ob_o19 (k c x y : Int) : fnP (TB') G 10000 fe19 (.r [] 0 (.r [] 15 (.r [] 3 (.r [] 73 .nil)))) ([lnV k c, ptV x y]) ([ptV (rfX k c x y) (rfY k c x y)]) ([]) = (
 (vl k c = true ∧ sm x ∧ sm y) ∧ inR i64 (2 * (acr k x y - 2 * c)) = true ∧ inR i64 (crA k * crA k) = true ∧ inR i64 (crB k * crB k) = true ∧ inR i64 (crA k * crA k + crB k * crB k) = true ∧ inR i64
 (Int.tdiv (2 * (acr k x y - 2 * c)) (crA k * crA k + crB k * crB k)) = true ∧ (!crA k * crA k + crB k * crB k == 0) = true ∧ inR i64 (Int.tdiv (2 * (acr k x y - 2 * c)) (crA k * crA k + crB k * crB k)
 * crA k) = true ∧ inR i64 (x - Int.tdiv (2 * (acr k x y - 2 * c)) (crA k * crA k + crB k * crB k) * crA k) = true ∧ inR i64 (Int.tdiv (2 * (acr k x y - 2 * c)) (crA k * crA k + crB k * crB k) * crB k)
 = true ∧ inR i64 (y - Int.tdiv (2 * (acr k x y - 2 * c)) (crA k * crA k + crB k * crB k) * crB k) = true ∧ x - Int.tdiv (2 * (acr k x y - 2 * c)) (crA k * crA k + crB k * crB k) * crA k = rfX k c x y
 ∧ y - Int.tdiv (2 * (acr k x y - 2 * c)) (crA k * crA k + crB k * crB k) * crB k = rfY k c x y ∧ True) := by kernel_rfl

theorem ob_o39j1 (c d : Int) : fnP (T0) G 10000 fe39 (.r [] 0 (.r [] 31898 .nil)) ([.int .i64 c, lnV 1 d]) ([lnV (imK 1 c 1 d) (imC 1 c 1 d)]) ([]) = (
 inR i64 (2 * c) = true ∧ inR i64 (2 * c - d) = true ∧ inR i64 (2 * c) = true ∧ inR i64 (d - 2 * c) = true ∧ inR i64 (2 * c) = true ∧ inR i64 (d + 2 * c) = true ∧ iI 1 = 1 ∧ 2 * c - d = imC 1 c 1 d ∧
 True) := by kernel_rfl

theorem ob_o39j2 (c d : Int) : fnP (T0) G 10000 fe39 (.r [] 0 (.r [] 31898 .nil)) ([.int .i64 c, lnV 2 d]) ([lnV (imK 1 c 2 d) (imC 1 c 2 d)]) ([]) = (
 inR i64 (2 * c) = true ∧ inR i64 (2 * c - d) = true ∧ inR i64 (2 * c) = true ∧ inR i64 (d - 2 * c) = true ∧ inR i64 (2 * c) = true ∧ inR i64 (d + 2 * c) = true ∧ iI 2 = 2 ∧ d = imC 1 c 2 d ∧ True) := by kernel_rfl

theorem ob_o39j3 (c d : Int) : fnP (T0) G 10000 fe39 (.r [] 0 (.r [] 31898 .nil)) ([.int .i64 c, lnV 3 d]) ([lnV (imK 1 c 3 d) (imC 1 c 3 d)]) ([]) = (
 inR i64 (2 * c) = true ∧ inR i64 (2 * c - d) = true ∧ inR i64 (2 * c) = true ∧ inR i64 (d - 2 * c) = true ∧ inR i64 (2 * c) = true ∧ inR i64 (d + 2 * c) = true ∧ iI 4 = 4 ∧ d - 2 * c = imC 1 c 3 d ∧
 True) := by kernel_rfl

theorem ob_o39j4 (c d : Int) : fnP (T0) G 10000 fe39 (.r [] 0 (.r [] 31898 .nil)) ([.int .i64 c, lnV 4 d]) ([lnV (imK 1 c 4 d) (imC 1 c 4 d)]) ([]) = (
 inR i64 (2 * c) = true ∧ inR i64 (2 * c - d) = true ∧ inR i64 (2 * c) = true ∧ inR i64 (d - 2 * c) = true ∧ inR i64 (2 * c) = true ∧ inR i64 (d + 2 * c) = true ∧ iI 3 = 3 ∧ d + 2 * c = imC 1 c 4 d ∧
 True) := by kernel_rfl

theorem ob_o42j1 (c d : Int) : fnP (T0) G 10000 fe42 (.r [] 0 (.r [] 32037 .nil)) ([.int .i64 c, lnV 1 d]) ([lnV (imK 2 c 1 d) (imC 2 c 1 d)]) ([]) = (
 inR i64 (2 * c) = true ∧ inR i64 (2 * c - d) = true ∧ inR i64 (2 * c) = true ∧ inR i64 (2 * c - d) = true ∧ inR i64 (2 * c) = true ∧ inR i64 (2 * c - d) = true ∧ iI 1 = 1 ∧ d = imC 2 c 1 d ∧ True) := by kernel_rfl

theorem ob_o42j2 (c d : Int) : fnP (T0) G 10000 fe42 (.r [] 0 (.r [] 32037 .nil)) ([.int .i64 c, lnV 2 d]) ([lnV (imK 2 c 2 d) (imC 2 c 2 d)]) ([]) = (
 inR i64 (2 * c) = true ∧ inR i64 (2 * c - d) = true ∧ inR i64 (2 * c) = true ∧ inR i64 (2 * c - d) = true ∧ inR i64 (2 * c) = true ∧ inR i64 (2 * c - d) = true ∧ iI 2 = 2 ∧ 2 * c - d = imC 2 c 2 d ∧
 True) := by kernel_rfl

theorem ob_o42j3 (c d : Int) : fnP (T0) G 10000 fe42 (.r [] 0 (.r [] 32037 .nil)) ([.int .i64 c, lnV 3 d]) ([lnV (imK 2 c 3 d) (imC 2 c 3 d)]) ([]) = (
 inR i64 (2 * c) = true ∧ inR i64 (2 * c - d) = true ∧ inR i64 (2 * c) = true ∧ inR i64 (2 * c - d) = true ∧ inR i64 (2 * c) = true ∧ inR i64 (2 * c - d) = true ∧ iI 4 = 4 ∧ 2 * c - d = imC 2 c 3 d ∧
 True) := by kernel_rfl

theorem ob_o42j4 (c d : Int) : fnP (T0) G 10000 fe42 (.r [] 0 (.r [] 32037 .nil)) ([.int .i64 c, lnV 4 d]) ([lnV (imK 2 c 4 d) (imC 2 c 4 d)]) ([]) = (
 inR i64 (2 * c) = true ∧ inR i64 (2 * c - d) = true ∧ inR i64 (2 * c) = true ∧ inR i64 (2 * c - d) = true ∧ inR i64 (2 * c) = true ∧ inR i64 (2 * c - d) = true ∧ iI 3 = 3 ∧ 2 * c - d = imC 2 c 4 d ∧
 True) := by kernel_rfl

theorem ob_o45j1 (c d : Int) : fnP (T0) G 10000 fe45 (.r [] 0 (.r [] 2074591 .nil)) ([.int .i64 c, lnV 1 d, .iptr (.ints .u8 twins)]) ([lnV (imK 3 c 1 d) (imC 3 c 1 d)]) ([]) = (
 inR i64 (c - d) = true ∧ inR i64 (c - d) = true ∧ inR i64 (2 * c) = true ∧ inR i64 (2 * c - d) = true ∧ iI 2 = 2 ∧ c - d = imC 3 c 1 d ∧ True) := by kernel_rfl

theorem ob_o45j2 (c d : Int) : fnP (T0) G 10000 fe45 (.r [] 0 (.r [] 2074591 .nil)) ([.int .i64 c, lnV 2 d, .iptr (.ints .u8 twins)]) ([lnV (imK 3 c 2 d) (imC 3 c 2 d)]) ([]) = (
 inR i64 (c - d) = true ∧ inR i64 (c - d) = true ∧ inR i64 (2 * c) = true ∧ inR i64 (2 * c - d) = true ∧ iI 1 = 1 ∧ c - d = imC 3 c 2 d ∧ True) := by kernel_rfl

theorem ob_o45j3 (c d : Int) : fnP (T0) G 10000 fe45 (.r [] 0 (.r [] 2074591 .nil)) ([.int .i64 c, lnV 3 d, .iptr (.ints .u8 twins)]) ([lnV (imK 3 c 3 d) (imC 3 c 3 d)]) ([]) = (
 inR i64 (c - d) = true ∧ inR i64 (c - d) = true ∧ inR i64 (2 * c) = true ∧ inR i64 (2 * c - d) = true ∧ iI 3 = 3 ∧ 2 * c - d = imC 3 c 3 d ∧ True) := by kernel_rfl

theorem ob_o45j4 (c d : Int) : fnP (T0) G 10000 fe45 (.r [] 0 (.r [] 2074591 .nil)) ([.int .i64 c, lnV 4 d, .iptr (.ints .u8 twins)]) ([lnV (imK 3 c 4 d) (imC 3 c 4 d)]) ([]) = (
 inR i64 (c - d) = true ∧ inR i64 (c - d) = true ∧ inR i64 (2 * c) = true ∧ inR i64 (2 * c - d) = true ∧ iI 4 = 4 ∧ d = imC 3 c 4 d ∧ True) := by kernel_rfl

theorem ob_o48j1 (c d : Int) : fnP (T0) G 10000 fe48 (.r [] 0 (.r [] 2054111 .nil)) ([.int .i64 c, lnV 1 d, .iptr (.ints .u8 twins)]) ([lnV (imK 4 c 1 d) (imC 4 c 1 d)]) ([]) = (
 inR i64 (d + c) = true ∧ inR i64 (d - c) = true ∧ inR i64 (2 * c) = true ∧ inR i64 (2 * c - d) = true ∧ iI 2 = 2 ∧ d + c = imC 4 c 1 d ∧ True) := by kernel_rfl

theorem ob_o48j2 (c d : Int) : fnP (T0) G 10000 fe48 (.r [] 0 (.r [] 2054111 .nil)) ([.int .i64 c, lnV 2 d, .iptr (.ints .u8 twins)]) ([lnV (imK 4 c 2 d) (imC 4 c 2 d)]) ([]) = (
 inR i64 (d + c) = true ∧ inR i64 (d - c) = true ∧ inR i64 (2 * c) = true ∧ inR i64 (2 * c - d) = true ∧ iI 1 = 1 ∧ d - c = imC 4 c 2 d ∧ True) := by kernel_rfl

theorem ob_o48j3 (c d : Int) : fnP (T0) G 10000 fe48 (.r [] 0 (.r [] 2054111 .nil)) ([.int .i64 c, lnV 3 d, .iptr (.ints .u8 twins)]) ([lnV (imK 4 c 3 d) (imC 4 c 3 d)]) ([]) = (
 inR i64 (d + c) = true ∧ inR i64 (d - c) = true ∧ inR i64 (2 * c) = true ∧ inR i64 (2 * c - d) = true ∧ iI 3 = 3 ∧ d = imC 4 c 3 d ∧ True) := by kernel_rfl

theorem ob_o48j4 (c d : Int) : fnP (T0) G 10000 fe48 (.r [] 0 (.r [] 2054111 .nil)) ([.int .i64 c, lnV 4 d, .iptr (.ints .u8 twins)]) ([lnV (imK 4 c 4 d) (imC 4 c 4 d)]) ([]) = (
 inR i64 (d + c) = true ∧ inR i64 (d - c) = true ∧ inR i64 (2 * c) = true ∧ inR i64 (2 * c - d) = true ∧ iI 4 = 4 ∧ 2 * c - d = imC 4 c 4 d ∧ True) := by kernel_rfl

theorem ob_o21f (k c j d : Int) : fnP (TB') G 10000 fe21 (.r [] 0 (.rs 4 [] 3 10 (.r [] 3 (.lit (.r [] 1 .nil))) (.r [] 15 (.tt (.r [] 1 .nil))))) ([lnV k c, lnV j d]) ([lnV 0 0, .int .i64 1]) ([]) = (
 ((bI (vl k c) 0 1 != 0) = true → iI 0 = 0 ∧ iI 0 = 0 ∧ iI 1 = 1 ∧ True) ∧ ((bI (vl k c) 0 1 != 0) = false → (bI (vl j d) 0 1 != 0) = true ∧ iI 0 = 0 ∧ iI 0 = 0 ∧ iI 1 = 1 ∧ True)) := by kernel_rfl

theorem ob_o21k1 (c j d : Int) : fnP (TB') G 10000 fe21 (.r [] 0 (.rs 4 [] 3 10 (.r [] 3 (.lit (.r [] 1 .nil))) (.r [] 15 (.cnd (.r [] 1 .nil) (.r [] 767 (.r [] 3 (.cnd (.r [] 1 .nil) (.r [] 3 .nil)))))))) ([lnV 1 c, lnV j d]) ([lnV (imRK 1 c j d) (imRC 1 c j d), .int .i64 (imE 1 c j d)]) ([]) = (
 ((bI (vl 1 c) 0 1 != 0) = true → 0 = imRK 1 c j d ∧ 0 = imRC 1 c j d ∧ 1 = imE 1 c j d ∧ True) ∧ ((bI (vl 1 c) 0 1 != 0) = false → ((bI (vl j d) 0 1 != 0) = true → 0 = imRK 1 c j d ∧ 0 = imRC 1 c j d
 ∧ 1 = imE 1 c j d ∧ True) ∧ ((bI (vl j d) 0 1 != 0) = false → (sm c ∧ sm d ∧ 1 ≤ j ∧ j ≤ 4) ∧ ((bI (vl (imK 1 c j d) (imC 1 c j d)) 0 1 != 0) = true → 0 = imRK 1 c j d ∧ 0 = imRC 1 c j d ∧ 3 = imE 1 c
 j d ∧ True) ∧ ((bI (vl (imK 1 c j d) (imC 1 c j d)) 0 1 != 0) = false → imK 1 c j d = imRK 1 c j d ∧ imC 1 c j d = imRC 1 c j d ∧ 0 = imE 1 c j d ∧ True)))) := by kernel_rfl

theorem ob_o21k2 (c j d : Int) : fnP (TB') G 10000 fe21 (.r [] 0 (.rs 4 [] 3 10 (.r [] 3 (.lit (.r [] 1 .nil))) (.r [] 15 (.cnd (.r [] 1 .nil) (.r [] 767 (.r [] 3 (.cnd (.r [] 1 .nil) (.r [] 3 .nil)))))))) ([lnV 2 c, lnV j d]) ([lnV (imRK 2 c j d) (imRC 2 c j d), .int .i64 (imE 2 c j d)]) ([]) = (
 ((bI (vl 2 c) 0 1 != 0) = true → 0 = imRK 2 c j d ∧ 0 = imRC 2 c j d ∧ 1 = imE 2 c j d ∧ True) ∧ ((bI (vl 2 c) 0 1 != 0) = false → ((bI (vl j d) 0 1 != 0) = true → 0 = imRK 2 c j d ∧ 0 = imRC 2 c j d
 ∧ 1 = imE 2 c j d ∧ True) ∧ ((bI (vl j d) 0 1 != 0) = false → (sm c ∧ sm d ∧ 1 ≤ j ∧ j ≤ 4) ∧ ((bI (vl (imK 2 c j d) (imC 2 c j d)) 0 1 != 0) = true → 0 = imRK 2 c j d ∧ 0 = imRC 2 c j d ∧ 3 = imE 2 c
 j d ∧ True) ∧ ((bI (vl (imK 2 c j d) (imC 2 c j d)) 0 1 != 0) = false → imK 2 c j d = imRK 2 c j d ∧ imC 2 c j d = imRC 2 c j d ∧ 0 = imE 2 c j d ∧ True)))) := by kernel_rfl

theorem ob_o21k3 (c j d : Int) : fnP (TB') G 10000 fe21 (.r [] 0 (.rs 4 [] 3 10 (.r [] 3 (.lit (.r [] 1 .nil))) (.r [] 15 (.cnd (.r [] 1 .nil) (.r [] 767 (.r [] 3 (.cnd (.r [] 1 .nil) (.r [] 3 .nil)))))))) ([lnV 3 c, lnV j d]) ([lnV (imRK 3 c j d) (imRC 3 c j d), .int .i64 (imE 3 c j d)]) ([]) = (
 ((bI (vl 3 c) 0 1 != 0) = true → 0 = imRK 3 c j d ∧ 0 = imRC 3 c j d ∧ 1 = imE 3 c j d ∧ True) ∧ ((bI (vl 3 c) 0 1 != 0) = false → ((bI (vl j d) 0 1 != 0) = true → 0 = imRK 3 c j d ∧ 0 = imRC 3 c j d
 ∧ 1 = imE 3 c j d ∧ True) ∧ ((bI (vl j d) 0 1 != 0) = false → (sm c ∧ sm d ∧ 1 ≤ j ∧ j ≤ 4) ∧ ((bI (vl (imK 3 c j d) (imC 3 c j d)) 0 1 != 0) = true → 0 = imRK 3 c j d ∧ 0 = imRC 3 c j d ∧ 3 = imE 3 c
 j d ∧ True) ∧ ((bI (vl (imK 3 c j d) (imC 3 c j d)) 0 1 != 0) = false → imK 3 c j d = imRK 3 c j d ∧ imC 3 c j d = imRC 3 c j d ∧ 0 = imE 3 c j d ∧ True)))) := by kernel_rfl

theorem ob_o21k4 (c j d : Int) : fnP (TB') G 10000 fe21 (.r [] 0 (.rs 4 [] 3 10 (.r [] 3 (.lit (.r [] 1 .nil))) (.r [] 15 (.cnd (.r [] 1 .nil) (.r [] 767 (.r [] 3 (.cnd (.r [] 1 .nil) (.r [] 3 .nil)))))))) ([lnV 4 c, lnV j d]) ([lnV (imRK 4 c j d) (imRC 4 c j d), .int .i64 (imE 4 c j d)]) ([]) = (
 ((bI (vl 4 c) 0 1 != 0) = true → 0 = imRK 4 c j d ∧ 0 = imRC 4 c j d ∧ 1 = imE 4 c j d ∧ True) ∧ ((bI (vl 4 c) 0 1 != 0) = false → ((bI (vl j d) 0 1 != 0) = true → 0 = imRK 4 c j d ∧ 0 = imRC 4 c j d
 ∧ 1 = imE 4 c j d ∧ True) ∧ ((bI (vl j d) 0 1 != 0) = false → (sm c ∧ sm d ∧ 1 ≤ j ∧ j ≤ 4) ∧ ((bI (vl (imK 4 c j d) (imC 4 c j d)) 0 1 != 0) = true → 0 = imRK 4 c j d ∧ 0 = imRC 4 c j d ∧ 3 = imE 4 c
 j d ∧ True) ∧ ((bI (vl (imK 4 c j d) (imC 4 c j d)) 0 1 != 0) = false → imK 4 c j d = imRK 4 c j d ∧ imC 4 c j d = imRC 4 c j d ∧ 0 = imE 4 c j d ∧ True)))) := by kernel_rfl

theorem ob_o23a (k c j d : Int) : fnP (TB') G 10000 fe23 (.r [] 0 (.rs 4 [] 3 12 (.r [] 3 (.lit (.r [] 1 .nil))) (.r [] 15 (.cnd (.r [] 1 .nil) (.r [] 3 (.cnd (.r [] 1 .nil) (.r [] 3 (.ff (.r [] 5 (.r [] 3 (.r [] 0 (.cnd (.r [] 1 .nil) (.r [] 0 (.cnd (.r [] 2 .nil) (.r [] 0 (.cnd (.r [] 2 .nil) (.r [] 0 (.cnd (.r [] 2 .nil) (.r [] 0 (.cnd (.r [] 2 .nil) (.r [] 91 .nil))))))))))))))))))))) ([lnV k c, lnV j d]) ([ptV (mtRX k c j d) (mtRY k c j d), .int .i64 (mtE k c j d)]) ([]) = (
 ((bI (vl k c) 0 1 != 0) = true → 0 = mtRX k c j d ∧ 0 = mtRY k c j d ∧ 1 = mtE k c j d ∧ True) ∧ ((bI (vl k c) 0 1 != 0) = false → ((bI (vl j d) 0 1 != 0) = true → 0 = mtRX k c j d ∧ 0 = mtRY k c j d
 ∧ 1 = mtE k c j d ∧ True) ∧ ((bI (vl j d) 0 1 != 0) = false → ((k == j) = true → 0 = mtRX k c j d ∧ 0 = mtRY k c j d ∧ 7 = mtE k c j d ∧ True) ∧ ((k == j) = false → ltb j k = false ∧ inR i64 (2 * c) =
 true ∧ inR i64 (2 * d) = true ∧ ((k == 1 && j == 2) = true → 2 * c = mtRX k c j d ∧ 2 * d = mtRY k c j d ∧ 0 = mtE k c j d ∧ True) ∧ ((k == 1 && j == 2) = false → ((k == 1 && j == 3) = true → inR i64
 (2 * d - 2 * c) = true ∧ 2 * c = mtRX k c j d ∧ 2 * d - 2 * c = mtRY k c j d ∧ 0 = mtE k c j d ∧ True) ∧ ((k == 1 && j == 3) = false → ((k == 1 && j == 4) = true → inR i64 (2 * d + 2 * c) = true ∧ 2 *
 c = mtRX k c j d ∧ 2 * d + 2 * c = mtRY k c j d ∧ 0 = mtE k c j d ∧ True) ∧ ((k == 1 && j == 4) = false → ((k == 2 && j == 3) = true → inR i64 (2 * d - 2 * c) = true ∧ 2 * d - 2 * c = mtRX k c j d ∧ 2
 * c = mtRY k c j d ∧ 0 = mtE k c j d ∧ True) ∧ ((k == 2 && j == 3) = false → ((k == 2 && j == 4) = true → inR i64 (2 * c - 2 * d) = true ∧ 2 * c - 2 * d = mtRX k c j d ∧ 2 * c = mtRY k c j d ∧ 0 = mtE
 k c j d ∧ True) ∧ ((k == 2 && j == 4) = false → inR i64 (c - d) = true ∧ inR i64 (c + d) = true ∧ c - d = mtRX k c j d ∧ c + d = mtRY k c j d ∧ 0 = mtE k c j d ∧ True))))))))) := by kernel_rfl

theorem ob_o23 (k c j d : Int) : fnP (TC') G 10000 fe23 (.r [] 0 (.rs 4 [] 3 12 (.r [] 3 (.lit (.r [] 1 .nil))) (.r [] 15 (.cnd (.r [] 1 .nil) (.r [] 3 (.cnd (.r [] 1 .nil) (.r [] 3 (.tt (.r [] 59 .nil))))))))) ([lnV k c, lnV j d]) ([ptV (mtRX k c j d) (mtRY k c j d), .int .i64 (mtE k c j d)]) ([]) = (
 ((bI (vl k c) 0 1 != 0) = true → 0 = mtRX k c j d ∧ 0 = mtRY k c j d ∧ 1 = mtE k c j d ∧ True) ∧ ((bI (vl k c) 0 1 != 0) = false → ((bI (vl j d) 0 1 != 0) = true → 0 = mtRX k c j d ∧ 0 = mtRY k c j d
 ∧ 1 = mtE k c j d ∧ True) ∧ ((bI (vl j d) 0 1 != 0) = false → ((k == j) = true → 0 = mtRX k c j d ∧ 0 = mtRY k c j d ∧ 7 = mtE k c j d ∧ True) ∧ ((k == j) = false → ltb j k = true ∧ j ≤ k ∧ mtRX j d k
 c = mtRX k c j d ∧ mtRY j d k c = mtRY k c j d ∧ mtE j d k c = mtE k c j d ∧ True)))) := by kernel_rfl

theorem ob_o24 (k x y : Int) : fnP (TB') G 10000 fe24 (.r [] 0 (.rs 3 [] 0 10 (.r [] 15 (.lit (.r [] 1 .nil))) (.rs 4 [] 3 14 (.r [] 3 (.lit (.r [] 1 .nil))) (.r [] 15 (.cnd (.r [] 1 .nil) (.r [] 1 (.r [] 6 (.r [] 1 (.cnd (.r [] 1 .nil) (.r [] 3 (.cnd (.r [] 1 .nil) (.r [] 3 .nil)))))))))))) ([.int .u8 k, ptV x y]) ([lnV (thK k x y) (thC k x y), .int .i64 (thE k x y)]) ([]) = (
 (ltb k 1 = true → 0 = thK k x y ∧ 0 = thC k x y ∧ 1 = thE k x y ∧ True) ∧ (ltb k 1 = false → (ltb 4 k = true → 0 = thK k x y ∧ 0 = thC k x y ∧ 1 = thE k x y ∧ True) ∧ (ltb 4 k = false → ((bI (ins x y)
 0 1 != 0) = true → 0 = thK k x y ∧ 0 = thC k x y ∧ 1 = thE k x y ∧ True) ∧ ((bI (ins x y) 0 1 != 0) = false → (sm x ∧ sm y) ∧ inR i64 (Int.tdiv (acr k x y) 2) = true ∧ ((Int.tmod (acr k x y) 2 != 0) =
 true → 0 = thK k x y ∧ 0 = thC k x y ∧ 7 = thE k x y ∧ True) ∧ ((Int.tmod (acr k x y) 2 != 0) = false → ((bI (vl k (Int.tdiv (acr k x y) 2)) 0 1 != 0) = true → 0 = thK k x y ∧ 0 = thC k x y ∧ 3 = thE
 k x y ∧ True) ∧ ((bI (vl k (Int.tdiv (acr k x y) 2)) 0 1 != 0) = false → k = thK k x y ∧ Int.tdiv (acr k x y) 2 = thC k x y ∧ 0 = thE k x y ∧ True)))))) := by kernel_rfl

theorem ob_o6 (k c j d : Int) : fnP (TD) G 10000 fe6 (.r [] 0 (.r [] 63 (.rs 4 [] 3 19 (.r [] 3 (.lit (.r [yL 259, yL 264] 238 .nil))) (.r [] 15 (.cnd (.r [yL 259, yL 264] 238 .nil) (.r [] 3 (.cnd (.r [yL 387, yL 392] 238 .nil) (.r [] 63 (.r [yL 515, yL 519, yL 524, yL 530, yL 536, yL 545] 2003678966 .nil))))))))) ([lnV k c, lnV j d]) ([.bool true]) ([]) = (
 ((bI (vl k c) 1 0 == 0) = true → (mtE k c j d == 1) = true ∧ (mtRX k c j d == 0 && mtRY k c j d == 0) = true ∧ true = true ∧ True) ∧ ((bI (vl k c) 1 0 == 0) = false → ((bI (vl j d) 1 0 == 0) = true →
 (mtE k c j d == 1) = true ∧ (mtRX k c j d == 0 && mtRY k c j d == 0) = true ∧ true = true ∧ True) ∧ ((bI (vl j d) 1 0 == 0) = false → ((k == j) = true → (mtE k c j d == 7) = true ∧ (mtRX k c j d == 0
 && mtRY k c j d == 0) = true ∧ true = true ∧ True) ∧ ((k == j) = false → (mtE k c j d == 0) = true ∧ (mtE j d k c == 0) = true ∧ (mtRX k c j d == mtRX j d k c && mtRY k c j d == mtRY j d k c) = true ∧
 (vl k c = true ∧ sm (mtRX k c j d) ∧ sm (mtRY k c j d)) ∧ (acr k (mtRX k c j d) (mtRY k c j d) - 2 * c == 0) = true ∧ (vl j d = true ∧ sm (mtRX k c j d) ∧ sm (mtRY k c j d)) ∧ (acr j (mtRX k c j d)
 (mtRY k c j d) - 2 * d == 0) = true ∧ inR i64 (mtRX k c j d + mtRY k c j d) = true ∧ (Int.tmod (mtRX k c j d + mtRY k c j d) 2 == 0) = true ∧ true = true ∧ True)))) := by kernel_rfl

theorem ob_o7 (k x y : Int) : fnP (TD) G 10000 fe7 (.r [] 0 (.r [] 31 (.rs 3 [] 0 24 (.r [] 15 (.lit (.r [yL 259, yL 264] 238 .nil))) (.rs 4 [] 3 28 (.r [] 3 (.lit (.r [yL 259, yL 264] 238 .nil))) (.r [] 15 (.cnd (.r [yL 259, yL 264] 238 .nil) (.r [] 7 (.r [] 5 (.r [] 0 (.jn (jI 10 i64 (bI (decide (acr k x y < -8192) || decide (8192 < acr k x y)) 3 0)) [] [] (.rs 3 [] 0 59 (.r [] 3 (.lit (.r [] 0 .nil))) (.r [] 3 (.cnd (.r [] 0 .nil) .nil))) (fun b => (.jn (jI 10 i64 (wantE k x y)) [9] [] (.r [] 1 (.cnd (.r [] 0 .nil) .nil)) (fun b_1 => (.jn (jN) [6] [] (.rs 4 [] 0 69 (.r [] 3 (.lit (.r [] 0 .nil))) (.rs 3 [] 0 72 (.r [] 31 (.ff .nil)) (.r [] 15 (.lit .nil)))) (fun b_2 => (.r [] 0 (.r [] 0 (.lp (l7 x y) [] [] (fun b_3 => (.r [] 0 (.cnd (.r [] 31 (.r [] 0 (.cnd (.r [] 0 (.r [] 0 .nil)) (.r [] 0 .nil)))) (.r [] 0 (.jn (jI 15 i64 (thrN x y)) [] [] (.rs 5 [] 3 96 (.r [] 15 (.cnd (.r [] 0 .nil) (.rs 5 [] 3 106 (.r [] 15 (.cnd (.r [] 0 .nil) .nil)) (.r [] 3 (.lit .nil))))) (.r [] 3 (.lit (.rs 5 [] 3 106 (.r [] 15 (.cnd (.r [] 0 .nil) .nil)) (.r [] 3 (.lit .nil)))))) (fun b_4 => (.rs 7 [yL 1668] 0 118 (.r [] 127 .nil) (.rs 5 [] 3 123 (.r [yL 1684] 1919 .nil) (.r [] 255 .nil))))))))))))))))))))))))))) ([.int .u8 k, ptV x y]) ([.bool true]) ([]) = (
 (ltb k 1 = true → (thE k x y == 1) = true ∧ (thK k x y == 0 && thC k x y == 0) = true ∧ true = true ∧ True) ∧ (ltb k 1 = false → (ltb 4 k = true → (thE k x y == 1) = true ∧ (thK k x y == 0 && thC k x
 y == 0) = true ∧ true = true ∧ True) ∧ (ltb 4 k = false → ((bI (ins x y) 1 0 == 0) = true → (thE k x y == 1) = true ∧ (thK k x y == 0 && thC k x y == 0) = true ∧ true = true ∧ True) ∧ ((bI (ins x y) 1
 0 == 0) = false → inR i64 (crA k * x) = true ∧ inR i64 (crB k * y) = true ∧ inR i64 (crA k * x + crB k * y) = true ∧ ((ltb (crA k * x + crB k * y) (-8192) = true → 1 = 1 ∧ x = x ∧ y = y ∧ 1 = 1 ∧ thK
 k x y = thK k x y ∧ thC k x y = thC k x y ∧ k = k ∧ 0 = 0 ∧ 0 = 0 ∧ thE k x y = thE k x y ∧ crA k * x + crB k * y = crA k * x + crB k * y ∧ iI 3 = 3 ∧ 3 = bI (decide (acr k x y < -8192) || decide
 (8192 < acr k x y)) 3 0 ∧ True) ∧ (ltb (crA k * x + crB k * y) (-8192) = false → (ltb 8192 (crA k * x + crB k * y) = true → 1 = 1 ∧ x = x ∧ y = y ∧ 1 = 1 ∧ thK k x y = thK k x y ∧ thC k x y = thC k x
 y ∧ k = k ∧ 0 = 0 ∧ 0 = 0 ∧ thE k x y = thE k x y ∧ crA k * x + crB k * y = crA k * x + crB k * y ∧ iI 3 = 3 ∧ 3 = bI (decide (acr k x y < -8192) || decide (8192 < acr k x y)) 3 0 ∧ True) ∧ (ltb 8192
 (crA k * x + crB k * y) = false → 1 = 1 ∧ x = x ∧ y = y ∧ 1 = 1 ∧ thK k x y = thK k x y ∧ thC k x y = thC k x y ∧ k = k ∧ 0 = 0 ∧ 0 = 0 ∧ thE k x y = thE k x y ∧ crA k * x + crB k * y = crA k * x +
 crB k * y ∧ iI 0 = 0 ∧ 0 = bI (decide (acr k x y < -8192) || decide (8192 < acr k x y)) 3 0 ∧ True))) ∧ ∀ (b : VI), b.v = bI (decide (acr k x y < -8192) || decide (8192 < acr k x y)) 3 0 → (((Int.tmod
 (crA k * x + crB k * y) 2 != 0) = true → 1 = 1 ∧ x = x ∧ y = y ∧ 1 = 1 ∧ thK k x y = thK k x y ∧ thC k x y = thC k x y ∧ k = k ∧ 0 = 0 ∧ 0 = 0 ∧ thE k x y = thE k x y ∧ iI 7 = 7 ∧ 7 = wantE k x y ∧
 True) ∧ ((Int.tmod (crA k * x + crB k * y) 2 != 0) = false → 1 = 1 ∧ x = x ∧ y = y ∧ 1 = 1 ∧ thK k x y = thK k x y ∧ thC k x y = thC k x y ∧ k = k ∧ 0 = 0 ∧ 0 = 0 ∧ thE k x y = thE k x y ∧ b.v = b.v ∧
 b.v = wantE k x y ∧ True)) ∧ ∀ (b_1 : VI), b_1.v = wantE k x y → (((thE k x y != b_1.v) = true → false = true ∧ True) ∧ ((thE k x y != b_1.v) = false → ((b_1.v != 0) = true → (!(thK k x y == 0 && thC
 k x y == 0)) = false ∧ 1 = 1 ∧ x = x ∧ y = y ∧ 1 = 1 ∧ thK k x y = thK k x y ∧ thC k x y = thC k x y ∧ k = k ∧ 0 = 0 ∧ 0 = 0 ∧ b_1.v = b_1.v ∧ True ∧ True) ∧ ((b_1.v != 0) = false → 1 = 1 ∧ x = x ∧ y
 = y ∧ 1 = 1 ∧ thK k x y = thK k x y ∧ thC k x y = thC k x y ∧ k = k ∧ 0 = 0 ∧ 0 = 0 ∧ b_1.v = b_1.v ∧ True ∧ True))) ∧ ∀ (b_2 : Unit), True → 1 = 1 ∧ x = x ∧ y = y ∧ 1 = 1 ∧ thK k x y = thK k x y ∧
 thC k x y = thC k x y ∧ k = k ∧ 0 = 0 ∧ 0 = 0 ∧ b_1.v = b_1.v ∧ iI 0 = 0 ∧ iI 1 = 1 ∧ (∃ (n : Nat), 1 = (↑n : Int) ∧ 1 ≤ n ∧ n ≤ 5 ∧ iI 0 ≤ iI 0 ∧ 0 ≤ (↑n : Int) ∧ 0 = manyF x y n) ∧ ∀ (b_3 : L7), (∃
 (n : Nat), b_3.k = (↑n : Int) ∧ 1 ≤ n ∧ n ≤ 5 ∧ 0 ≤ b_3.m ∧ b_3.m ≤ (↑n : Int) ∧ b_3.m = manyF x y n) → (leb b_3.k 4 = true → ((thE b_3.k x y != 7) = true → inR i64 (b_3.m + 1) = true ∧ inR u8 (b_3.k
 + 1) = true ∧ 1 = 1 ∧ x = x ∧ y = y ∧ 1 = 1 ∧ thK k x y = thK k x y ∧ thC k x y = thC k x y ∧ k = k ∧ 0 = 0 ∧ 0 = 0 ∧ b_1.v = b_1.v ∧ b_3.m + 1 = b_3.m + 1 ∧ b_3.k + 1 = b_3.k + 1 ∧ (∃ (n : Nat),
 b_3.k + 1 = (↑n : Int) ∧ 1 ≤ n ∧ n ≤ 5 ∧ 0 ≤ b_3.m + 1 ∧ b_3.m + 1 ≤ (↑n : Int) ∧ b_3.m + 1 = manyF x y n) ∧ 5 - Int.toNat (b_3.k + 1) < 5 - Int.toNat b_3.k ∧ True) ∧ ((thE b_3.k x y != 7) = false →
 inR u8 (b_3.k + 1) = true ∧ 1 = 1 ∧ x = x ∧ y = y ∧ 1 = 1 ∧ thK k x y = thK k x y ∧ thC k x y = thC k x y ∧ k = k ∧ 0 = 0 ∧ 0 = 0 ∧ b_1.v = b_1.v ∧ b_3.m = b_3.m ∧ b_3.k + 1 = b_3.k + 1 ∧ (∃ (n :
 Nat), b_3.k + 1 = (↑n : Int) ∧ 1 ≤ n ∧ n ≤ 5 ∧ 0 ≤ b_3.m ∧ b_3.m ≤ (↑n : Int) ∧ b_3.m = manyF x y n) ∧ 5 - Int.toNat (b_3.k + 1) < 5 - Int.toNat b_3.k ∧ True)) ∧ (leb b_3.k 4 = false → (((Int.tmod x 2
 == 0) = true → ((Int.tmod y 2 == 0) = true → 1 = 1 ∧ x = x ∧ y = y ∧ 1 = 1 ∧ thK k x y = thK k x y ∧ thC k x y = thC k x y ∧ k = k ∧ 0 = 0 ∧ 0 = 0 ∧ b_1.v = b_1.v ∧ b_3.m = b_3.m ∧ leb b_3.k 4 = leb
 b_3.k 4 ∧ iI 4 = 4 ∧ 4 = thrN x y ∧ True) ∧ ((Int.tmod y 2 == 0) = false → ((Int.tmod x 2 != 0) = true → ((Int.tmod y 2 != 0) = true → 1 = 1 ∧ x = x ∧ y = y ∧ 1 = 1 ∧ thK k x y = thK k x y ∧ thC k x y
 = thC k x y ∧ k = k ∧ 0 = 0 ∧ 0 = 0 ∧ b_1.v = b_1.v ∧ b_3.m = b_3.m ∧ leb b_3.k 4 = leb b_3.k 4 ∧ iI 2 = 2 ∧ 2 = thrN x y ∧ True) ∧ ((Int.tmod y 2 != 0) = false → 1 = 1 ∧ x = x ∧ y = y ∧ 1 = 1 ∧ thK k
 x y = thK k x y ∧ thC k x y = thC k x y ∧ k = k ∧ 0 = 0 ∧ 0 = 0 ∧ b_1.v = b_1.v ∧ b_3.m = b_3.m ∧ leb b_3.k 4 = leb b_3.k 4 ∧ iI 1 = 1 ∧ 1 = thrN x y ∧ True)) ∧ ((Int.tmod x 2 != 0) = false → 1 = 1 ∧
 x = x ∧ y = y ∧ 1 = 1 ∧ thK k x y = thK k x y ∧ thC k x y = thC k x y ∧ k = k ∧ 0 = 0 ∧ 0 = 0 ∧ b_1.v = b_1.v ∧ b_3.m = b_3.m ∧ leb b_3.k 4 = leb b_3.k 4 ∧ iI 1 = 1 ∧ 1 = thrN x y ∧ True))) ∧
 ((Int.tmod x 2 == 0) = false → ((Int.tmod x 2 != 0) = true → ((Int.tmod y 2 != 0) = true → 1 = 1 ∧ x = x ∧ y = y ∧ 1 = 1 ∧ thK k x y = thK k x y ∧ thC k x y = thC k x y ∧ k = k ∧ 0 = 0 ∧ 0 = 0 ∧ b_1.v
 = b_1.v ∧ b_3.m = b_3.m ∧ leb b_3.k 4 = leb b_3.k 4 ∧ iI 2 = 2 ∧ 2 = thrN x y ∧ True) ∧ ((Int.tmod y 2 != 0) = false → 1 = 1 ∧ x = x ∧ y = y ∧ 1 = 1 ∧ thK k x y = thK k x y ∧ thC k x y = thC k x y ∧ k
 = k ∧ 0 = 0 ∧ 0 = 0 ∧ b_1.v = b_1.v ∧ b_3.m = b_3.m ∧ leb b_3.k 4 = leb b_3.k 4 ∧ iI 1 = 1 ∧ 1 = thrN x y ∧ True)) ∧ ((Int.tmod x 2 != 0) = false → 1 = 1 ∧ x = x ∧ y = y ∧ 1 = 1 ∧ thK k x y = thK k x
 y ∧ thC k x y = thC k x y ∧ k = k ∧ 0 = 0 ∧ 0 = 0 ∧ b_1.v = b_1.v ∧ b_3.m = b_3.m ∧ leb b_3.k 4 = leb b_3.k 4 ∧ iI 1 = 1 ∧ 1 = thrN x y ∧ True))) ∧ ∀ (b_4 : VI), b_4.v = thrN x y → (b_3.m == b_4.v) =
 true ∧ ((b_1.v != 0) = true → true = true ∧ True) ∧ ((b_1.v != 0) = false → (vl (thK k x y) (thC k x y) = true ∧ sm x ∧ sm y) ∧ ((acr (thK k x y) x y - 2 * thC k x y == 0) = true → (thK k x y == k) =
 true ∧ true = true ∧ True) ∧ ((acr (thK k x y) x y - 2 * thC k x y == 0) = false → false = true ∧ True))))))) := by kernel_rfl

end Go.Proofs.YtpkmnabefnhcfaaDoor.X
