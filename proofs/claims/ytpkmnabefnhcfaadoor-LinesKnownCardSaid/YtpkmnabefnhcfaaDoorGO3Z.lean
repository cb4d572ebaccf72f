/-
  What is to be shown of the functions (made by a program).
-/
import Derived.Test.YtpkmnabefnhcfaaDoorGDZ
import Derived.KernelRfl
set_option maxRecDepth 1000000
set_option linter.unusedVariables false
namespace Go.Proofs.YtpkmnabefnhcfaaDoor.X
open Go Go.Ab
open List IntKind

theorem ob_o5 (k c j d : Int) : fnP (TD) G 10000 fe5 (.r [] 0 (.r [] 63 (.rs 4 [] 3 26 (.r [] 3 (.lit (.r [yL 259, yL 264] 238 .nil))) (.r [] 15 (.cnd (.r [yL 259, yL 264] 238 .nil) (.r [] 61 (.r [] 219 (.r [] 0 (.r [] 0 (.lp (l5 (rfX k c (onX j d) (onY j d)) (rfY k c (onX j d) (onY j d)) (rfX k c (onX j d - 2 * crB j) (onY j d + 2 * crA j))
  (rfY k c (onX j d - 2 * crB j) (onY j d + 2 * crA j))) [] [] (fun b => (.r [] 0 (.cnd (.r [] 7 (.r [] 165 (.cnd (.r [] 197 (.r [] 0 .nil)) (.r [] 0 .nil)))) (.r [] 3 (.cnd (.r [yL 963, yL 968] 238 .nil) (.r [] 63 (.r [yL 1091, yL 1096, yL 1100, yL 1105] 122590 .nil))))))))))))))))) ([lnV k c, lnV j d]) ([.bool true]) ([]) = (
 ((bI (vl k c) 1 0 == 0) = true → (imE k c j d == 1) = true ∧ (imRK k c j d == 0 && imRC k c j d == 0) = true ∧ true = true ∧ True) ∧ ((bI (vl k c) 1 0 == 0) = false → ((bI (vl j d) 1 0 == 0) = true →
 (imE k c j d == 1) = true ∧ (imRK k c j d == 0 && imRC k c j d == 0) = true ∧ true = true ∧ True) ∧ ((bI (vl j d) 1 0 == 0) = false → vl j d = true ∧ (vl k c = true ∧ sm (onX j d) ∧ sm (onY j d)) ∧
 (vl k c = true ∧ sm (onX j d - 2 * crB j) ∧ sm (onY j d + 2 * crA j)) ∧ 1 = 1 ∧ k = k ∧ c = c ∧ 1 = 1 ∧ j = j ∧ d = d ∧ 1 = 1 ∧ imRK k c j d = imRK k c j d ∧ imRC k c j d = imRC k c j d ∧ 1 = 1 ∧ onX
 j d = onX j d ∧ onY j d = onY j d ∧ 1 = 1 ∧ onX j d - 2 * crB j = onX j d - 2 * crB j ∧ onY j d + 2 * crA j = onY j d + 2 * crA j ∧ 1 = 1 ∧ rfX k c (onX j d) (onY j d) = rfX k c (onX j d) (onY j d) ∧
 rfY k c (onX j d) (onY j d) = rfY k c (onX j d) (onY j d) ∧ 1 = 1 ∧ rfX k c (onX j d - 2 * crB j) (onY j d + 2 * crA j) = rfX k c (onX j d - 2 * crB j) (onY j d + 2 * crA j) ∧ rfY k c (onX j d - 2 *
 crB j) (onY j d + 2 * crA j) = rfY k c (onX j d - 2 * crB j) (onY j d + 2 * crA j) ∧ 1 = 1 ∧ iI 0 = 0 ∧ iI 0 = 0 ∧ 0 = 0 ∧ 0 = 0 ∧ 0 = 0 ∧ imE k c j d = imE k c j d ∧ 0 = 0 ∧ 0 = 0 ∧ 0 = 0 ∧ iI 1 = 1
 ∧ (∃ (n : Nat), 1 = (↑n : Int) ∧ 1 ≤ n ∧ n ≤ 5 ∧ (0, 0) = wfold (rfX k c (onX j d) (onY j d)) (rfY k c (onX j d) (onY j d)) (rfX k c (onX j d - 2 * crB j) (onY j d + 2 * crA j)) (rfY k c (onX j d - 2
 * crB j) (onY j d + 2 * crA j)) n) ∧ ∀ (b : L5), (∃ (n : Nat), b.k = (↑n : Int) ∧ 1 ≤ n ∧ n ≤ 5 ∧ (b.wk, b.wc) = wfold (rfX k c (onX j d) (onY j d)) (rfY k c (onX j d) (onY j d)) (rfX k c (onX j d - 2
 * crB j) (onY j d + 2 * crA j)) (rfY k c (onX j d - 2 * crB j) (onY j d + 2 * crA j)) n) → (leb b.k 4 = true → inR i64 (crA b.k * rfX k c (onX j d) (onY j d)) = true ∧ inR i64 (crB b.k * rfY k c (onX
 j d) (onY j d)) = true ∧ inR i64 (crA b.k * rfX k c (onX j d) (onY j d) + crB b.k * rfY k c (onX j d) (onY j d)) = true ∧ inR i64 (crA b.k * rfX k c (onX j d - 2 * crB j) (onY j d + 2 * crA j)) = true
 ∧ inR i64 (crB b.k * rfY k c (onX j d - 2 * crB j) (onY j d + 2 * crA j)) = true ∧ inR i64 (crA b.k * rfX k c (onX j d - 2 * crB j) (onY j d + 2 * crA j) + crB b.k * rfY k c (onX j d - 2 * crB j) (onY
 j d + 2 * crA j)) = true ∧ ((crA b.k * rfX k c (onX j d) (onY j d) + crB b.k * rfY k c (onX j d) (onY j d) == crA b.k * rfX k c (onX j d - 2 * crB j) (onY j d + 2 * crA j) + crB b.k * rfY k c (onX j d
 - 2 * crB j) (onY j d + 2 * crA j)) = true → inR i64 (crA b.k * rfX k c (onX j d) (onY j d)) = true ∧ inR i64 (crB b.k * rfY k c (onX j d) (onY j d)) = true ∧ inR i64 (crA b.k * rfX k c (onX j d) (onY
 j d) + crB b.k * rfY k c (onX j d) (onY j d)) = true ∧ inR i64 (Int.tdiv (crA b.k * rfX k c (onX j d) (onY j d) + crB b.k * rfY k c (onX j d) (onY j d)) 2) = true ∧ inR u8 (b.k + 1) = true ∧ 1 = 1 ∧ k
 = k ∧ c = c ∧ 1 = 1 ∧ j = j ∧ d = d ∧ 1 = 1 ∧ imRK k c j d = imRK k c j d ∧ imRC k c j d = imRC k c j d ∧ 1 = 1 ∧ onX j d = onX j d ∧ onY j d = onY j d ∧ 1 = 1 ∧ onX j d - 2 * crB j = onX j d - 2 *
 crB j ∧ onY j d + 2 * crA j = onY j d + 2 * crA j ∧ 1 = 1 ∧ rfX k c (onX j d) (onY j d) = rfX k c (onX j d) (onY j d) ∧ rfY k c (onX j d) (onY j d) = rfY k c (onX j d) (onY j d) ∧ 1 = 1 ∧ rfX k c (onX
 j d - 2 * crB j) (onY j d + 2 * crA j) = rfX k c (onX j d - 2 * crB j) (onY j d + 2 * crA j) ∧ rfY k c (onX j d - 2 * crB j) (onY j d + 2 * crA j) = rfY k c (onX j d - 2 * crB j) (onY j d + 2 * crA j)
 ∧ 1 = 1 ∧ b.k = b.k ∧ Int.tdiv (crA b.k * rfX k c (onX j d) (onY j d) + crB b.k * rfY k c (onX j d) (onY j d)) 2 = Int.tdiv (crA b.k * rfX k c (onX j d) (onY j d) + crB b.k * rfY k c (onX j d) (onY j
 d)) 2 ∧ 0 = 0 ∧ 0 = 0 ∧ 0 = 0 ∧ imE k c j d = imE k c j d ∧ 0 = 0 ∧ 0 = 0 ∧ 0 = 0 ∧ b.k + 1 = b.k + 1 ∧ (∃ (n : Nat), b.k + 1 = (↑n : Int) ∧ 1 ≤ n ∧ n ≤ 5 ∧ (b.k, Int.tdiv (crA b.k * rfX k c (onX j d)
 (onY j d) + crB b.k * rfY k c (onX j d) (onY j d)) 2) = wfold (rfX k c (onX j d) (onY j d)) (rfY k c (onX j d) (onY j d)) (rfX k c (onX j d - 2 * crB j) (onY j d + 2 * crA j)) (rfY k c (onX j d - 2 *
 crB j) (onY j d + 2 * crA j)) n) ∧ 5 - Int.toNat (b.k + 1) < 5 - Int.toNat b.k ∧ True) ∧ ((crA b.k * rfX k c (onX j d) (onY j d) + crB b.k * rfY k c (onX j d) (onY j d) == crA b.k * rfX k c (onX j d -
 2 * crB j) (onY j d + 2 * crA j) + crB b.k * rfY k c (onX j d - 2 * crB j) (onY j d + 2 * crA j)) = false → inR u8 (b.k + 1) = true ∧ 1 = 1 ∧ k = k ∧ c = c ∧ 1 = 1 ∧ j = j ∧ d = d ∧ 1 = 1 ∧ imRK k c j
 d = imRK k c j d ∧ imRC k c j d = imRC k c j d ∧ 1 = 1 ∧ onX j d = onX j d ∧ onY j d = onY j d ∧ 1 = 1 ∧ onX j d - 2 * crB j = onX j d - 2 * crB j ∧ onY j d + 2 * crA j = onY j d + 2 * crA j ∧ 1 = 1 ∧
 rfX k c (onX j d) (onY j d) = rfX k c (onX j d) (onY j d) ∧ rfY k c (onX j d) (onY j d) = rfY k c (onX j d) (onY j d) ∧ 1 = 1 ∧ rfX k c (onX j d - 2 * crB j) (onY j d + 2 * crA j) = rfX k c (onX j d -
 2 * crB j) (onY j d + 2 * crA j) ∧ rfY k c (onX j d - 2 * crB j) (onY j d + 2 * crA j) = rfY k c (onX j d - 2 * crB j) (onY j d + 2 * crA j) ∧ 1 = 1 ∧ b.wk = b.wk ∧ b.wc = b.wc ∧ 0 = 0 ∧ 0 = 0 ∧ 0 = 0
 ∧ imE k c j d = imE k c j d ∧ 0 = 0 ∧ 0 = 0 ∧ 0 = 0 ∧ b.k + 1 = b.k + 1 ∧ (∃ (n : Nat), b.k + 1 = (↑n : Int) ∧ 1 ≤ n ∧ n ≤ 5 ∧ (b.wk, b.wc) = wfold (rfX k c (onX j d) (onY j d)) (rfY k c (onX j d)
 (onY j d)) (rfX k c (onX j d - 2 * crB j) (onY j d + 2 * crA j)) (rfY k c (onX j d - 2 * crB j) (onY j d + 2 * crA j)) n) ∧ 5 - Int.toNat (b.k + 1) < 5 - Int.toNat b.k ∧ True)) ∧ (leb b.k 4 = false →
 ((bI (vl b.wk b.wc) 1 0 == 0) = true → (imE k c j d == 3) = true ∧ (imRK k c j d == 0 && imRC k c j d == 0) = true ∧ true = true ∧ True) ∧ ((bI (vl b.wk b.wc) 1 0 == 0) = false → (imE k c j d == 0) =
 true ∧ (imRK k c j d == b.wk && imRC k c j d == b.wc) = true ∧ (imE k c (imRK k c j d) (imRC k c j d) == 0) = true ∧ (imRK k c (imRK k c j d) (imRC k c j d) == j && imRC k c (imRK k c j d) (imRC k c j
 d) == d) = true ∧ true = true ∧ True))))) := by kernel_rfl

theorem ob_o8 (k c j d x y : Int) : fnP (TD) G 10000 fe8 (.r [] 0 (.r [] 53 (.r [] 3 (.r [] 887 (.r [] 63 (.r [] 63 (.r [] 15 (.r [] 3 (.r [yO 579, yO 580, (581, .auto, Dr.pk true), yO 583, yO 584, yO 585, yO 586, yO 587, yO 588, yO 589, yO 590, yO 591, yO 592, yO 593, yO 594, yO 595, yO 596, yO 597, (598, .auto, Dr.pk true), yO 600, (601, .auto, Dr.pk true)] 48654189140 .nil))))))))) ([.agg [.int .u8 k, .int .i8 c], .agg [.int .u8 j, .int .i8 d], .agg [.int .i8 x, .int .i8 y]]) ([.bool true]) ([]) = (
 (0 ≤ k ∧ k ≤ 255 ∧ -128 ≤ c ∧ c ≤ 127) ∧ (0 ≤ j ∧ j ≤ 255 ∧ -128 ≤ d ∧ d ≤ 127) ∧ inR i64 x = true ∧ inR i64 y = true ∧ inR i64 (d - c) = true ∧ inR i64 (4 * (d - c)) = true ∧ inR i64 (crA (1 +
 Int.tmod k 4) * crA (1 + Int.tmod k 4)) = true ∧ inR i64 (crB (1 + Int.tmod k 4) * crB (1 + Int.tmod k 4)) = true ∧ inR i64 (crA (1 + Int.tmod k 4) * crA (1 + Int.tmod k 4) + crB (1 + Int.tmod k 4) *
 crB (1 + Int.tmod k 4)) = true ∧ inR i64 (Int.tdiv (4 * (d - c)) (crA (1 + Int.tmod k 4) * crA (1 + Int.tmod k 4) + crB (1 + Int.tmod k 4) * crB (1 + Int.tmod k 4))) = true ∧ (!crA (1 + Int.tmod k 4)
 * crA (1 + Int.tmod k 4) + crB (1 + Int.tmod k 4) * crB (1 + Int.tmod k 4) == 0) = true ∧ (rfE (1 + Int.tmod k 4) c x y == 0) = true ∧ (rfE (1 + Int.tmod k 4) c x y == 0) = true ∧ (rfE (1 + Int.tmod k
 4) c x y == 0) = true ∧ (rfE (1 + Int.tmod k 4) d (rfPX (1 + Int.tmod k 4) c x y) (rfPY (1 + Int.tmod k 4) c x y) == 0) = true ∧ (rfE (1 + Int.tmod k 4) d (rfPX (1 + Int.tmod k 4) c x y) (rfPY (1 +
 Int.tmod k 4) c x y) == 0) = true ∧ (rfE (1 + Int.tmod k 4) d (rfPX (1 + Int.tmod k 4) c x y) (rfPY (1 + Int.tmod k 4) c x y) == 0) = true ∧ (rfE (1 + Int.tmod k 4) d (rfPX (1 + Int.tmod k 4) c x y)
 (rfPY (1 + Int.tmod k 4) c x y) == 0) = true ∧ (rfE (1 + Int.tmod k 4) d (rfPX (1 + Int.tmod k 4) c x y) (rfPY (1 + Int.tmod k 4) c x y) == 0) = true ∧ (rfE (1 + Int.tmod k 4) d (rfPX (1 + Int.tmod k
 4) c x y) (rfPY (1 + Int.tmod k 4) c x y) == 0) = true ∧ inR i64 (Int.tdiv (4 * (d - c)) (crA (1 + Int.tmod k 4) * crA (1 + Int.tmod k 4) + crB (1 + Int.tmod k 4) * crB (1 + Int.tmod k 4)) * crA (1 +
 Int.tmod k 4)) = true ∧ (rfE (1 + Int.tmod k 4) d (rfPX (1 + Int.tmod k 4) c x y) (rfPY (1 + Int.tmod k 4) c x y) == 0) = true ∧ inR i64 (x + Int.tdiv (4 * (d - c)) (crA (1 + Int.tmod k 4) * crA (1 +
 Int.tmod k 4) + crB (1 + Int.tmod k 4) * crB (1 + Int.tmod k 4)) * crA (1 + Int.tmod k 4)) = true ∧ (rfE (1 + Int.tmod k 4) d (rfPX (1 + Int.tmod k 4) c x y) (rfPY (1 + Int.tmod k 4) c x y) == 0) =
 true ∧ (rfE (1 + Int.tmod k 4) d (rfPX (1 + Int.tmod k 4) c x y) (rfPY (1 + Int.tmod k 4) c x y) == 0) = true ∧ (rfE (1 + Int.tmod k 4) d (rfPX (1 + Int.tmod k 4) c x y) (rfPY (1 + Int.tmod k 4) c x
 y) == 0) = true ∧ (rfE (1 + Int.tmod k 4) d (rfPX (1 + Int.tmod k 4) c x y) (rfPY (1 + Int.tmod k 4) c x y) == 0) = true ∧ (rfE (1 + Int.tmod k 4) d (rfPX (1 + Int.tmod k 4) c x y) (rfPY (1 + Int.tmod
 k 4) c x y) == 0) = true ∧ inR i64 (Int.tdiv (4 * (d - c)) (crA (1 + Int.tmod k 4) * crA (1 + Int.tmod k 4) + crB (1 + Int.tmod k 4) * crB (1 + Int.tmod k 4)) * crB (1 + Int.tmod k 4)) = true ∧ (rfE
 (1 + Int.tmod k 4) d (rfPX (1 + Int.tmod k 4) c x y) (rfPY (1 + Int.tmod k 4) c x y) == 0) = true ∧ inR i64 (y + Int.tdiv (4 * (d - c)) (crA (1 + Int.tmod k 4) * crA (1 + Int.tmod k 4) + crB (1 +
 Int.tmod k 4) * crB (1 + Int.tmod k 4)) * crB (1 + Int.tmod k 4)) = true ∧ (rfE (1 + Int.tmod k 4) d (rfPX (1 + Int.tmod k 4) c x y) (rfPY (1 + Int.tmod k 4) c x y) == 0) = true ∧ (rfE (1 + Int.tmod k
 4) d (rfPX (1 + Int.tmod k 4) c x y) (rfPY (1 + Int.tmod k 4) c x y) == 0) = true ∧ (rfE (1 + Int.tmod k 4) d (rfPX (1 + Int.tmod k 4) c x y) (rfPY (1 + Int.tmod k 4) c x y) == 0) = true ∧ (rfPX (1 +
 Int.tmod k 4) d (rfPX (1 + Int.tmod k 4) c x y) (rfPY (1 + Int.tmod k 4) c x y) == x + Int.tdiv (4 * (d - c)) (crA (1 + Int.tmod k 4) * crA (1 + Int.tmod k 4) + crB (1 + Int.tmod k 4) * crB (1 +
 Int.tmod k 4)) * crA (1 + Int.tmod k 4) && rfPY (1 + Int.tmod k 4) d (rfPX (1 + Int.tmod k 4) c x y) (rfPY (1 + Int.tmod k 4) c x y) == y + Int.tdiv (4 * (d - c)) (crA (1 + Int.tmod k 4) * crA (1 +
 Int.tmod k 4) + crB (1 + Int.tmod k 4) * crB (1 + Int.tmod k 4)) * crB (1 + Int.tmod k 4)) = true ∧ (rfPX (1 + Int.tmod k 4) d (rfPX (1 + Int.tmod k 4) c x y) (rfPY (1 + Int.tmod k 4) c x y) == x +
 Int.tdiv (4 * (d - c)) (crA (1 + Int.tmod k 4) * crA (1 + Int.tmod k 4) + crB (1 + Int.tmod k 4) * crB (1 + Int.tmod k 4)) * crA (1 + Int.tmod k 4) && rfPY (1 + Int.tmod k 4) d (rfPX (1 + Int.tmod k
 4) c x y) (rfPY (1 + Int.tmod k 4) c x y) == y + Int.tdiv (4 * (d - c)) (crA (1 + Int.tmod k 4) * crA (1 + Int.tmod k 4) + crB (1 + Int.tmod k 4) * crB (1 + Int.tmod k 4)) * crB (1 + Int.tmod k 4)) =
 true ∧ true = true ∧ True) := by kernel_rfl

end Go.Proofs.YtpkmnabefnhcfaaDoor.X
