/-
  What is to be shown of the functions (made by a program).
-/
import Derived.Test.YtpkmnabefnhcfaaDoorKD2Z
import Derived.KernelRfl
set_option maxRecDepth 1000000
set_option linter.unusedVariables false
namespace Go.Proofs.YtpkmnabefnhcfaaDoor.X
open Go Go.Ab

theorem ob_o10  : fnP (TZ) G 10000 fe10 (.r [] 0 (.r [] 0 (.r [] 0 (.lp (l10) [] [] (fun b => (.r [] 0 (.cnd (.r [(392, .auto, Dr.wrap)] 3410 (.r [] 105 (.r [] 219008456669 (.lit (.r [] 16 (.r [] 0 .nil)))))) (.r [] 0 (.r [] 0 (.un (.r [] 1 (.lit (.r [] 511 (.lit (.r [] 1 (.un (.r [] 1 (.lit (.r [] 511 (.lit (.r [] 1 (.un (.r [] 1 (.lit (.r [] 511 (.lit (.r [] 1 (.un (.r [] 1 (.lit (.r [] 511 (.lit (.r [] 1 (.un (.r [] 1 (.lit (.r [] 511 (.lit (.r [] 1 (.un (.r [] 1 (.lit (.r [] 511 (.lit (.r [] 1 (.un (.r [] 1 (.lit (.r [] 511 (.lit (.r [] 1 (.un (.r [] 1 (.lit (.r [] 511 (.lit (.r [] 1 (.un (.r [] 1 (.lit (.r [] 511 (.lit (.r [] 1 (.un (.r [] 1 (.lit (.r [] 511 (.lit (.r [] 1 (.un (.r [] 1 (.lit (.r [] 511 (.lit (.r [] 1 (.un (.r [] 1 (.lit (.r [] 511 (.lit (.r [] 1 (.un (.r [] 1 (.lit (.r [] 511 (.lit (.r [] 1 (.un (.r [] 1 (.lit (.r [] 511 (.lit (.r [] 1 (.un (.r [] 1 (.lit (.r [] 511 (.lit (.r [] 1 (.un (.r [] 1 (.lit (.r [] 511 (.lit (.r [] 1 (.un (.r [] 1 (.lit (.r [] 1 .nil))))))))))))))))))))))))))))))))))))))))))))))))))))))))))))))))))))))))))))))))))))))))))))))))))))))))))))) ([]) ([.bool true]) ([]) = (
iI 1 = 1 ∧ iI 0 = 0 ∧ (∃ (m : Nat), 0 = (↑m : Int) ∧ m ≤ 60 ∧ iI 0 ≤ iI 1 ∧ iI 1 ≤ iI 100003) ∧ ∀ (b : L10), (∃ (m : Nat), b.n = (↑m : Int) ∧ m ≤ 60 ∧ 0 ≤ b.k ∧ b.k ≤ 100003) → (ltb b.n 60 = true →
inR IntKind.u8 b.n = true ∧ inR IntKind.i8 (Int.tmod b.k 100) = true ∧ inR IntKind.i64 (Int.tdiv b.k 7) = true ∧ inR IntKind.i64 (Int.tdiv b.k 3) = true ∧ inR IntKind.i64 (0 - Int.tdiv b.k 3) = true ∧
inR IntKind.i8 (Int.tmod (0 - Int.tdiv b.k 3) 100) = true ∧ inR IntKind.i64 (Int.tmod b.k 9000 - 4000) = true ∧ inR IntKind.i64 (Int.tdiv b.k 11) = true ∧ inR IntKind.i64 (Int.tdiv b.k 11 - 3000) =
true ∧ (0 ≤ b.n ∧ b.n ≤ 255 ∧ -128 ≤ Int.tmod b.k 100 ∧ Int.tmod b.k 100 ≤ 127) ∧ (0 ≤ b.n ∧ b.n ≤ 255 ∧ -128 ≤ Int.tmod b.k 100 ∧ Int.tmod b.k 100 ≤ 127) ∧ (0 ≤ b.n ∧ b.n ≤ 255 ∧ -128 ≤ Int.tmod b.k
100 ∧ Int.tmod b.k 100 ≤ 127) ∧ (0 ≤ IntKind.wrap IntKind.u8 (Int.tdiv b.k 7) ∧ IntKind.wrap IntKind.u8 (Int.tdiv b.k 7) ≤ 255 ∧ -128 ≤ Int.tmod (0 - Int.tdiv b.k 3) 100 ∧ Int.tmod (0 - Int.tdiv b.k
3) 100 ≤ 127) ∧ (0 ≤ b.n ∧ b.n ≤ 255 ∧ -128 ≤ Int.tmod b.k 100 ∧ Int.tmod b.k 100 ≤ 127) ∧ (0 ≤ IntKind.wrap IntKind.u8 (Int.tdiv b.k 7) ∧ IntKind.wrap IntKind.u8 (Int.tdiv b.k 7) ≤ 255 ∧ -128 ≤
Int.tmod (0 - Int.tdiv b.k 3) 100 ∧ Int.tmod (0 - Int.tdiv b.k 3) 100 ≤ 127) ∧ inR IntKind.u8 (Int.tmod b.n 6) = true ∧ inR IntKind.i8 b.n = true ∧ inR IntKind.i8 (Int.tmod b.k 50) = true ∧ ((0 ≤ b.n
∧ b.n ≤ 255 ∧ -128 ≤ Int.tmod b.k 100 ∧ Int.tmod b.k 100 ≤ 127) ∧ (0 ≤ IntKind.wrap IntKind.u8 (Int.tdiv b.k 7) ∧ IntKind.wrap IntKind.u8 (Int.tdiv b.k 7) ≤ 255 ∧ -128 ≤ Int.tmod (0 - Int.tdiv b.k 3)
100 ∧ Int.tmod (0 - Int.tdiv b.k 3) 100 ≤ 127) ∧ -128 ≤ b.n ∧ b.n ≤ 127 ∧ -128 ≤ Int.tmod b.k 50 ∧ Int.tmod b.k 50 ≤ 127) ∧ inR IntKind.i64 (b.k * 31) = true ∧ inR IntKind.i64 (7 * b.n) = true ∧ inR
IntKind.i64 (b.k * 31 + 7 * b.n) = true ∧ inR IntKind.i64 (b.k * 31 + 7 * b.n + 11) = true ∧ inR IntKind.i64 (b.n + 1) = true ∧ Int.tmod (b.k * 31 + 7 * b.n + 11) 100003 = Int.tmod (b.k * 31 + 7 * b.n
+ 11) 100003 ∧ b.n + 1 = b.n + 1 ∧ (∃ (m : Nat), b.n + 1 = (↑m : Int) ∧ m ≤ 60 ∧ 0 ≤ Int.tmod (b.k * 31 + 7 * b.n + 11) 100003 ∧ Int.tmod (b.k * 31 + 7 * b.n + 11) 100003 ≤ 100003) ∧ 60 - Int.toNat
(b.n + 1) < 60 - Int.toNat b.n ∧ True) ∧ (ltb b.n 60 = false → (iI 0 ≤ iI 0 ∧ iI 0 ≤ iI 255) ∧ (iI 0 ≤ iI 1 ∧ iI 1 ≤ iI 255) ∧ (iI 0 ≤ iI 2 ∧ iI 2 ≤ iI 255) ∧ (iI 0 ≤ iI 3 ∧ iI 3 ≤ iI 255) ∧ (iI 0 ≤
iI 4 ∧ iI 4 ≤ iI 255) ∧ (iI 0 ≤ iI 5 ∧ iI 5 ≤ iI 255) ∧ (iI 0 ≤ iI 0 ∧ iI 0 ≤ iI 255) ∧ (iI 0 ≤ iI 1 ∧ iI 1 ≤ iI 255) ∧ (iI 0 ≤ iI 2 ∧ iI 2 ≤ iI 255) ∧ (iI 0 ≤ iI 3 ∧ iI 3 ≤ iI 255) ∧ (iI 0 ≤ iI 4 ∧
iI 4 ≤ iI 255) ∧ (iI 0 ≤ iI 5 ∧ iI 5 ≤ iI 255) ∧ (iI 0 ≤ iI 0 ∧ iI 0 ≤ iI 255) ∧ (iI 0 ≤ iI 1 ∧ iI 1 ≤ iI 255) ∧ (iI 0 ≤ iI 2 ∧ iI 2 ≤ iI 255) ∧ (iI 0 ≤ iI 3 ∧ iI 3 ≤ iI 255) ∧ true = true ∧ True)) := by kernel_rfl

end Go.Proofs.YtpkmnabefnhcfaaDoor.X
