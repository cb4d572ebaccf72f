/-
  What is to be shown of the functions (made by a program).
-/
import Derived.Test.YtpkmnabefnhcfaaDoorTD1Z
import Derived.KernelRfl
set_option maxRecDepth 1000000
set_option linter.unusedVariables false
namespace Go.Proofs.YtpkmnabefnhcfaaDoor.X
open Go Go.Ab

theorem ob_o33a (n : Int) : fnP (T33 0) G 10000 fe33 (.r [] 0 (.r [] 0 (.ff (.r [] 0 (.tt (.r [] 4 .nil)))))) ([.int .i64 n]) ([.str (decI n)]) ([]) = (
ltb n 0 = false ∧ ltb n 10 = true ∧ inR IntKind.i64 (48 + n) = true ∧ inR IntKind.u8 (48 + n) = true ∧ [(fun (n : Int) => UInt8.ofNat (Int.toNat n)) (48 + n)] = decI n ∧ True) := by kernel_rfl

theorem ob_o33b (n b : Int) : fnP (T33 b) G 10000 fe33 (.r [] 0 (.r [] 0 (.ff (.r [] 0 (.ff (.r [] 74 .nil)))))) ([.int .i64 n]) ([.str (decI n)]) ([]) = (
ltb n 0 = false ∧ ltb n 10 = false ∧ inR IntKind.i64 (Int.tdiv n 10) = true ∧ (0 ≤ Int.tdiv n 10 ∧ Int.tdiv n 10 < b) ∧ inR IntKind.i64 (48 + Int.tmod n 10) = true ∧ inR IntKind.u8 (48 + Int.tmod n
10) = true ∧ len' (List.length (decI (Int.tdiv n 10)) + 1) 9223372036854775807 = true ∧ decI (Int.tdiv n 10) ++ [(fun (n : Int) => UInt8.ofNat (Int.toNat n)) (48 + Int.tmod n 10)] = decI n ∧ True) := by kernel_rfl

theorem ob_o33n (n : Int) : fnP (T33 10000) G 10000 fe33 (.r [] 0 (.r [] 0 (.tt (.r [] 0 .nil)))) ([.int .i64 n]) ([.str (decI n)]) ([]) = (
ltb n 0 = true ∧ inR IntKind.i64 (0 - n) = true ∧ (0 ≤ 0 - n ∧ 0 - n < 10000) ∧ len' (1 + List.length (decI (0 - n))) 9223372036854775807 = true ∧ 45 :: decI (0 - n) = decI n ∧ True) := by kernel_rfl

theorem ob_o60a (n : Int) : fnP (T33 0) G 10000 fe60 (.r [] 0 (.r [] 0 (.tt (.r [] 0 .nil)))) ([.int .i64 n]) ([.str (decI n)]) ([]) = (
ltb n 10 = true ∧ inR IntKind.i64 (n + 1) = true ∧ leb 0 n = true ∧ leb n (n + 1) = true ∧ len' (Int.toNat (n + 1)) 36 = true ∧ List.take (Int.toNat (n + 1) - Int.toNat n) (List.drop (Int.toNat n)
[48, 49, 50, 51, 52, 53, 54, 55, 56, 57, 97, 98, 99, 100, 101, 102, 103, 104, 105, 106, 107, 108, 109, 110, 111, 112, 113, 114, 115, 116, 117, 118, 119, 120, 121, 122]) = decI n ∧ True) := by kernel_rfl

theorem ob_o60b (n : Int) : fnP (T33 0) G 10000 fe60 (.r [] 0 (.r [] 0 (.ff (.r [] 0 .nil)))) ([.int .i64 n]) ([.str (decI n)]) ([]) = (
ltb n 10 = false ∧ inR IntKind.i64 (n * 2) = true ∧ inR IntKind.i64 (n * 2) = true ∧ inR IntKind.i64 (n * 2 + 2) = true ∧ leb 0 (n * 2) = true ∧ leb (n * 2) (n * 2 + 2) = true ∧ len' (Int.toNat (n * 2
+ 2)) 200 = true ∧ List.take (Int.toNat (n * 2 + 2) - Int.toNat (n * 2)) (List.drop (Int.toNat (n * 2)) [48, 48, 48, 49, 48, 50, 48, 51, 48, 52, 48, 53, 48, 54, 48, 55, 48, 56, 48, 57, 49, 48, 49, 49,
49, 50, 49, 51, 49, 52, 49, 53, 49, 54, 49, 55, 49, 56, 49, 57, 50, 48, 50, 49, 50, 50, 50, 51, 50, 52, 50, 53, 50, 54, 50, 55, 50, 56, 50, 57, 51, 48, 51, 49, 51, 50, 51, 51, 51, 52, 51, 53, 51, 54,
51, 55, 51, 56, 51, 57, 52, 48, 52, 49, 52, 50, 52, 51, 52, 52, 52, 53, 52, 54, 52, 55, 52, 56, 52, 57, 53, 48, 53, 49, 53, 50, 53, 51, 53, 52, 53, 53, 53, 54, 53, 55, 53, 56, 53, 57, 54, 48, 54, 49,
54, 50, 54, 51, 54, 52, 54, 53, 54, 54, 54, 55, 54, 56, 54, 57, 55, 48, 55, 49, 55, 50, 55, 51, 55, 52, 55, 53, 55, 54, 55, 55, 55, 56, 55, 57, 56, 48, 56, 49, 56, 50, 56, 51, 56, 52, 56, 53, 56, 54,
56, 55, 56, 56, 56, 57, 57, 48, 57, 49, 57, 50, 57, 51, 57, 52, 57, 53, 57, 54, 57, 55, 57, 56, 57, 57]) = decI n ∧ True) := by kernel_rfl

end Go.Proofs.YtpkmnabefnhcfaaDoor.X
