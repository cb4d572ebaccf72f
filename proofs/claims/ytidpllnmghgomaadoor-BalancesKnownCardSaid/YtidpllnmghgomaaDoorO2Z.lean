/-
  What is to be shown of the functions (made by a program).
-/
import Derived.Test.YtidpllnmghgomaaDoorD2Z
import Derived.KernelRfl
set_option maxRecDepth 1000000
set_option linter.unusedVariables false
namespace Go.Proofs.YtidpllnmghgomaaDoor.X
open Go Go.Ab
open List IntKind

theorem ob_o23 (a k : List Int) (x : Int) : fnP (T0) G 10000 fe23 (.r [] 0 (.r [] 0 (.r [] 1 (.lp (l23 k x) [] [] (fun b => (.r [] 0 (.cnd (.r [] 0 (.r [] 0 (.cnd (.r [] 0 (.r [] 0 .nil)) (.r [] 0 .nil)))) (.r [] 0 .nil)))))))) ([fanV a k, .int .u8 x]) ([.int .i64 (cntK k x)]) ([]) = (
 1 = 1 ∧ Cont.ints i64 a = Cont.ints i64 a ∧ length a = length a ∧ Cont.ints u8 k = Cont.ints u8 k ∧ length k = length k ∧ x = x ∧ iI 0 = 0 ∧ Cont.ints u8 k = Cont.ints u8 k ∧ length k = length k ∧
 (↑(length k) : Int) = (↑(length k) : Int) ∧ iI 0 = 0 ∧ (∃ (n : Nat), 0 = (↑n : Int) ∧ n ≤ length k ∧ iI 0 ≤ iI 0 ∧ 0 ≤ (↑n : Int) ∧ 0 + cntK (drop n k) x = cntK k x) ∧ ∀ (b : L23), (∃ (n : Nat), b.i =
 (↑n : Int) ∧ n ≤ length k ∧ 0 ≤ b.n ∧ b.n ≤ (↑n : Int) ∧ b.n + cntK (drop n k) x = cntK k x) → (ltb b.i (↑(length k) : Int) = true → leb 0 b.i = true ∧ ltb b.i (↑(length k) : Int) = true ∧ ltn 0
 (Cont.size (Cont.ints u8 k)) = true ∧ ltn 0 (Cont.size (Cont.ints u8 (drop (Int.toNat b.i) k))) = true ∧ ((getD (drop (Int.toNat b.i) k) 0 0 == x) = true → inR i64 (b.n + 1) = true ∧ inR i64 (b.i + 1)
 = true ∧ 1 = 1 ∧ Cont.ints i64 a = Cont.ints i64 a ∧ length a = length a ∧ Cont.ints u8 k = Cont.ints u8 k ∧ length k = length k ∧ x = x ∧ b.n + 1 = b.n + 1 ∧ Cont.ints u8 k = Cont.ints u8 k ∧ length
 k = length k ∧ (↑(length k) : Int) = (↑(length k) : Int) ∧ b.i + 1 = b.i + 1 ∧ (∃ (n : Nat), b.i + 1 = (↑n : Int) ∧ n ≤ length k ∧ 0 ≤ b.n + 1 ∧ b.n + 1 ≤ (↑n : Int) ∧ b.n + 1 + cntK (drop n k) x =
 cntK k x) ∧ length k - Int.toNat (b.i + 1) < length k - Int.toNat b.i ∧ True) ∧ ((getD (drop (Int.toNat b.i) k) 0 0 == x) = false → inR i64 (b.i + 1) = true ∧ 1 = 1 ∧ Cont.ints i64 a = Cont.ints i64 a
 ∧ length a = length a ∧ Cont.ints u8 k = Cont.ints u8 k ∧ length k = length k ∧ x = x ∧ b.n = b.n ∧ Cont.ints u8 k = Cont.ints u8 k ∧ length k = length k ∧ (↑(length k) : Int) = (↑(length k) : Int) ∧
 b.i + 1 = b.i + 1 ∧ (∃ (n : Nat), b.i + 1 = (↑n : Int) ∧ n ≤ length k ∧ 0 ≤ b.n ∧ b.n ≤ (↑n : Int) ∧ b.n + cntK (drop n k) x = cntK k x) ∧ length k - Int.toNat (b.i + 1) < length k - Int.toNat b.i ∧
 True)) ∧ (ltb b.i (↑(length k) : Int) = false → b.n = cntK k x ∧ True)) := by kernel_rfl

theorem ob_o10 (a k : List Int) : fnP (T4) G 10000 fe10 (.r [] 0 (.r [] 1 (.r [] 0 (.cnd (.r [] 0 .nil) (.r [] 37 (.r [] 0 .nil)))))) ([fanV a k]) ([.int .i64 (bI (isOk a k) (dif k - cntK k 3) 0), .int .i64 (bI (isOk a k) (dif k + cntK k 3) 0), .int .i64 (chk a k)]) ([]) = (
 (length a = length a ∧ length k = length k ∧ length a < 1000000000000) ∧ ((chk a k != 0) = true → 0 = bI (isOk a k) (dif k - cntK k 3) 0 ∧ 0 = bI (isOk a k) (dif k + cntK k 3) 0 ∧ chk a k = chk a k ∧
 True) ∧ ((chk a k != 0) = false → (length a = length a ∧ length k = length k ∧ length k < 1000000000000) ∧ (length a = length a ∧ length k = length k ∧ length k < 1000000000000) ∧ inR i64 (cntK k 1 -
 cntK k 2) = true ∧ (length a = length a ∧ length k = length k ∧ length k < 1000000000000) ∧ inR i64 (cntK k 1 - cntK k 2 - cntK k 3) = true ∧ inR i64 (cntK k 1 - cntK k 2 + cntK k 3) = true ∧ cntK k 1
 - cntK k 2 - cntK k 3 = bI (isOk a k) (dif k - cntK k 3) 0 ∧ cntK k 1 - cntK k 2 + cntK k 3 = bI (isOk a k) (dif k + cntK k 3) 0 ∧ 0 = chk a k ∧ True)) := by kernel_rfl

theorem ob_o24 (a k : List Int) : fnP (T4) G 10000 fe24 (.r [] 0 (.r [] 1 (.cnd (.r [] 0 (.frz 2 1 .nil)) (.r [] 37 (.r [] 0 (.r [] 0 (.gho 5 9001 1 (Cont.ints i64 []) (.lp (l24 (cntK k 1 - cntK k 2) (cntK k 3)) [] [] (fun b => (.r [] 0 (.cnd (.r [] 0 (.r [] 0 (.rs 3 [] 0 33 (.r [] 3 (.lit (.r [] 4 (.r [] 0 .nil)))) (.r [] 3 (.cnd (.r [] 4 (.r [] 0 .nil)) (.r [] 0 .nil)))))) (.frz 5 0 (.r [] 0 (.frz 2 0 .nil)))))))))))))) ([fanV a k]) ([.imm (.ints .i64 (chs a k)) (chs a k).length (some (chs a k).length)]) ([]) = (
 (((↑(length a) : Int) == 0) = true → Cont.ints i64 [0] = Cont.ints i64 (chs a k) ∧ 1 = length (chs a k) ∧ 1 = length (chs a k) ∧ True) ∧ (((↑(length a) : Int) == 0) = false → (length a = length a ∧
 length k = length k ∧ length k < 1000000000000) ∧ (length a = length a ∧ length k = length k ∧ length k < 1000000000000) ∧ inR i64 (cntK k 1 - cntK k 2) = true ∧ (length a = length a ∧ length k =
 length k ∧ length k < 1000000000000) ∧ inR i64 (cntK k 3 + 1) = true ∧ 1 = 1 ∧ Cont.ints i64 a = Cont.ints i64 a ∧ length a = length a ∧ Cont.ints u8 k = Cont.ints u8 k ∧ length k = length k ∧ 0 = 0 ∧
 iL [] = [] ∧ cntK k 1 - cntK k 2 = cntK k 1 - cntK k 2 ∧ cntK k 3 = cntK k 3 ∧ 0 = 0 ∧ cntK k 3 + 1 = cntK k 3 + 1 ∧ iI 0 = 0 ∧ (∃ (n : Nat), 0 = (↑n : Int) ∧ n ≤ Int.toNat (cntK k 3) + 1 ∧ 0 ≤ n ∧ []
 = chL (cntK k 1 - cntK k 2) (cntK k 3) n) ∧ ∀ (b : L24), (∃ (n : Nat), b.i = (↑n : Int) ∧ n ≤ Int.toNat (cntK k 3) + 1 ∧ length b.l ≤ n ∧ b.l = chL (cntK k 1 - cntK k 2) (cntK k 3) n) → (ltb b.i (cntK
 k 3 + 1) = true → inR i64 (2 * b.i) = true ∧ inR i64 (cntK k 1 - cntK k 2 + 2 * b.i) = true ∧ inR i64 (cntK k 1 - cntK k 2 + 2 * b.i - cntK k 3) = true ∧ ((cntK k 1 - cntK k 2 + 2 * b.i - cntK k 3 ==
 2) = true → length b.l = length b.l ∧ len' ((length b.l + 1) * 8) 140737488355328 = true ∧ inR i64 (b.i + 1) = true ∧ 1 = 1 ∧ Cont.ints i64 a = Cont.ints i64 a ∧ length a = length a ∧ Cont.ints u8 k =
 Cont.ints u8 k ∧ length k = length k ∧ length b.l + 1 = length (b.l ++ [b.i]) ∧ b.l ++ [b.i] = b.l ++ [b.i] ∧ cntK k 1 - cntK k 2 = cntK k 1 - cntK k 2 ∧ cntK k 3 = cntK k 3 ∧ length b.l + 1 = length
 (b.l ++ [b.i]) ∧ cntK k 3 + 1 = cntK k 3 + 1 ∧ b.i + 1 = b.i + 1 ∧ (∃ (n : Nat), b.i + 1 = (↑n : Int) ∧ n ≤ Int.toNat (cntK k 3) + 1 ∧ length (b.l ++ [b.i]) ≤ n ∧ b.l ++ [b.i] = chL (cntK k 1 - cntK k
 2) (cntK k 3) n) ∧ Int.toNat (cntK k 3) + 1 - Int.toNat (b.i + 1) < Int.toNat (cntK k 3) + 1 - Int.toNat b.i ∧ True) ∧ ((cntK k 1 - cntK k 2 + 2 * b.i - cntK k 3 == 2) = false → ((cntK k 1 - cntK k 2
 + 2 * b.i - cntK k 3 == -2) = true → length b.l = length b.l ∧ len' ((length b.l + 1) * 8) 140737488355328 = true ∧ inR i64 (b.i + 1) = true ∧ 1 = 1 ∧ Cont.ints i64 a = Cont.ints i64 a ∧ length a =
 length a ∧ Cont.ints u8 k = Cont.ints u8 k ∧ length k = length k ∧ length b.l + 1 = length (b.l ++ [b.i]) ∧ b.l ++ [b.i] = b.l ++ [b.i] ∧ cntK k 1 - cntK k 2 = cntK k 1 - cntK k 2 ∧ cntK k 3 = cntK k
 3 ∧ length b.l + 1 = length (b.l ++ [b.i]) ∧ cntK k 3 + 1 = cntK k 3 + 1 ∧ b.i + 1 = b.i + 1 ∧ (∃ (n : Nat), b.i + 1 = (↑n : Int) ∧ n ≤ Int.toNat (cntK k 3) + 1 ∧ length (b.l ++ [b.i]) ≤ n ∧ b.l ++
 [b.i] = chL (cntK k 1 - cntK k 2) (cntK k 3) n) ∧ Int.toNat (cntK k 3) + 1 - Int.toNat (b.i + 1) < Int.toNat (cntK k 3) + 1 - Int.toNat b.i ∧ True) ∧ ((cntK k 1 - cntK k 2 + 2 * b.i - cntK k 3 == -2)
 = false → inR i64 (b.i + 1) = true ∧ 1 = 1 ∧ Cont.ints i64 a = Cont.ints i64 a ∧ length a = length a ∧ Cont.ints u8 k = Cont.ints u8 k ∧ length k = length k ∧ length b.l = length b.l ∧ b.l = b.l ∧
 cntK k 1 - cntK k 2 = cntK k 1 - cntK k 2 ∧ cntK k 3 = cntK k 3 ∧ length b.l = length b.l ∧ cntK k 3 + 1 = cntK k 3 + 1 ∧ b.i + 1 = b.i + 1 ∧ (∃ (n : Nat), b.i + 1 = (↑n : Int) ∧ n ≤ Int.toNat (cntK k
 3) + 1 ∧ length b.l ≤ n ∧ b.l = chL (cntK k 1 - cntK k 2) (cntK k 3) n) ∧ Int.toNat (cntK k 3) + 1 - Int.toNat (b.i + 1) < Int.toNat (cntK k 3) + 1 - Int.toNat b.i ∧ True))) ∧ (ltb b.i (cntK k 3 + 1)
 = false → length b.l = length b.l ∧ length b.l = length b.l ∧ Cont.ints i64 b.l = Cont.ints i64 (chs a k) ∧ length b.l = length (chs a k) ∧ length b.l = length (chs a k) ∧ True))) := by kernel_rfl

theorem ob_o11 (a k : List Int) : fnP (T5) G 10000 fe11 (.r [] 0 (.r [] 1 (.r [] 0 (.ff (.r [] 1 .nil))))) ([fanV a k]) ([.imm (.ints .i64 (chs a k)) (chs a k).length (some (chs a k).length), .int .i64 0]) ([]) = (
 (length a = length a ∧ length k = length k ∧ length a < 1000000000000) ∧ (chk a k != 0) = false ∧ (length a = length a ∧ length k = length k ∧ length k < 1000000000000) ∧ Cont.ints i64 (chs a k) =
 Cont.ints i64 (chs a k) ∧ length (chs a k) = length (chs a k) ∧ length (chs a k) = length (chs a k) ∧ iI 0 = 0 ∧ True) := by kernel_rfl

theorem ob_o11n (a k : List Int) : fnP (T5) G 10000 fe11 (.r [] 0 (.r [] 1 (.r [] 0 (.tt (.r [] 0 .nil))))) ([fanV a k]) ([.nils, .int .i64 (chk a k)]) ([]) = (
 (length a = length a ∧ length k = length k ∧ length a < 1000000000000) ∧ (chk a k != 0) = true ∧ chk a k = chk a k ∧ True) := by kernel_rfl

theorem ob_o26 (a : List Int) (n : Nat) : fnP (T0) G 10000 fe26 (.r [] 0 (.r [] 5 .nil)) ([.imm (.ints .i64 a) n none]) ([.imm (.ints .i64 a) n (some n)]) ([]) = (
 Int.toNat (↑n : Int) = n ∧ Int.toNat (↑n : Int) = n ∧ Cont.size (Cont.ints i64 a) = n ∧ Cont.ints i64 a = Cont.ints i64 a ∧ n = n ∧ n = n ∧ True) := by kernel_rfl

end Go.Proofs.YtidpllnmghgomaaDoor.X
