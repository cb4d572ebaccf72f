/-
  What is to be shown of the functions (made by a program).
-/
import Derived.Test.YtfafinkgmhkdmaaDoorD2Z
import Derived.KernelRfl
set_option maxRecDepth 1000000
set_option linter.unusedVariables false
namespace Go.Proofs.YtfafinkgmhkdmaaDoor.X
open Go Go.Ab
open List IntKind

theorem ob_o38 (a k : List Int) : fnP (TB1) G 10000 fe38 (.r [] 0 (.r [] 1 (.r [] 0 (.cnd (.r [] 0 .nil) (.r [] 1 (.r [] 0 (.frz 4 0 (.r [] 1 (.gho 5 9001 1 (Cont.ints i64 []) (.lp (l38 a k) [] [] (fun b => (.r [] 0 (.cnd (.r [] 0 (.r [] 33 (.cnd (.r [] 0 .nil) (.r [] 0 (.un (.r [] 0 (.lit (.r [] 7 (.r [] 1 (.cnd (.r [] 0 .nil) (.r [] 1 (.un (.r [] 0 (.lit (.r [] 7 (.r [] 1 (.cnd (.r [] 0 .nil) (.r [] 1 (.un (.r [] 0 (.lit (.r [] 4 (.r [] 0 .nil))))))))))))))))))))))) (.frz 5 0 (.r [] 0 .nil))))))))))))))) ([fanV a k]) ([immL .i64 (stI a k)]) ([]) = (
 (ltb (↑(length a) : Int) 4 = true → Cont.size (Cont.ints i64 (stI a k)) = 0 ∧ length (stI a k) = 0 ∧ length (stI a k) = 0 ∧ True) ∧ (ltb (↑(length a) : Int) 4 = false → 1 = 1 ∧ Cont.ints i64 a =
 Cont.ints i64 a ∧ length a = length a ∧ Cont.ints u8 k = Cont.ints u8 k ∧ length k = length k ∧ 1 = 1 ∧ (↑(length a) : Int) = (↑(length a) : Int) ∧ 0 = 0 ∧ iL [] = [] ∧ 0 = 0 ∧ Cont.vals [AV.int i64
 (↑(length a) : Int)] = Cont.vals [AV.int i64 (↑(length a) : Int)] ∧ 0 = 0 ∧ Cont.ints i64 a = Cont.ints i64 a ∧ length a = length a ∧ (↑(length a) : Int) = (↑(length a) : Int) ∧ iI 0 = 0 ∧ (∃ (n :
 Nat), 0 = (↑n : Int) ∧ n ≤ length a ∧ [] = inL (filter (stB a k) (range.loop n []))) ∧ ∀ (b : L38), (∃ (n : Nat), b.i = (↑n : Int) ∧ n ≤ length a ∧ b.l = inL (filter (stB a k) (range.loop n []))) →
 (ltb b.i (↑(length a) : Int) = true → leb 0 b.i = true ∧ ltb b.i (↑(length a) : Int) = true ∧ ltn 0 (Cont.size (Cont.ints i64 a)) = true ∧ ltn 0 (Cont.size (Cont.ints i64 (drop (Int.toNat b.i) a))) =
 true ∧ leb 0 b.i = true ∧ ltb b.i (↑(length k) : Int) = true ∧ ltn 0 (Cont.size (Cont.ints u8 k)) = true ∧ ltn 0 (Cont.size (Cont.ints u8 (drop (Int.toNat b.i) k))) = true ∧ inR i64 (b.i + 1) = true ∧
 (0 < (↑(length a) : Int) ∧ (↑(length a) : Int) < 1000000000000 ∧ -1000000000000 < b.i + 1 ∧ b.i + 1 < 1000000000000) ∧ leb 0 (Int.tmod (b.i + 1 + (↑(length a) : Int)) (↑(length a) : Int)) = true ∧ ltb
 (Int.tmod (b.i + 1 + (↑(length a) : Int)) (↑(length a) : Int)) (↑(length k) : Int) = true ∧ ltn 0 (Cont.size (Cont.ints u8 k)) = true ∧ ltn 0 (Cont.size (Cont.ints u8 (drop (Int.toNat (Int.tmod (b.i +
 1 + (↑(length a) : Int)) (↑(length a) : Int))) k))) = true ∧ ((getD (drop (Int.toNat b.i) k) 0 0 == getD (drop (Int.toNat (Int.tmod (b.i + 1 + (↑(length a) : Int)) (↑(length a) : Int))) k) 0 0) = true
 → inR i64 (b.i + 1) = true ∧ 1 = 1 ∧ Cont.ints i64 a = Cont.ints i64 a ∧ length a = length a ∧ Cont.ints u8 k = Cont.ints u8 k ∧ length k = length k ∧ 1 = 1 ∧ (↑(length a) : Int) = (↑(length a) : Int)
 ∧ length b.l = length b.l ∧ b.l = b.l ∧ 0 = 0 ∧ Cont.vals [AV.int i64 (↑(length a) : Int)] = Cont.vals [AV.int i64 (↑(length a) : Int)] ∧ length b.l = length b.l ∧ Cont.ints i64 a = Cont.ints i64 a ∧
 length a = length a ∧ (↑(length a) : Int) = (↑(length a) : Int) ∧ b.i + 1 = b.i + 1 ∧ (∃ (n : Nat), b.i + 1 = (↑n : Int) ∧ n ≤ length a ∧ b.l = inL (filter (stB a k) (range.loop n []))) ∧ length a -
 Int.toNat (b.i + 1) < length a - Int.toNat b.i ∧ True) ∧ ((getD (drop (Int.toNat b.i) k) 0 0 == getD (drop (Int.toNat (Int.tmod (b.i + 1 + (↑(length a) : Int)) (↑(length a) : Int))) k) 0 0) = false →
 inR i64 (b.i - 1) = true ∧ (0 < (↑(length a) : Int) ∧ (↑(length a) : Int) < 1000000000000 ∧ -1000000000000 < b.i - 1 ∧ b.i - 1 < 1000000000000) ∧ inR i64 (b.i + 1) = true ∧ (0 < (↑(length a) : Int) ∧
 (↑(length a) : Int) < 1000000000000 ∧ -1000000000000 < b.i + 1 ∧ b.i + 1 < 1000000000000) ∧ leb 0 (Int.tmod (b.i - 1 + (↑(length a) : Int)) (↑(length a) : Int)) = true ∧ ltb (Int.tmod (b.i - 1 +
 (↑(length a) : Int)) (↑(length a) : Int)) (↑(length a) : Int) = true ∧ ltn 0 (Cont.size (Cont.ints i64 a)) = true ∧ ltn 0 (Cont.size (Cont.ints i64 (drop (Int.toNat (Int.tmod (b.i - 1 + (↑(length a) :
 Int)) (↑(length a) : Int))) a))) = true ∧ (ltb (getD (drop (Int.toNat (Int.tmod (b.i - 1 + (↑(length a) : Int)) (↑(length a) : Int))) a) 0 0) (getD (drop (Int.toNat b.i) a) 0 0) = true → inR i64 (b.i
 + 1) = true ∧ 1 = 1 ∧ Cont.ints i64 a = Cont.ints i64 a ∧ length a = length a ∧ Cont.ints u8 k = Cont.ints u8 k ∧ length k = length k ∧ 1 = 1 ∧ (↑(length a) : Int) = (↑(length a) : Int) ∧ length b.l =
 length b.l ∧ b.l = b.l ∧ 0 = 0 ∧ Cont.vals [AV.int i64 (↑(length a) : Int)] = Cont.vals [AV.int i64 (↑(length a) : Int)] ∧ length b.l = length b.l ∧ Cont.ints i64 a = Cont.ints i64 a ∧ length a =
 length a ∧ (↑(length a) : Int) = (↑(length a) : Int) ∧ b.i + 1 = b.i + 1 ∧ (∃ (n : Nat), b.i + 1 = (↑n : Int) ∧ n ≤ length a ∧ b.l = inL (filter (stB a k) (range.loop n []))) ∧ length a - Int.toNat
 (b.i + 1) < length a - Int.toNat b.i ∧ True) ∧ (ltb (getD (drop (Int.toNat (Int.tmod (b.i - 1 + (↑(length a) : Int)) (↑(length a) : Int))) a) 0 0) (getD (drop (Int.toNat b.i) a) 0 0) = false → leb 0
 (Int.tmod (b.i + 1 + (↑(length a) : Int)) (↑(length a) : Int)) = true ∧ ltb (Int.tmod (b.i + 1 + (↑(length a) : Int)) (↑(length a) : Int)) (↑(length a) : Int) = true ∧ ltn 0 (Cont.size (Cont.ints i64
 a)) = true ∧ ltn 0 (Cont.size (Cont.ints i64 (drop (Int.toNat (Int.tmod (b.i + 1 + (↑(length a) : Int)) (↑(length a) : Int))) a))) = true ∧ (ltb (getD (drop (Int.toNat (Int.tmod (b.i + 1 + (↑(length
 a) : Int)) (↑(length a) : Int))) a) 0 0) (getD (drop (Int.toNat b.i) a) 0 0) = true → inR i64 (b.i + 1) = true ∧ 1 = 1 ∧ Cont.ints i64 a = Cont.ints i64 a ∧ length a = length a ∧ Cont.ints u8 k =
 Cont.ints u8 k ∧ length k = length k ∧ 1 = 1 ∧ (↑(length a) : Int) = (↑(length a) : Int) ∧ length b.l = length b.l ∧ b.l = b.l ∧ 0 = 0 ∧ Cont.vals [AV.int i64 (↑(length a) : Int)] = Cont.vals [AV.int
 i64 (↑(length a) : Int)] ∧ length b.l = length b.l ∧ Cont.ints i64 a = Cont.ints i64 a ∧ length a = length a ∧ (↑(length a) : Int) = (↑(length a) : Int) ∧ b.i + 1 = b.i + 1 ∧ (∃ (n : Nat), b.i + 1 =
 (↑n : Int) ∧ n ≤ length a ∧ b.l = inL (filter (stB a k) (range.loop n []))) ∧ length a - Int.toNat (b.i + 1) < length a - Int.toNat b.i ∧ True) ∧ (ltb (getD (drop (Int.toNat (Int.tmod (b.i + 1 +
 (↑(length a) : Int)) (↑(length a) : Int))) a) 0 0) (getD (drop (Int.toNat b.i) a) 0 0) = false → length b.l = length b.l ∧ len' ((length b.l + 1) * 8) 140737488355328 = true ∧ inR i64 (b.i + 1) = true
 ∧ 1 = 1 ∧ Cont.ints i64 a = Cont.ints i64 a ∧ length a = length a ∧ Cont.ints u8 k = Cont.ints u8 k ∧ length k = length k ∧ 1 = 1 ∧ (↑(length a) : Int) = (↑(length a) : Int) ∧ length b.l + 1 = length
 (b.l ++ [b.i]) ∧ b.l ++ [b.i] = b.l ++ [b.i] ∧ 0 = 0 ∧ Cont.vals [AV.int i64 (↑(length a) : Int)] = Cont.vals [AV.int i64 (↑(length a) : Int)] ∧ length b.l + 1 = length (b.l ++ [b.i]) ∧ Cont.ints i64
 a = Cont.ints i64 a ∧ length a = length a ∧ (↑(length a) : Int) = (↑(length a) : Int) ∧ b.i + 1 = b.i + 1 ∧ (∃ (n : Nat), b.i + 1 = (↑n : Int) ∧ n ≤ length a ∧ b.l ++ [b.i] = inL (filter (stB a k)
 (range.loop n []))) ∧ length a - Int.toNat (b.i + 1) < length a - Int.toNat b.i ∧ True)))) ∧ (ltb b.i (↑(length a) : Int) = false → length b.l = length b.l ∧ length b.l = length b.l ∧ Cont.ints i64
 b.l = Cont.ints i64 (stI a k) ∧ length b.l = length (stI a k) ∧ length b.l = length (stI a k) ∧ True))) := by kernel_rfl

theorem ob_o40 (a k : List Int) (i : Int) : fnP (TB1) G 10000 fe40 (.r [] 0 (.r [] 1 (.r [] 1 (.r [] 0 (.frz 6 0 (.r [] 0 (.ghc 256 0 9001 1 (Cont.ints i64 []) (.ghc 256 1 9002 1 (Cont.ints u8 []) (.lp (l40 a k (Int.toNat i)) [] [] (fun b => (.r [] 0 (.cnd (.r [] 0 (.rs 4 [] 0 22 (.r [] 3 (.lit (.r [] 0 .nil))) (.r [] 12 (.cnd (.r [] 0 .nil) (.r [] 1 (.r [] 0 (.cnd (.r [] 129 (.r [] 28729 (.r [] 0 .nil))) (.r [] 28729 (.r [] 0 .nil))))))))) (.frz 7 0 (.r [] 21 .nil)))))))))))))) ([fanV a k, .int .i64 i]) ([.agg [immL .i64 (doneA a i.toNat), immL .u8 (doneK k i.toNat)]]) ([]) = (
 1 = 1 ∧ Cont.ints i64 a = Cont.ints i64 a ∧ length a = length a ∧ Cont.ints u8 k = Cont.ints u8 k ∧ length k = length k ∧ 1 = 1 ∧ 1 = 1 ∧ (↑(length a) : Int) = (↑(length a) : Int) ∧ 1 = 1 ∧ 0 = 0 ∧ 0
 = 0 ∧ 0 = 0 ∧ iL [] = [] ∧ 0 = 0 ∧ iL [] = [] ∧ i = i ∧ 0 = 0 ∧ 0 = 0 ∧ Cont.vals [AV.int i64 (↑(length a) : Int)] = Cont.vals [AV.int i64 (↑(length a) : Int)] ∧ 0 = 0 ∧ (↑(length a) : Int) =
 (↑(length a) : Int) ∧ iI 0 = 0 ∧ (∃ (n : Nat), 0 = (↑n : Int) ∧ n ≤ length a ∧ [] = map (valF a (Int.toNat i)) (keepL (length a) (Int.toNat i) n) ∧ [] = map (gt k) (keepL (length a) (Int.toNat i) n))
 ∧ ∀ (b : L40), (∃ (n : Nat), b.i = (↑n : Int) ∧ n ≤ length a ∧ b.a = map (valF a (Int.toNat i)) (keepL (length a) (Int.toNat i) n) ∧ b.k = map (gt k) (keepL (length a) (Int.toNat i) n)) → (ltb b.i
 (↑(length a) : Int) = true → ((b.i == i) = true → inR i64 (b.i + 1) = true ∧ 1 = 1 ∧ Cont.ints i64 a = Cont.ints i64 a ∧ length a = length a ∧ Cont.ints u8 k = Cont.ints u8 k ∧ length k = length k ∧ 1
 = 1 ∧ 1 = 1 ∧ (↑(length a) : Int) = (↑(length a) : Int) ∧ 1 = 1 ∧ length b.a = length b.a ∧ length b.k = length b.k ∧ length b.a = length b.a ∧ b.a = b.a ∧ length b.k = length b.k ∧ b.k = b.k ∧ i = i
 ∧ 0 = 0 ∧ 0 = 0 ∧ Cont.vals [AV.int i64 (↑(length a) : Int)] = Cont.vals [AV.int i64 (↑(length a) : Int)] ∧ 0 = 0 ∧ (↑(length a) : Int) = (↑(length a) : Int) ∧ b.i + 1 = b.i + 1 ∧ (∃ (n : Nat), b.i +
 1 = (↑n : Int) ∧ n ≤ length a ∧ b.a = map (valF a (Int.toNat i)) (keepL (length a) (Int.toNat i) n) ∧ b.k = map (gt k) (keepL (length a) (Int.toNat i) n)) ∧ length a - Int.toNat (b.i + 1) < length a -
 Int.toNat b.i ∧ True) ∧ ((b.i == i) = false → inR i64 (i + 1) = true ∧ (0 < (↑(length a) : Int) ∧ (↑(length a) : Int) < 1000000000000 ∧ -1000000000000 < i + 1 ∧ i + 1 < 1000000000000) ∧ ((b.i ==
 Int.tmod (i + 1 + (↑(length a) : Int)) (↑(length a) : Int)) = true → inR i64 (b.i + 1) = true ∧ 1 = 1 ∧ Cont.ints i64 a = Cont.ints i64 a ∧ length a = length a ∧ Cont.ints u8 k = Cont.ints u8 k ∧
 length k = length k ∧ 1 = 1 ∧ 1 = 1 ∧ (↑(length a) : Int) = (↑(length a) : Int) ∧ 1 = 1 ∧ length b.a = length b.a ∧ length b.k = length b.k ∧ length b.a = length b.a ∧ b.a = b.a ∧ length b.k = length
 b.k ∧ b.k = b.k ∧ i = i ∧ 0 = 0 ∧ 0 = 0 ∧ Cont.vals [AV.int i64 (↑(length a) : Int)] = Cont.vals [AV.int i64 (↑(length a) : Int)] ∧ 0 = 0 ∧ (↑(length a) : Int) = (↑(length a) : Int) ∧ b.i + 1 = b.i +
 1 ∧ (∃ (n : Nat), b.i + 1 = (↑n : Int) ∧ n ≤ length a ∧ b.a = map (valF a (Int.toNat i)) (keepL (length a) (Int.toNat i) n) ∧ b.k = map (gt k) (keepL (length a) (Int.toNat i) n)) ∧ length a -
 Int.toNat (b.i + 1) < length a - Int.toNat b.i ∧ True) ∧ ((b.i == Int.tmod (i + 1 + (↑(length a) : Int)) (↑(length a) : Int)) = false → leb 0 b.i = true ∧ ltb b.i (↑(length a) : Int) = true ∧ ltn 0
 (Cont.size (Cont.ints i64 a)) = true ∧ ltn 0 (Cont.size (Cont.ints i64 (drop (Int.toNat b.i) a))) = true ∧ inR i64 (i - 1) = true ∧ (0 < (↑(length a) : Int) ∧ (↑(length a) : Int) < 1000000000000 ∧
 -1000000000000 < i - 1 ∧ i - 1 < 1000000000000) ∧ ((b.i == Int.tmod (i - 1 + (↑(length a) : Int)) (↑(length a) : Int)) = true → inR i64 (i + 1) = true ∧ (0 < (↑(length a) : Int) ∧ (↑(length a) : Int)
 < 1000000000000 ∧ -1000000000000 < i + 1 ∧ i + 1 < 1000000000000) ∧ leb 0 (Int.tmod (i + 1 + (↑(length a) : Int)) (↑(length a) : Int)) = true ∧ ltb (Int.tmod (i + 1 + (↑(length a) : Int)) (↑(length a)
 : Int)) (↑(length a) : Int) = true ∧ ltn 0 (Cont.size (Cont.ints i64 a)) = true ∧ ltn 0 (Cont.size (Cont.ints i64 (drop (Int.toNat (Int.tmod (i + 1 + (↑(length a) : Int)) (↑(length a) : Int))) a))) =
 true ∧ leb 0 i = true ∧ ltb i (↑(length a) : Int) = true ∧ ltn 0 (Cont.size (Cont.ints i64 a)) = true ∧ ltn 0 (Cont.size (Cont.ints i64 (drop (Int.toNat i) a))) = true ∧ inR i64 (getD (drop (Int.toNat
 (Int.tmod (i + 1 + (↑(length a) : Int)) (↑(length a) : Int))) a) 0 0 - getD (drop (Int.toNat i) a) 0 0) = true ∧ inR i64 (getD (drop (Int.toNat b.i) a) 0 0 + (getD (drop (Int.toNat (Int.tmod (i + 1 +
 (↑(length a) : Int)) (↑(length a) : Int))) a) 0 0 - getD (drop (Int.toNat i) a) 0 0)) = true ∧ length b.a = length b.a ∧ len' ((length b.a + 1) * 8) 140737488355328 = true ∧ leb 0 b.i = true ∧ ltb b.i
 (↑(length k) : Int) = true ∧ ltn 0 (Cont.size (Cont.ints u8 k)) = true ∧ ltn 0 (Cont.size (Cont.ints u8 (drop (Int.toNat b.i) k))) = true ∧ length b.k = length b.k ∧ len' ((length b.k + 1) * 1)
 140737488355328 = true ∧ inR i64 (b.i + 1) = true ∧ 1 = 1 ∧ Cont.ints i64 a = Cont.ints i64 a ∧ length a = length a ∧ Cont.ints u8 k = Cont.ints u8 k ∧ length k = length k ∧ 1 = 1 ∧ 1 = 1 ∧ (↑(length
 a) : Int) = (↑(length a) : Int) ∧ 1 = 1 ∧ length b.a + 1 = length (b.a ++ [getD (drop (Int.toNat b.i) a) 0 0 + (getD (drop (Int.toNat (Int.tmod (i + 1 + (↑(length a) : Int)) (↑(length a) : Int))) a) 0
 0 - getD (drop (Int.toNat i) a) 0 0)]) ∧ length b.k + 1 = length (b.k ++ [getD (drop (Int.toNat b.i) k) 0 0]) ∧ length b.a + 1 = length (b.a ++ [getD (drop (Int.toNat b.i) a) 0 0 + (getD (drop
 (Int.toNat (Int.tmod (i + 1 + (↑(length a) : Int)) (↑(length a) : Int))) a) 0 0 - getD (drop (Int.toNat i) a) 0 0)]) ∧ b.a ++ [getD (drop (Int.toNat b.i) a) 0 0 + (getD (drop (Int.toNat (Int.tmod (i +
 1 + (↑(length a) : Int)) (↑(length a) : Int))) a) 0 0 - getD (drop (Int.toNat i) a) 0 0)] = b.a ++ [getD (drop (Int.toNat b.i) a) 0 0 + (getD (drop (Int.toNat (Int.tmod (i + 1 + (↑(length a) : Int))
 (↑(length a) : Int))) a) 0 0 - getD (drop (Int.toNat i) a) 0 0)] ∧ length b.k + 1 = length (b.k ++ [getD (drop (Int.toNat b.i) k) 0 0]) ∧ b.k ++ [getD (drop (Int.toNat b.i) k) 0 0] = b.k ++ [getD
 (drop (Int.toNat b.i) k) 0 0] ∧ i = i ∧ 0 = 0 ∧ 0 = 0 ∧ Cont.vals [AV.int i64 (↑(length a) : Int)] = Cont.vals [AV.int i64 (↑(length a) : Int)] ∧ 0 = 0 ∧ (↑(length a) : Int) = (↑(length a) : Int) ∧
 b.i + 1 = b.i + 1 ∧ (∃ (n : Nat), b.i + 1 = (↑n : Int) ∧ n ≤ length a ∧ b.a ++ [getD (drop (Int.toNat b.i) a) 0 0 + (getD (drop (Int.toNat (Int.tmod (i + 1 + (↑(length a) : Int)) (↑(length a) : Int)))
 a) 0 0 - getD (drop (Int.toNat i) a) 0 0)] = map (valF a (Int.toNat i)) (keepL (length a) (Int.toNat i) n) ∧ b.k ++ [getD (drop (Int.toNat b.i) k) 0 0] = map (gt k) (keepL (length a) (Int.toNat i) n))
 ∧ length a - Int.toNat (b.i + 1) < length a - Int.toNat b.i ∧ True) ∧ ((b.i == Int.tmod (i - 1 + (↑(length a) : Int)) (↑(length a) : Int)) = false → length b.a = length b.a ∧ len' ((length b.a + 1) *
 8) 140737488355328 = true ∧ leb 0 b.i = true ∧ ltb b.i (↑(length k) : Int) = true ∧ ltn 0 (Cont.size (Cont.ints u8 k)) = true ∧ ltn 0 (Cont.size (Cont.ints u8 (drop (Int.toNat b.i) k))) = true ∧
 length b.k = length b.k ∧ len' ((length b.k + 1) * 1) 140737488355328 = true ∧ inR i64 (b.i + 1) = true ∧ 1 = 1 ∧ Cont.ints i64 a = Cont.ints i64 a ∧ length a = length a ∧ Cont.ints u8 k = Cont.ints
 u8 k ∧ length k = length k ∧ 1 = 1 ∧ 1 = 1 ∧ (↑(length a) : Int) = (↑(length a) : Int) ∧ 1 = 1 ∧ length b.a + 1 = length (b.a ++ [getD (drop (Int.toNat b.i) a) 0 0]) ∧ length b.k + 1 = length (b.k ++
 [getD (drop (Int.toNat b.i) k) 0 0]) ∧ length b.a + 1 = length (b.a ++ [getD (drop (Int.toNat b.i) a) 0 0]) ∧ b.a ++ [getD (drop (Int.toNat b.i) a) 0 0] = b.a ++ [getD (drop (Int.toNat b.i) a) 0 0] ∧
 length b.k + 1 = length (b.k ++ [getD (drop (Int.toNat b.i) k) 0 0]) ∧ b.k ++ [getD (drop (Int.toNat b.i) k) 0 0] = b.k ++ [getD (drop (Int.toNat b.i) k) 0 0] ∧ i = i ∧ 0 = 0 ∧ 0 = 0 ∧ Cont.vals
 [AV.int i64 (↑(length a) : Int)] = Cont.vals [AV.int i64 (↑(length a) : Int)] ∧ 0 = 0 ∧ (↑(length a) : Int) = (↑(length a) : Int) ∧ b.i + 1 = b.i + 1 ∧ (∃ (n : Nat), b.i + 1 = (↑n : Int) ∧ n ≤ length
 a ∧ b.a ++ [getD (drop (Int.toNat b.i) a) 0 0] = map (valF a (Int.toNat i)) (keepL (length a) (Int.toNat i) n) ∧ b.k ++ [getD (drop (Int.toNat b.i) k) 0 0] = map (gt k) (keepL (length a) (Int.toNat i)
 n)) ∧ length a - Int.toNat (b.i + 1) < length a - Int.toNat b.i ∧ True)))) ∧ (ltb b.i (↑(length a) : Int) = false → length b.a = length b.a ∧ length b.k = length b.k ∧ length b.a = length b.a ∧ length
 b.k = length b.k ∧ Cont.ints i64 b.a = Cont.ints i64 (doneA a (Int.toNat i)) ∧ length b.a = length (doneA a (Int.toNat i)) ∧ length b.a = length (doneA a (Int.toNat i)) ∧ Cont.ints u8 b.k = Cont.ints
 u8 (doneK k (Int.toNat i)) ∧ length b.k = length (doneK k (Int.toNat i)) ∧ length b.k = length (doneK k (Int.toNat i)) ∧ True)) := by kernel_rfl

theorem ob_o15 (a k : List Int) : fnP (TC1) G 10000 fe15 (.r [] 0 (.r [] 1 (.r [] 0 (.cnd (.r [] 0 .nil) (.r [] 1 .nil))))) ([fanV a k]) ([immL .i64 (bLs (okD a k) (stI a k)), .int .i64 (dcd a k)]) ([]) = (
 (length a = length a ∧ length k = length k ∧ length a < 1000000000000 ∧ length k < 1000000000000) ∧ ((dcd a k != 0) = true → Cont.size (Cont.ints i64 (bLs (okD a k) (stI a k))) = 0 ∧ length (bLs (okD
 a k) (stI a k)) = 0 ∧ length (bLs (okD a k) (stI a k)) = 0 ∧ dcd a k = dcd a k ∧ True) ∧ ((dcd a k != 0) = false → (length a = length a ∧ length k = length k ∧ length k = length a ∧ length a <
 1000000000) ∧ Cont.ints i64 (stI a k) = Cont.ints i64 (bLs (okD a k) (stI a k)) ∧ length (stI a k) = length (bLs (okD a k) (stI a k)) ∧ length (stI a k) = length (bLs (okD a k) (stI a k)) ∧ 0 = dcd a
 k ∧ True)) := by kernel_rfl

theorem ob_o16 (a k : List Int) (i : Int) : fnP (TD1) G 10000 fe16 (.r [] 0 (.r [] 1 (.r [] 0 (.cnd (.r [] 1 .nil) (.r [] 1 (.cnd (.r [] 1 .nil) (.r [] 5 .nil))))))) ([fanV a k, .int .i64 i]) ([.agg [immL .i64 (bLs (doB a k i) (doneA a i.toNat)), immL .u8 (bLs (doB a k i) (doneK k i.toNat))], .int .i64 (doE a k i)]) ([]) = (
 (length a = length a ∧ length k = length k ∧ length a < 1000000000000 ∧ length k < 1000000000000) ∧ ((dcd a k != 0) = true → Cont.size (Cont.ints i64 (bLs (doB a k i) (doneA a (Int.toNat i)))) = 0 ∧
 length (bLs (doB a k i) (doneA a (Int.toNat i))) = 0 ∧ length (bLs (doB a k i) (doneA a (Int.toNat i))) = 0 ∧ Cont.size (Cont.ints u8 (bLs (doB a k i) (doneK k (Int.toNat i)))) = 0 ∧ length (bLs (doB
 a k i) (doneK k (Int.toNat i))) = 0 ∧ length (bLs (doB a k i) (doneK k (Int.toNat i))) = 0 ∧ dcd a k = doE a k i ∧ True) ∧ ((dcd a k != 0) = false → (length a = length a ∧ length k = length k ∧ length
 k = length a ∧ length a < 1000000000) ∧ (length (stI a k) = length (stI a k) ∧ length (stI a k) < 1000000000000) ∧ ((!memB (stI a k) i) = true → Cont.size (Cont.ints i64 (bLs (doB a k i) (doneA a
 (Int.toNat i)))) = 0 ∧ length (bLs (doB a k i) (doneA a (Int.toNat i))) = 0 ∧ length (bLs (doB a k i) (doneA a (Int.toNat i))) = 0 ∧ Cont.size (Cont.ints u8 (bLs (doB a k i) (doneK k (Int.toNat i))))
 = 0 ∧ length (bLs (doB a k i) (doneK k (Int.toNat i))) = 0 ∧ length (bLs (doB a k i) (doneK k (Int.toNat i))) = 0 ∧ 6 = doE a k i ∧ True) ∧ ((!memB (stI a k) i) = false → (length a = length a ∧ length
 k = length k ∧ okF a k 8 = true ∧ 2 ≤ length a ∧ 0 ≤ i ∧ i < (↑(length a) : Int)) ∧ Cont.ints i64 (doneA a (Int.toNat i)) = Cont.ints i64 (bLs (doB a k i) (doneA a (Int.toNat i))) ∧ length (doneA a
 (Int.toNat i)) = length (bLs (doB a k i) (doneA a (Int.toNat i))) ∧ length (doneA a (Int.toNat i)) = length (bLs (doB a k i) (doneA a (Int.toNat i))) ∧ Cont.ints u8 (doneK k (Int.toNat i)) = Cont.ints
 u8 (bLs (doB a k i) (doneK k (Int.toNat i))) ∧ length (doneK k (Int.toNat i)) = length (bLs (doB a k i) (doneK k (Int.toNat i))) ∧ length (doneK k (Int.toNat i)) = length (bLs (doB a k i) (doneK k
 (Int.toNat i))) ∧ 0 = doE a k i ∧ True))) := by kernel_rfl

end Go.Proofs.YtfafinkgmhkdmaaDoor.X
