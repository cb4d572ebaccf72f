/-
 What is to be shown of the functions (made by a program).
-/
import Derived.Test.YtfpcbimohikhmaaDoorD11Z
import Derived.KernelRfl
set_option maxRecDepth 1000000
set_option linter.unusedVariables false
namespace Go.Proofs.YtfpcbimohikhmaaDoor.X
open Go Go.Ab
open List IntKind

theorem ob_o8  : fnP (TBK) G 10000 fe8 (.r [] 0 (.r [] 0 (.r [] 0 (.lp (l8) [] [] (fun b => (.r [] 0 (.cnd (.r [(385, .auto, Dr.wrap), (388, .auto, Dr.wrap), (391, .auto, Dr.wrap), (393, .auto, Dr.wrap)] 14 (.r [] 0 (.ghc 395 2 9001 1 (Cont.ints u8 []) (.ghc 396 2 9002 1 (Cont.ints u8 []) (.lp (m8 (wrap u8 b.n) (wrap u8 (Int.tdiv b.n 4)) (wrap u8 b.k)
 (wrap u8 b.n) b.n) [] [] (fun b_1 => (.r [] 0 (.cnd (.r [(643, .auto, Dr.wrap)] 25 (.r [(708, .auto, Dr.wrap)] 101 (.r [] 16 (.r [] 0 .nil)))) (.r [(837, .auto, Dr.wrap), (840, .auto, Dr.wrap), (847, .auto, Dr.wrap), (849, .auto, Dr.wrap), (852, .auto, Dr.wrap), (855, .auto, Dr.wrap), (864, .auto, Dr.wrap), (866, .auto, Dr.wrap)] 3281811791 (.lit (.r [] 0 .nil))))))))))) (.r [] 2 (.r [] 66056158 .nil))))))))) ([]) ([.bool true]) ([]) = (
 iI 1 = 1 ∧ iI 0 = 0 ∧ (∃ (m : Nat), 0 = (↑m : Int) ∧ m ≤ 20 ∧ iI 0 ≤ iI 1 ∧ iI 1 ≤ iI 100003) ∧ ∀ (b : L8), (∃ (m : Nat), b.n = (↑m : Int) ∧ m ≤ 20 ∧ 0 ≤ b.k ∧ b.k ≤ 100003) → (ltb b.n 20 = true → inR
 i64 (Int.tdiv b.n 4) = true ∧ 1 = 1 ∧ wrap u8 b.n = wrap u8 b.n ∧ wrap u8 (Int.tdiv b.n 4) = wrap u8 (Int.tdiv b.n 4) ∧ 0 = 0 ∧ 1 = 1 ∧ wrap u8 b.k = wrap u8 b.k ∧ wrap u8 b.n = wrap u8 b.n ∧ 0 = 0 ∧
 0 = 0 ∧ iL [] = [] ∧ 0 = 0 ∧ iL [] = [] ∧ b.k = b.k ∧ b.n = b.n ∧ 0 = 0 ∧ 0 = 0 ∧ iI 0 = 0 ∧ (∃ (m : Nat), 0 = (↑m : Int) ∧ m ≤ 60 ∧ 0 ≤ b.k ∧ b.k ≤ 100003 ∧ 0 = m ∧ 0 = m ∧ u8s [] ∧ u8s []) ∧ ∀ (b_1
 : M8), (∃ (m : Nat), b_1.i = (↑m : Int) ∧ m ≤ 60 ∧ 0 ≤ b_1.k ∧ b_1.k ≤ 100003 ∧ length b_1.x = m ∧ length b_1.y = m ∧ u8s b_1.x ∧ u8s b_1.y) → inR i64 (3 * b.n) = true ∧ (ltb b_1.i (3 * b.n) = true →
 length b_1.x = length b_1.x ∧ len' ((length b_1.x + 1) * 1) 140737488355328 = true ∧ inR i64 (Int.tdiv b_1.k 5) = true ∧ length b_1.y = length b_1.y ∧ len' ((length b_1.y + 1) * 1) 140737488355328 =
 true ∧ inR i64 (b_1.k * 31) = true ∧ inR i64 (7 * b_1.i) = true ∧ inR i64 (b_1.k * 31 + 7 * b_1.i) = true ∧ inR i64 (b_1.k * 31 + 7 * b_1.i + 11) = true ∧ inR i64 (b_1.i + 1) = true ∧ 1 = 1 ∧ wrap u8
 b.n = wrap u8 b.n ∧ wrap u8 (Int.tdiv b.n 4) = wrap u8 (Int.tdiv b.n 4) ∧ length b_1.x + 1 = length (b_1.x ++ [wrap u8 b_1.k]) ∧ 1 = 1 ∧ wrap u8 b.k = wrap u8 b.k ∧ wrap u8 b.n = wrap u8 b.n ∧ length
 b_1.y + 1 = length (b_1.y ++ [wrap u8 (Int.tdiv b_1.k 5)]) ∧ length b_1.x + 1 = length (b_1.x ++ [wrap u8 b_1.k]) ∧ b_1.x ++ [wrap u8 b_1.k] = b_1.x ++ [wrap u8 b_1.k] ∧ length b_1.y + 1 = length
 (b_1.y ++ [wrap u8 (Int.tdiv b_1.k 5)]) ∧ b_1.y ++ [wrap u8 (Int.tdiv b_1.k 5)] = b_1.y ++ [wrap u8 (Int.tdiv b_1.k 5)] ∧ Int.tmod (b_1.k * 31 + 7 * b_1.i + 11) 100003 = Int.tmod (b_1.k * 31 + 7 *
 b_1.i + 11) 100003 ∧ b.n = b.n ∧ 0 = 0 ∧ 0 = 0 ∧ b_1.i + 1 = b_1.i + 1 ∧ (∃ (m : Nat), b_1.i + 1 = (↑m : Int) ∧ m ≤ 60 ∧ 0 ≤ Int.tmod (b_1.k * 31 + 7 * b_1.i + 11) 100003 ∧ Int.tmod (b_1.k * 31 + 7 *
 b_1.i + 11) 100003 ≤ 100003 ∧ length (b_1.x ++ [wrap u8 b_1.k]) = m ∧ length (b_1.y ++ [wrap u8 (Int.tdiv b_1.k 5)]) = m ∧ u8s (b_1.x ++ [wrap u8 b_1.k]) ∧ u8s (b_1.y ++ [wrap u8 (Int.tdiv b_1.k 5)]))
 ∧ 60 - Int.toNat (b_1.i + 1) < 60 - Int.toNat b_1.i ∧ True) ∧ (ltb b_1.i (3 * b.n) = false → length b_1.x = length b_1.x ∧ ((0 ≤ wrap u8 b.n ∧ wrap u8 b.n ≤ 255) ∧ (0 ≤ wrap u8 (Int.tdiv b.n 4) ∧ wrap
 u8 (Int.tdiv b.n 4) ≤ 255) ∧ length b_1.x = length b_1.x ∧ u8s b_1.x ∧ (0 ≤ wrap u8 (Int.tmod b.n 4) ∧ wrap u8 (Int.tmod b.n 4) ≤ 255) ∧ 0 ≤ wrap u8 (Int.tmod b_1.k 5) ∧ wrap u8 (Int.tmod b_1.k 5) ≤
 255) ∧ inR i64 (Int.tdiv b_1.k 3) = true ∧ length b_1.x = length b_1.x ∧ ((0 ≤ wrap u8 b.n ∧ wrap u8 b.n ≤ 255) ∧ (0 ≤ wrap u8 (Int.tdiv b.n 4) ∧ wrap u8 (Int.tdiv b.n 4) ≤ 255) ∧ length b_1.x =
 length b_1.x ∧ u8s b_1.x ∧ (0 ≤ wrap u8 b_1.k ∧ wrap u8 b_1.k ≤ 255) ∧ (0 ≤ wrap u8 b.n ∧ wrap u8 b.n ≤ 255) ∧ (0 ≤ wrap u8 b.n ∧ wrap u8 b.n ≤ 255) ∧ 0 ≤ wrap u8 (Int.tdiv b_1.k 3) ∧ wrap u8
 (Int.tdiv b_1.k 3) ≤ 255) ∧ length b_1.x = length b_1.x ∧ length b_1.y = length b_1.y ∧ ((0 ≤ wrap u8 b.n ∧ wrap u8 b.n ≤ 255) ∧ (0 ≤ wrap u8 (Int.tdiv b.n 4) ∧ wrap u8 (Int.tdiv b.n 4) ≤ 255) ∧
 length b_1.x = length b_1.x ∧ u8s b_1.x ∧ (0 ≤ wrap u8 b.k ∧ wrap u8 b.k ≤ 255) ∧ (0 ≤ wrap u8 b.n ∧ wrap u8 b.n ≤ 255) ∧ length b_1.y = length b_1.y ∧ u8s b_1.y ∧ (0 ≤ wrap u8 b.n ∧ wrap u8 b.n ≤
 255) ∧ 0 ≤ wrap u8 b_1.k ∧ wrap u8 b_1.k ≤ 255) ∧ length b_1.x = length b_1.x ∧ ((0 ≤ wrap u8 b.n ∧ wrap u8 b.n ≤ 255) ∧ (0 ≤ wrap u8 (Int.tdiv b.n 4) ∧ wrap u8 (Int.tdiv b.n 4) ≤ 255) ∧ length b_1.x
 = length b_1.x ∧ u8s b_1.x) ∧ length b_1.y = length b_1.y ∧ (0 ≤ wrap u8 b.k ∧ wrap u8 b.k ≤ 255 ∧ 0 ≤ wrap u8 b.n ∧ wrap u8 b.n ≤ 255 ∧ length b_1.y = length b_1.y ∧ u8s b_1.y) ∧ length (ofL (wrap u8
 b.k) (wrap u8 b.n) b_1.y) = length (ofL (wrap u8 b.k) (wrap u8 b.n) b_1.y) ∧ (okA (flatC (ofL (wrap u8 b.k) (wrap u8 b.n) b_1.y)) (length (ofL (wrap u8 b.k) (wrap u8 b.n) b_1.y)) ∧ edg (unC (flatC
 (ofL (wrap u8 b.k) (wrap u8 b.n) b_1.y))) ∧ iI 0 ≤ iI 0 ∧ iI 0 ≤ iI 255) ∧ inR i64 (b.n + 1) = true ∧ b_1.k = b_1.k ∧ b.n + 1 = b.n + 1 ∧ (∃ (m : Nat), b.n + 1 = (↑m : Int) ∧ m ≤ 20 ∧ 0 ≤ b_1.k ∧
 b_1.k ≤ 100003) ∧ 20 - Int.toNat (b.n + 1) < 20 - Int.toNat b.n ∧ True)) ∧ (ltb b.n 20 = false → (iI 0 ≤ iI 2 ∧ iI 2 ≤ iI 255 ∧ iI 0 ≤ iI 1 ∧ iI 1 ≤ iI 255) ∧ (iI 0 ≤ iI 0 ∧ iI 0 ≤ iI 255) ∧ (okA
 [AV.int i64 0, AV.int u8 1, AV.int u8 1, AV.int i64 0, AV.int u8 1, AV.int u8 2] 2 ∧ edg [(0, 1, 1), (0, 1, 2)] ∧ iI 0 ≤ iI 0 ∧ iI 0 ≤ iI 255) ∧ (okA [AV.int i64 0, AV.int u8 1, AV.int u8 0, AV.int
 i64 99, AV.int u8 0, AV.int u8 1] 2 ∧ edg [(0, 1, 0), (99, 0, 1)] ∧ iI 0 ≤ iI 0 ∧ iI 0 ≤ iI 255) ∧ (okA [AV.int i64 2, AV.int u8 0, AV.int u8 1, AV.int i64 0, AV.int u8 1, AV.int u8 1, AV.int i64 99,
 AV.int u8 0, AV.int u8 1] 3 ∧ edg [(2, 0, 1), (0, 1, 1), (99, 0, 1)] ∧ iI 0 ≤ iI 0 ∧ iI 0 ≤ iI 255) ∧ true = true ∧ True)) := by kernel_rfl

theorem ob_o36 (c e k : Int) : fnP (T0) G 10000 fe36 (.r [] 0 (.r [] 1 .nil)) ([.int .i64 c, .int .u8 e, .int .u8 k]) ([.agg [.int .i64 c, .int .u8 e, .int .u8 k]]) ([]) = (
 c = c ∧ e = e ∧ k = k ∧ True) := by kernel_rfl

end Go.Proofs.YtfpcbimohikhmaaDoor.X
