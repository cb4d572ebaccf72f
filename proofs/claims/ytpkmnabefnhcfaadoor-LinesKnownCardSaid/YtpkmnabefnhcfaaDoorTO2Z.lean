/-
  What is to be shown of the functions (made by a program).
-/
import Derived.Test.YtpkmnabefnhcfaaDoorTD2Z
import Derived.KernelRfl
set_option maxRecDepth 1000000
set_option linter.unusedVariables false
namespace Go.Proofs.YtpkmnabefnhcfaaDoor.X
open Go Go.Ab

theorem ob_o66 (u : Int) : fnP (T33 0) G 10000 fe66 (.r [] 0 (.r [] 0 (.ff (.r [] 0 (.ff (.r [] 0 (.cnd (.r [] 1 (.r [] 1 (.r [] 0 .nil))) (.r [] 0 .nil)))))))) ([.int .u64 u]) ([.int .i64 (len64 u)]) ([]) = (
leb 4294967296 u = false ∧ leb 65536 u = false ∧ (leb 256 u = true → inR IntKind.u8 (Int.fdiv u 256) = true ∧ leb 0 (Int.fdiv u 256) = true ∧ ltb (Int.fdiv u 256) 256 = true ∧ inR IntKind.i64
(↑(UInt8.toNat (List.getD tab8 (Int.toNat (Int.fdiv u 256)) 0)) : Int) = true ∧ inR IntKind.i64 (8 + (↑(UInt8.toNat (List.getD tab8 (Int.toNat (Int.fdiv u 256)) 0)) : Int)) = true ∧ 8 + (↑(UInt8.toNat
(List.getD tab8 (Int.toNat (Int.fdiv u 256)) 0)) : Int) = len64 u ∧ True) ∧ (leb 256 u = false → inR IntKind.u8 u = true ∧ leb 0 u = true ∧ ltb u 256 = true ∧ inR IntKind.i64 (↑(UInt8.toNat (List.getD
tab8 (Int.toNat u) 0)) : Int) = true ∧ inR IntKind.i64 (0 + (↑(UInt8.toNat (List.getD tab8 (Int.toNat u) 0)) : Int)) = true ∧ 0 + (↑(UInt8.toNat (List.getD tab8 (Int.toNat u) 0)) : Int) = len64 u ∧
True)) := by kernel_rfl

theorem ob_o65 (x : Int) : fnP (T33 0) G 10000 fe65 (.r [] 0 (.r [] 2 .nil)) ([.int .i64 x]) ([.int .i64 (x * 78913 / 262144)]) ([]) = (
inR IntKind.i64 (x * 78913) = true ∧ Int.fdiv (x * 78913) 262144 = x * 78913 / 262144 ∧ True) := by kernel_rfl

theorem ob_o67 (b : Bool) : fnP (T33 0) G 10000 fe67 (.r [] 0 (.r [] 0 (.cnd (.r [] 0 .nil) (.r [] 0 .nil)))) ([.bool b]) ([.int .i64 (bI b 1 0)]) ([]) = (
(b = true → 1 = bI b 1 0 ∧ True) ∧ (b = false → 0 = bI b 1 0 ∧ True)) := by kernel_rfl

theorem ob_o61 (u : Int) : fnP (T61) G 10000 fe61 (.r [] 0 (.r [] 0 (.r [] 8 .nil))) ([.int .u64 u]) ([.int .i64 (ndg u)]) ([]) = (
(0 ≤ u ∧ u < 65536) ∧ (0 ≤ len64 u ∧ len64 u ≤ 64) ∧ leb 0 (len64 u * 78913 / 262144) = true ∧ ltb (len64 u * 78913 / 262144) 20 = true ∧ ltn 0 (Cont.size (Cont.ints IntKind.u64 (List.drop (Int.toNat
(len64 u * 78913 / 262144)) powT))) = true ∧ inR IntKind.i64 (len64 u * 78913 / 262144 + bI (leb (List.getD (List.drop (Int.toNat (len64 u * 78913 / 262144)) powT) 0 0) u) 1 0) = true ∧ len64 u *
78913 / 262144 + bI (leb (List.getD (List.drop (Int.toNat (len64 u * 78913 / 262144)) powT) 0 0) u) 1 0 = ndg u ∧ True) := by kernel_rfl

theorem ob_d_62a (u : Int) : fnD (T33 0) G 10000 (fe62) (.r [] 0 (.un (.r [] 0 (.lit (.r [] 0 (.r [] 0 (.lit (.r [] 0 (.lit (.r [] 0 (.lit (.r [] 28 .nil)))))))))))) ([.sl 320 1 1 23, .int .u64 u]) ([(320, blkZ Z24)]) ([]) ([(320, blkZ (W24 u))]) = (
inR IntKind.u32 u = true ∧ inR IntKind.u32 (48 + u) = true ∧ inR IntKind.u8 (48 + u) = true ∧ 24 = 24 ∧ [0, 48 + u, 0, 0, 0, 0, 0, 0, 0, 0, 0, 0, 0, 0, 0, 0, 0, 0, 0, 0, 0, 0, 0, 0] = 0 :: (List.map
(fun (b : UInt8) => (↑(UInt8.toNat b) : Int)) (decN u) ++ List.replicate (23 - List.length (decN u)) 0) ∧ True) := by kernel_rfl

theorem ob_d_62b (u : Int) : fnD (T33 0) G 10000 (fe62) (.r [] 0 (.un (.r [] 0 (.lit (.r [] 0 (.r [] 0 (.lit (.r [] 0 (.lit (.r [] 1 (.r [] 2 (.r [] 8067 (.r [] 1 (.r [] 0 (.lit .nil))))))))))))))) ([.sl 320 1 2 23, .int .u64 u]) ([(320, blkZ Z24)]) ([]) ([(320, blkZ (W24 u))]) = (
inR IntKind.u32 u = true ∧ inR IntKind.u32 (Int.tmod u 100 * 2) = true ∧ inR IntKind.u32 (Int.tdiv u 100) = true ∧ inR IntKind.u32 (Int.tmod u 100 * 2 + 1) = true ∧ leb 0 (Int.tmod u 100 * 2 + 1) =
true ∧ ltb (Int.tmod u 100 * 2 + 1) 200 = true ∧ leb 0 (Int.tmod u 100 * 2) = true ∧ ltb (Int.tmod u 100 * 2) 200 = true ∧ 24 = 24 ∧ [0, (↑(UInt8.toNat (List.getD tabS (Int.toNat (Int.tmod u 100 * 2))
0)) : Int), (↑(UInt8.toNat (List.getD tabS (Int.toNat (Int.tmod u 100 * 2 + 1)) 0)) : Int), 0, 0, 0, 0, 0, 0, 0, 0, 0, 0, 0, 0, 0, 0, 0, 0, 0, 0, 0, 0, 0] = 0 :: (List.map (fun (b : UInt8) =>
(↑(UInt8.toNat b) : Int)) (decN u) ++ List.replicate (23 - List.length (decN u)) 0) ∧ True) := by kernel_rfl

theorem ob_d_62c (u : Int) : fnD (T33 0) G 10000 (fe62) (.r [] 0 (.un (.r [] 0 (.lit (.r [] 0 (.r [] 0 (.lit (.r [] 0 (.lit (.r [] 1 (.r [] 2 (.r [] 8067 (.r [] 1 (.r [] 0 (.lit (.r [] 28 .nil)))))))))))))))) ([.sl 320 1 3 23, .int .u64 u]) ([(320, blkZ Z24)]) ([]) ([(320, blkZ (W24 u))]) = (
inR IntKind.u32 u = true ∧ inR IntKind.u32 (Int.tmod u 100 * 2) = true ∧ inR IntKind.u32 (Int.tdiv u 100) = true ∧ inR IntKind.u32 (Int.tmod u 100 * 2 + 1) = true ∧ leb 0 (Int.tmod u 100 * 2 + 1) =
true ∧ ltb (Int.tmod u 100 * 2 + 1) 200 = true ∧ leb 0 (Int.tmod u 100 * 2) = true ∧ ltb (Int.tmod u 100 * 2) 200 = true ∧ inR IntKind.u32 (48 + Int.tdiv u 100) = true ∧ inR IntKind.u8 (48 + Int.tdiv
u 100) = true ∧ 24 = 24 ∧ [0, 48 + Int.tdiv u 100, (↑(UInt8.toNat (List.getD tabS (Int.toNat (Int.tmod u 100 * 2)) 0)) : Int), (↑(UInt8.toNat (List.getD tabS (Int.toNat (Int.tmod u 100 * 2 + 1)) 0)) :
Int), 0, 0, 0, 0, 0, 0, 0, 0, 0, 0, 0, 0, 0, 0, 0, 0, 0, 0, 0, 0] = 0 :: (List.map (fun (b : UInt8) => (↑(UInt8.toNat b) : Int)) (decN u) ++ List.replicate (23 - List.length (decN u)) 0) ∧ True) := by kernel_rfl

theorem ob_d_62d (u : Int) : fnD (T33 0) G 10000 (fe62) (.r [] 0 (.un (.r [] 0 (.lit (.r [] 0 (.r [] 0 (.lit (.r [] 1 (.r [] 2 (.r [] 10 (.r [] 8067 (.r [] 8067 (.r [] 1 (.r [] 0 (.lit (.r [] 0 (.lit .nil))))))))))))))))) ([.sl 320 1 4 23, .int .u64 u]) ([(320, blkZ Z24)]) ([]) ([(320, blkZ (W24 u))]) = (
inR IntKind.u32 u = true ∧ inR IntKind.u32 (Int.tdiv u 10000) = true ∧ inR IntKind.u32 (Int.tdiv (Int.tmod u 10000) 100) = true ∧ inR IntKind.u32 (Int.tdiv (Int.tmod u 10000) 100 * 2) = true ∧ inR
IntKind.u32 (Int.tmod (Int.tmod u 10000) 100 * 2) = true ∧ inR IntKind.u32 (Int.tmod (Int.tmod u 10000) 100 * 2 + 1) = true ∧ leb 0 (Int.tmod (Int.tmod u 10000) 100 * 2 + 1) = true ∧ ltb (Int.tmod
(Int.tmod u 10000) 100 * 2 + 1) 200 = true ∧ leb 0 (Int.tmod (Int.tmod u 10000) 100 * 2) = true ∧ ltb (Int.tmod (Int.tmod u 10000) 100 * 2) 200 = true ∧ inR IntKind.u32 (Int.tdiv (Int.tmod u 10000)
100 * 2 + 1) = true ∧ leb 0 (Int.tdiv (Int.tmod u 10000) 100 * 2 + 1) = true ∧ ltb (Int.tdiv (Int.tmod u 10000) 100 * 2 + 1) 200 = true ∧ leb 0 (Int.tdiv (Int.tmod u 10000) 100 * 2) = true ∧ ltb
(Int.tdiv (Int.tmod u 10000) 100 * 2) 200 = true ∧ 24 = 24 ∧ [0, (↑(UInt8.toNat (List.getD tabS (Int.toNat (Int.tdiv (Int.tmod u 10000) 100 * 2)) 0)) : Int), (↑(UInt8.toNat (List.getD tabS (Int.toNat
(Int.tdiv (Int.tmod u 10000) 100 * 2 + 1)) 0)) : Int), (↑(UInt8.toNat (List.getD tabS (Int.toNat (Int.tmod (Int.tmod u 10000) 100 * 2)) 0)) : Int), (↑(UInt8.toNat (List.getD tabS (Int.toNat (Int.tmod
(Int.tmod u 10000) 100 * 2 + 1)) 0)) : Int), 0, 0, 0, 0, 0, 0, 0, 0, 0, 0, 0, 0, 0, 0, 0, 0, 0, 0, 0] = 0 :: (List.map (fun (b : UInt8) => (↑(UInt8.toNat b) : Int)) (decN u) ++ List.replicate (23 -
List.length (decN u)) 0) ∧ True) := by kernel_rfl

theorem ob_o57s (n : Int) : fnP (T57) G 10000 fe57 (.r [] 0 (.r [] 0 (.lit (.r [yL 195] 6 (.tt (.r [] 0 .nil)))))) ([.int .i64 n, .int .i64 10]) ([.str (decI n)]) ([]) = (
leb 0 n = true ∧ ltb n 100 = true ∧ (0 ≤ n ∧ n < 100) ∧ decI n = decI n ∧ True) := by kernel_rfl

theorem ob_o57p (n : Int) : fnP (T57) G 10000 fe57 (.r [] 0 (.r [] 0 (.lit (.r [yL 195] 6 (.ff (.r [] 0 (.r [] 0 (.r [] 0 (.ff (.r [] 0 (.r [(644, .auto, Dr.heap)] 18 (.r [] 0 (.ff (.r [] 18 .nil)))))))))))))) ([.int .i64 n, .int .i64 10]) ([.str (decI n)]) ([]) = (
leb 0 n = true ∧ ltb n 100 = false ∧ inR IntKind.u64 n = true ∧ ltb n 0 = false ∧ (0 ≤ n ∧ n < 10000) ∧ inR IntKind.i64 (1 + ndg n) = true ∧ leb 1 (1 + ndg n) = true ∧ len' (Int.toNat (1 + ndg n)) 24
= true ∧ ([(320, HO.blk (Blk.mk (Cont.ints IntKind.u8 [0, 0, 0, 0, 0, 0, 0, 0, 0, 0, 0, 0, 0, 0, 0, 0, 0, 0, 0, 0, 0, 0, 0, 0]) 1 24 none (some false) true true))] = [(320, HO.blk (Blk.mk (Cont.ints
IntKind.u8 [0, 0, 0, 0, 0, 0, 0, 0, 0, 0, 0, 0, 0, 0, 0, 0, 0, 0, 0, 0, 0, 0, 0, 0]) 1 24 none (some false) true true))] ∧ 1 = 1 ∧ Int.toNat (1 + ndg n) - 1 = List.length (decN n) ∧ 23 = 23 ∧ 0 ≤ n ∧
n < 10000) ∧ ltb n 0 = false ∧ inR IntKind.i64 (1 + ndg n) = true ∧ leb 1 (1 + ndg n) = true ∧ len' (Int.toNat (1 + ndg n)) 24 = true ∧ len' (1 + (Int.toNat (1 + ndg n) - 1)) (Cont.size (Cont.ints
IntKind.u8 (0 :: (List.map (fun (b : UInt8) => (↑(UInt8.toNat b) : Int)) (decN n) ++ List.replicate (23 - List.length (decN n)) 0)))) = true ∧ bytesI (List.take (Int.toNat (1 + ndg n) - 1) (List.drop
1 (0 :: (List.map (fun (b : UInt8) => (↑(UInt8.toNat b) : Int)) (decN n) ++ List.replicate (23 - List.length (decN n)) 0)))) = decI n ∧ True) := by kernel_rfl

theorem ob_o57n (n : Int) : fnP (T57) G 10000 fe57 (.r [] 0 (.r [] 0 (.lit (.r [(195, .off, Dr.plain), (196, .off, Dr.plain), (197, .auto, Dr.pk false)] 20 (.lit (.r [] 0 (.r [(385, .auto, Dr.wrap)] 0 (.r [] 0 (.tt (.r [(513, .auto, Dr.wrap)] 0 (.r [] 0 (.r [(644, .auto, Dr.heap)] 18 (.r [] 0 (.tt (.r [] 7 (.r [] 0 .nil)))))))))))))))) ([.int .i64 n, .int .i64 10]) ([.str (decI n)]) ([]) = (
(!leb 0 n) = true ∧ (!leb 0 n) = true ∧ (!leb 0 n) = true ∧ ltb n 0 = true ∧ (0 ≤ IntKind.wrap IntKind.u64 (0 - IntKind.wrap IntKind.u64 n) ∧ IntKind.wrap IntKind.u64 (0 - IntKind.wrap IntKind.u64 n)
< 10000) ∧ inR IntKind.i64 (1 + ndg (IntKind.wrap IntKind.u64 (0 - IntKind.wrap IntKind.u64 n))) = true ∧ leb 1 (1 + ndg (IntKind.wrap IntKind.u64 (0 - IntKind.wrap IntKind.u64 n))) = true ∧ len'
(Int.toNat (1 + ndg (IntKind.wrap IntKind.u64 (0 - IntKind.wrap IntKind.u64 n)))) 24 = true ∧ ([(320, HO.blk (Blk.mk (Cont.ints IntKind.u8 [0, 0, 0, 0, 0, 0, 0, 0, 0, 0, 0, 0, 0, 0, 0, 0, 0, 0, 0, 0,
0, 0, 0, 0]) 1 24 none (some false) true true))] = [(320, HO.blk (Blk.mk (Cont.ints IntKind.u8 [0, 0, 0, 0, 0, 0, 0, 0, 0, 0, 0, 0, 0, 0, 0, 0, 0, 0, 0, 0, 0, 0, 0, 0]) 1 24 none (some false) true
true))] ∧ 1 = 1 ∧ Int.toNat (1 + ndg (IntKind.wrap IntKind.u64 (0 - IntKind.wrap IntKind.u64 n))) - 1 = List.length (decN (IntKind.wrap IntKind.u64 (0 - IntKind.wrap IntKind.u64 n))) ∧ 23 = 23 ∧ 0 ≤
IntKind.wrap IntKind.u64 (0 - IntKind.wrap IntKind.u64 n) ∧ IntKind.wrap IntKind.u64 (0 - IntKind.wrap IntKind.u64 n) < 10000) ∧ ltb n 0 = true ∧ inR IntKind.i64 (1 + ndg (IntKind.wrap IntKind.u64 (0
- IntKind.wrap IntKind.u64 n))) = true ∧ leb 0 (1 + ndg (IntKind.wrap IntKind.u64 (0 - IntKind.wrap IntKind.u64 n))) = true ∧ len' (Int.toNat (1 + ndg (IntKind.wrap IntKind.u64 (0 - IntKind.wrap
IntKind.u64 n)))) 24 = true ∧ len' (0 + Int.toNat (1 + ndg (IntKind.wrap IntKind.u64 (0 - IntKind.wrap IntKind.u64 n)))) (Cont.size (Cont.ints IntKind.u8 (45 :: (List.map (fun (b : UInt8) =>
(↑(UInt8.toNat b) : Int)) (decN (IntKind.wrap IntKind.u64 (0 - IntKind.wrap IntKind.u64 n))) ++ List.replicate (23 - List.length (decN (IntKind.wrap IntKind.u64 (0 - IntKind.wrap IntKind.u64 n))))
0)))) = true ∧ bytesI (List.take (Int.toNat (1 + ndg (IntKind.wrap IntKind.u64 (0 - IntKind.wrap IntKind.u64 n)))) (45 :: (List.map (fun (b : UInt8) => (↑(UInt8.toNat b) : Int)) (decN (IntKind.wrap
IntKind.u64 (0 - IntKind.wrap IntKind.u64 n))) ++ List.replicate (23 - List.length (decN (IntKind.wrap IntKind.u64 (0 - IntKind.wrap IntKind.u64 n)))) 0))) = decI n ∧ True) := by kernel_rfl

theorem ob_o54 (n : Int) : fnP (T54) G 10000 fe54 (.r [] 0 (.r [] 0 .nil)) ([.int .i64 n]) ([.str (decI n)]) ([]) = (
(iI 10 = 10 ∧ -10000 < n ∧ n < 10000) ∧ decI n = decI n ∧ True) := by kernel_rfl

theorem ob_o36 (n : Int) : fnP (T36) G 10000 fe36 (.r [] 0 (.r [] 0 .nil)) ([.int .i64 n]) ([.str (decI n)]) ([]) = (
(-10000 < n ∧ n < 10000) ∧ decI n = decI n ∧ True) := by kernel_rfl

end Go.Proofs.YtpkmnabefnhcfaaDoor.X
