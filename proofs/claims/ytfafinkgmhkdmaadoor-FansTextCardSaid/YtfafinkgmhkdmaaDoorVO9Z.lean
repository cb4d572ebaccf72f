/-
  What is to be shown of the functions (made by a program).
-/
import Derived.Test.YtfafinkgmhkdmaaDoorVD9Z
import Derived.KernelRfl
set_option maxRecDepth 1000000
set_option linter.unusedVariables false
namespace Go.Proofs.YtfafinkgmhkdmaaDoor.X
open Go Go.Ab

theorem ob_o82 (s : List UInt8) (b : Int) : fnP (XA) G 10000 fe82 (.r [] 0 (.r [] 1 .nil)) ([.str s, .int .u8 b]) ([.int .i64 (ixB s b)]) ([]) = (
ixB s b = ixB s b ∧ True) := by kernel_rfl

theorem ob_o60 (s : List UInt8) (b : Int) : fnP (tabL ((82, eIxB) :: xA) noCh) G 10000 fe60 (.r [] 0 (.r [] 1 .nil)) ([.str s, .int .u8 b]) ([.int .i64 (ixB s b)]) ([]) = (
ixB s b = ixB s b ∧ True) := by kernel_rfl

theorem ob_o122 (s : List UInt8) : fnP (XB) G 10000 fe122 (.r [] 0 (.r [] 0 (.r [] 3 (.cnd (.r [] 0 .nil) (.r [] 0 (.lit (.r [] 7 .nil))))))) ([.str s, .str [32]]) ([.int .i64 (ixB s 32)]) ([]) = (
(([32] == s) = true → 0 = ixB s 32 ∧ True) ∧ (([32] == s) = false → ixB s 32 = ixB s 32 ∧ True)) := by kernel_rfl

theorem ob_o106 (s : List UInt8) : fnP (XC') G 10000 fe106 (.r [] 0 (.r [] 0 .nil)) ([.str s, .str [32]]) ([.int .i64 (ixB s 32)]) ([]) = (
((32 : UInt8) = 32 ∧ List.length s < 1000000000) ∧ ixB s 32 = ixB s 32 ∧ True) := by kernel_rfl

theorem ob_o105 (s : List UInt8) : fnP (XB) G 10000 fe105 (.r [] 0 (.r [] 0 (.lit (.r [] 0 (.lit (.r [] 7 .nil)))))) ([.str s, .str [32]]) ([.int .i64 (ctB s 32)]) ([]) = (
ctB s 32 = ctB s 32 ∧ True) := by kernel_rfl

theorem ob_o81 (s : List UInt8) : fnP (XD) G 10000 fe81 (.r [] 0 (.r [] 0 (.lit (.r [] 0 (.lit (.r [] 0 (.lit (.r [] 0 (.r [] 0 (.r [] 0 (.r [] 0 (.r [] 0 (.lp (l81 s 577) [] [] (fun b => (.r [] 0 (.cnd (.r [] 0 (.r [] 0 (.cnd (.r [] 0 (.frz 9 0 (.r [] 0 .nil))) (.r [] 0 (.r [] 0 (.r [] 0 .nil)))))) (.r [] 0 (.frz 9 0 (.r [] 0 .nil))))))))))))))))))) ([.str s, .str [32], .int .i64 0, .int .i64 (-1)]) ([.imm (.strs (splitS s)) (splitS s).length none]) ([]) = (
((32 : UInt8) = 32 ∧ List.length s < 1000000000) ∧ inR IntKind.i64 (ctB s 32 + 1) = true ∧ inR IntKind.i64 ((↑(List.length s) : Int) + 1) = true ∧ leb 0 (if (↑(List.length s) : Int) + 1 < ctB s 32 + 1 then
(↑(List.length s) : Int) + 1 else ctB s 32 + 1) = true ∧ leb (if (↑(List.length s) : Int) + 1 < ctB s 32 + 1 then (↑(List.length s) : Int) + 1 else ctB s 32 + 1) (if (↑(List.length s) : Int) + 1 < ctB
s 32 + 1 then (↑(List.length s) : Int) + 1 else ctB s 32 + 1) = true ∧ leb ((if (↑(List.length s) : Int) + 1 < ctB s 32 + 1 then (↑(List.length s) : Int) + 1 else ctB s 32 + 1) * 16) 140737488355328 =
true ∧ inR IntKind.i64 ((if (↑(List.length s) : Int) + 1 < ctB s 32 + 1 then (↑(List.length s) : Int) + 1 else ctB s 32 + 1) - 1) = true ∧ Int.toNat (if (↑(List.length s) : Int) + 1 < ctB s 32 + 1
then (↑(List.length s) : Int) + 1 else ctB s 32 + 1) = List.length (List.replicate (Int.toNat (if (↑(List.length s) : Int) + 1 < ctB s 32 + 1 then (↑(List.length s) : Int) + 1 else ctB s 32 + 1)) ([]
: List UInt8)) ∧ Int.toNat (if (↑(List.length s) : Int) + 1 < ctB s 32 + 1 then (↑(List.length s) : Int) + 1 else ctB s 32 + 1) = List.length (List.replicate (Int.toNat (if (↑(List.length s) : Int) +
1 < ctB s 32 + 1 then (↑(List.length s) : Int) + 1 else ctB s 32 + 1)) ([] : List UInt8)) ∧ List.replicate (Int.toNat (if (↑(List.length s) : Int) + 1 < ctB s 32 + 1 then (↑(List.length s) : Int) + 1
else ctB s 32 + 1)) ([] : List UInt8) = List.replicate (Int.toNat (if (↑(List.length s) : Int) + 1 < ctB s 32 + 1 then (↑(List.length s) : Int) + 1 else ctB s 32 + 1)) ([] : List UInt8) ∧ s = s ∧ uL
[32] = [32] ∧ iI 0 = 0 ∧ (if (↑(List.length s) : Int) + 1 < ctB s 32 + 1 then (↑(List.length s) : Int) + 1 else ctB s 32 + 1) - 1 = (if (↑(List.length s) : Int) + 1 < ctB s 32 + 1 then (↑(List.length
s) : Int) + 1 else ctB s 32 + 1) - 1 ∧ Int.toNat (if (↑(List.length s) : Int) + 1 < ctB s 32 + 1 then (↑(List.length s) : Int) + 1 else ctB s 32 + 1) = Int.toNat (if (↑(List.length s) : Int) + 1 < ctB
s 32 + 1 then (↑(List.length s) : Int) + 1 else ctB s 32 + 1) ∧ iI 0 = 0 ∧ (∃ (n : Nat), 0 = (↑n : Int) ∧ n < List.length (splitS s) ∧ List.length (List.replicate (Int.toNat (if (↑(List.length s) :
Int) + 1 < ctB s 32 + 1 then (↑(List.length s) : Int) + 1 else ctB s 32 + 1)) ([] : List UInt8)) = List.length (splitS s) ∧ List.take n (List.replicate (Int.toNat (if (↑(List.length s) : Int) + 1 <
ctB s 32 + 1 then (↑(List.length s) : Int) + 1 else ctB s 32 + 1)) ([] : List UInt8)) ++ splitS s = splitS s ∧ List.length s ≤ List.length s) ∧ ∀ (b : L81), (∃ (n : Nat), b.i = (↑n : Int) ∧ n <
List.length (splitS s) ∧ List.length b.l = List.length (splitS s) ∧ List.take n b.l ++ splitS b.s = splitS s ∧ List.length b.s ≤ List.length s) → (ltb b.i ((if (↑(List.length s) : Int) + 1 < ctB s 32
+ 1 then (↑(List.length s) : Int) + 1 else ctB s 32 + 1) - 1) = true → ((32 : UInt8) = 32 ∧ List.length b.s < 1000000000) ∧ (ltb (ixB b.s 32) 0 = true → leb 0 b.i = true ∧ ltb b.i (↑(Int.toNat (if
(↑(List.length s) : Int) + 1 < ctB s 32 + 1 then (↑(List.length s) : Int) + 1 else ctB s 32 + 1)) : Int) = true ∧ List.length b.l = Int.toNat (if (↑(List.length s) : Int) + 1 < ctB s 32 + 1 then
(↑(List.length s) : Int) + 1 else ctB s 32 + 1) ∧ List.length b.l = Int.toNat (if (↑(List.length s) : Int) + 1 < ctB s 32 + 1 then (↑(List.length s) : Int) + 1 else ctB s 32 + 1) ∧ len' (Int.toNat b.i
+ 1) (Cont.size (Cont.strs b.l)) = true ∧ List.length b.l = Int.toNat (if (↑(List.length s) : Int) + 1 < ctB s 32 + 1 then (↑(List.length s) : Int) + 1 else ctB s 32 + 1) ∧ inR IntKind.i64 (b.i + 1) =
true ∧ leb 0 (b.i + 1) = true ∧ len' (Int.toNat (b.i + 1)) (Int.toNat (if (↑(List.length s) : Int) + 1 < ctB s 32 + 1 then (↑(List.length s) : Int) + 1 else ctB s 32 + 1)) = true ∧ Cont.size
(Cont.strs (List.set b.l (Int.toNat b.i) b.s)) = Int.toNat (if (↑(List.length s) : Int) + 1 < ctB s 32 + 1 then (↑(List.length s) : Int) + 1 else ctB s 32 + 1) ∧ Cont.strs (List.take (Int.toNat (b.i +
1)) (List.set b.l (Int.toNat b.i) b.s)) = Cont.strs (splitS s) ∧ Int.toNat (b.i + 1) = List.length (splitS s) ∧ True) ∧ (ltb (ixB b.s 32) 0 = false → inR IntKind.i64 (ixB b.s 32 + 0) = true ∧ leb 0
(ixB b.s 32 + 0) = true ∧ len' (Int.toNat (ixB b.s 32 + 0)) (List.length b.s) = true ∧ leb 0 b.i = true ∧ ltb b.i (↑(Int.toNat (if (↑(List.length s) : Int) + 1 < ctB s 32 + 1 then (↑(List.length s) :
Int) + 1 else ctB s 32 + 1)) : Int) = true ∧ List.length b.l = Int.toNat (if (↑(List.length s) : Int) + 1 < ctB s 32 + 1 then (↑(List.length s) : Int) + 1 else ctB s 32 + 1) ∧ List.length b.l =
Int.toNat (if (↑(List.length s) : Int) + 1 < ctB s 32 + 1 then (↑(List.length s) : Int) + 1 else ctB s 32 + 1) ∧ len' (Int.toNat b.i + 1) (Cont.size (Cont.strs b.l)) = true ∧ inR IntKind.i64 (ixB b.s
32 + 1) = true ∧ leb 0 (ixB b.s 32 + 1) = true ∧ len' (Int.toNat (ixB b.s 32 + 1)) (List.length b.s) = true ∧ inR IntKind.i64 (b.i + 1) = true ∧ List.length b.l = List.length (List.set b.l (Int.toNat
b.i) (List.take (Int.toNat (ixB b.s 32 + 0)) b.s)) ∧ List.length b.l = List.length (List.set b.l (Int.toNat b.i) (List.take (Int.toNat (ixB b.s 32 + 0)) b.s)) ∧ List.set b.l (Int.toNat b.i) (List.take
(Int.toNat (ixB b.s 32 + 0)) b.s) = List.set b.l (Int.toNat b.i) (List.take (Int.toNat (ixB b.s 32 + 0)) b.s) ∧ List.drop (Int.toNat (ixB b.s 32 + 1)) b.s = List.drop (Int.toNat (ixB b.s 32 + 1)) b.s
∧ uL [32] = [32] ∧ iI 0 = 0 ∧ (if (↑(List.length s) : Int) + 1 < ctB s 32 + 1 then (↑(List.length s) : Int) + 1 else ctB s 32 + 1) - 1 = (if (↑(List.length s) : Int) + 1 < ctB s 32 + 1 then
(↑(List.length s) : Int) + 1 else ctB s 32 + 1) - 1 ∧ Int.toNat (if (↑(List.length s) : Int) + 1 < ctB s 32 + 1 then (↑(List.length s) : Int) + 1 else ctB s 32 + 1) = Int.toNat (if (↑(List.length s) :
Int) + 1 < ctB s 32 + 1 then (↑(List.length s) : Int) + 1 else ctB s 32 + 1) ∧ b.i + 1 = b.i + 1 ∧ (∃ (n : Nat), b.i + 1 = (↑n : Int) ∧ n < List.length (splitS s) ∧ List.length (List.set b.l
(Int.toNat b.i) (List.take (Int.toNat (ixB b.s 32 + 0)) b.s)) = List.length (splitS s) ∧ List.take n (List.set b.l (Int.toNat b.i) (List.take (Int.toNat (ixB b.s 32 + 0)) b.s)) ++ splitS (List.drop
(Int.toNat (ixB b.s 32 + 1)) b.s) = splitS s ∧ List.length (List.drop (Int.toNat (ixB b.s 32 + 1)) b.s) ≤ List.length s) ∧ List.length (List.drop (Int.toNat (ixB b.s 32 + 1)) b.s) < List.length b.s ∧
True)) ∧ (ltb b.i ((if (↑(List.length s) : Int) + 1 < ctB s 32 + 1 then (↑(List.length s) : Int) + 1 else ctB s 32 + 1) - 1) = false → leb 0 b.i = true ∧ ltb b.i (↑(Int.toNat (if (↑(List.length s) :
Int) + 1 < ctB s 32 + 1 then (↑(List.length s) : Int) + 1 else ctB s 32 + 1)) : Int) = true ∧ List.length b.l = Int.toNat (if (↑(List.length s) : Int) + 1 < ctB s 32 + 1 then (↑(List.length s) : Int)
+ 1 else ctB s 32 + 1) ∧ List.length b.l = Int.toNat (if (↑(List.length s) : Int) + 1 < ctB s 32 + 1 then (↑(List.length s) : Int) + 1 else ctB s 32 + 1) ∧ len' (Int.toNat b.i + 1) (Cont.size
(Cont.strs b.l)) = true ∧ List.length b.l = Int.toNat (if (↑(List.length s) : Int) + 1 < ctB s 32 + 1 then (↑(List.length s) : Int) + 1 else ctB s 32 + 1) ∧ inR IntKind.i64 (b.i + 1) = true ∧ leb 0
(b.i + 1) = true ∧ len' (Int.toNat (b.i + 1)) (Int.toNat (if (↑(List.length s) : Int) + 1 < ctB s 32 + 1 then (↑(List.length s) : Int) + 1 else ctB s 32 + 1)) = true ∧ Cont.size (Cont.strs (List.set
b.l (Int.toNat b.i) b.s)) = Int.toNat (if (↑(List.length s) : Int) + 1 < ctB s 32 + 1 then (↑(List.length s) : Int) + 1 else ctB s 32 + 1) ∧ Cont.strs (List.take (Int.toNat (b.i + 1)) (List.set b.l
(Int.toNat b.i) b.s)) = Cont.strs (splitS s) ∧ Int.toNat (b.i + 1) = List.length (splitS s) ∧ True)) := by kernel_rfl

theorem ob_o59 (s : List UInt8) : fnP (XE) G 10000 fe59 (.r [] 0 (.r [] 0 .nil)) ([.str s, .str [32]]) ([.imm (.strs (splitS s)) (splitS s).length none]) ([]) = (
((32 : UInt8) = 32 ∧ List.length s < 1000000) ∧ Cont.strs (splitS s) = Cont.strs (splitS s) ∧ List.length (splitS s) = List.length (splitS s) ∧ True) := by kernel_rfl

theorem ob_o33 (a k : List Int) : fnP (XT) G 10000 fe33 (.r [] 0 (.r [] 1 (.ff (.r [] 1 (.cnd (.r [] 0 .nil) (.r [] 0 (.r [] 1 (.gho 3 9001 1 (Cont.strs []) (.lp (l33 a k) [] [] (fun b => (.r [] 0 (.cnd (.r [] 0 (.r [] 262177 (.r [] 0 .nil))) (.frz 3 0 (.r [] 0 .nil)))))))))))))) ([fanV a k]) ([.str (txF a k)]) ([]) = (
(List.length a = List.length a ∧ List.length k = List.length k ∧ List.length a < 1000000000000) ∧ (chk a k != 0) = false ∧ (((↑(List.length a) : Int) == 0) = true → [45] = txF a k ∧ True) ∧
(((↑(List.length a) : Int) == 0) = false → 1 = 1 ∧ Cont.ints IntKind.i64 a = Cont.ints IntKind.i64 a ∧ List.length a = List.length a ∧ Cont.ints IntKind.u8 k = Cont.ints IntKind.u8 k ∧ List.length k =
List.length k ∧ 0 = 0 ∧ ([] : List (List UInt8)) = [] ∧ 0 = 0 ∧ 0 = 0 ∧ Cont.ints IntKind.i64 a = Cont.ints IntKind.i64 a ∧ List.length a = List.length a ∧ (↑(List.length a) : Int) = (↑(List.length a) : Int) ∧
iI 0 = 0 ∧ (∃ (n : Nat), 0 = (↑n : Int) ∧ n ≤ List.length a ∧ [] = List.take n (pcs a k)) ∧ ∀ (b : L33), (∃ (n : Nat), b.i = (↑n : Int) ∧ n ≤ List.length a ∧ b.l = List.take n (pcs a k)) → (ltb b.i
(↑(List.length a) : Int) = true → leb 0 b.i = true ∧ ltb b.i (↑(List.length a) : Int) = true ∧ ltn 0 (Cont.size (Cont.ints IntKind.i64 a)) = true ∧ ltn 0 (Cont.size (Cont.ints IntKind.i64 (List.drop
(Int.toNat b.i) a))) = true ∧ leb 0 b.i = true ∧ ltb b.i (↑(List.length k) : Int) = true ∧ ltn 0 (Cont.size (Cont.ints IntKind.u8 k)) = true ∧ ltn 0 (Cont.size (Cont.ints IntKind.u8 (List.drop
(Int.toNat b.i) k))) = true ∧ leb 0 b.i = true ∧ ltb b.i (↑(List.length k) : Int) = true ∧ ltn 0 (Cont.size (Cont.ints IntKind.u8 k)) = true ∧ ltn 0 (Cont.size (Cont.ints IntKind.u8 (List.drop
(Int.toNat b.i) k))) = true ∧ inR IntKind.u8 (List.getD (List.drop (Int.toNat b.i) k) 0 0 + 1) = true ∧ leb 0 (List.getD (List.drop (Int.toNat b.i) k) 0 0) = true ∧ leb (List.getD (List.drop
(Int.toNat b.i) k) 0 0) (List.getD (List.drop (Int.toNat b.i) k) 0 0 + 1) = true ∧ len' (Int.toNat (List.getD (List.drop (Int.toNat b.i) k) 0 0 + 1)) 4 = true ∧ (1 ≤ List.getD (List.drop (Int.toNat
b.i) a) 0 0 ∧ List.getD (List.drop (Int.toNat b.i) a) 0 0 ≤ 8) ∧ len' (List.length (List.take (Int.toNat (List.getD (List.drop (Int.toNat b.i) k) 0 0 + 1) - Int.toNat (List.getD (List.drop (Int.toNat
b.i) k) 0 0)) (List.drop (Int.toNat (List.getD (List.drop (Int.toNat b.i) k) 0 0)) ([32, 109, 118, 97] : List UInt8))) + 1) 9223372036854775807 = true ∧ List.length b.l = List.length b.l ∧ len' ((List.length b.l +
1) * 16) 140737488355328 = true ∧ inR IntKind.i64 (b.i + 1) = true ∧ 1 = 1 ∧ Cont.ints IntKind.i64 a = Cont.ints IntKind.i64 a ∧ List.length a = List.length a ∧ Cont.ints IntKind.u8 k = Cont.ints
IntKind.u8 k ∧ List.length k = List.length k ∧ List.length b.l + 1 = List.length (b.l ++ [List.take (Int.toNat (List.getD (List.drop (Int.toNat b.i) k) 0 0 + 1) - Int.toNat (List.getD (List.drop
(Int.toNat b.i) k) 0 0)) (List.drop (Int.toNat (List.getD (List.drop (Int.toNat b.i) k) 0 0)) ([32, 109, 118, 97] : List UInt8)) ++ [UInt8.ofNat (48 + Int.toNat (List.getD (List.drop (Int.toNat b.i) a) 0 0))]]) ∧
b.l ++ [List.take (Int.toNat (List.getD (List.drop (Int.toNat b.i) k) 0 0 + 1) - Int.toNat (List.getD (List.drop (Int.toNat b.i) k) 0 0)) (List.drop (Int.toNat (List.getD (List.drop (Int.toNat b.i) k)
0 0)) ([32, 109, 118, 97] : List UInt8)) ++ [UInt8.ofNat (48 + Int.toNat (List.getD (List.drop (Int.toNat b.i) a) 0 0))]] = b.l ++ [List.take (Int.toNat (List.getD (List.drop (Int.toNat b.i) k) 0 0 + 1) - Int.toNat
(List.getD (List.drop (Int.toNat b.i) k) 0 0)) (List.drop (Int.toNat (List.getD (List.drop (Int.toNat b.i) k) 0 0)) ([32, 109, 118, 97] : List UInt8)) ++ [UInt8.ofNat (48 + Int.toNat (List.getD (List.drop (Int.toNat
b.i) a) 0 0))]] ∧ 0 = 0 ∧ List.length b.l + 1 = List.length (b.l ++ [List.take (Int.toNat (List.getD (List.drop (Int.toNat b.i) k) 0 0 + 1) - Int.toNat (List.getD (List.drop (Int.toNat b.i) k) 0 0))
(List.drop (Int.toNat (List.getD (List.drop (Int.toNat b.i) k) 0 0)) ([32, 109, 118, 97] : List UInt8)) ++ [UInt8.ofNat (48 + Int.toNat (List.getD (List.drop (Int.toNat b.i) a) 0 0))]]) ∧ Cont.ints IntKind.i64 a =
Cont.ints IntKind.i64 a ∧ List.length a = List.length a ∧ (↑(List.length a) : Int) = (↑(List.length a) : Int) ∧ b.i + 1 = b.i + 1 ∧ (∃ (n : Nat), b.i + 1 = (↑n : Int) ∧ n ≤ List.length a ∧ b.l ++
[List.take (Int.toNat (List.getD (List.drop (Int.toNat b.i) k) 0 0 + 1) - Int.toNat (List.getD (List.drop (Int.toNat b.i) k) 0 0)) (List.drop (Int.toNat (List.getD (List.drop (Int.toNat b.i) k) 0 0))
([32, 109, 118, 97] : List UInt8)) ++ [UInt8.ofNat (48 + Int.toNat (List.getD (List.drop (Int.toNat b.i) a) 0 0))]] = List.take n (pcs a k)) ∧ List.length a - Int.toNat (b.i + 1) < List.length a - Int.toNat b.i ∧
True) ∧ (ltb b.i (↑(List.length a) : Int) = false → List.length b.l = List.length b.l ∧ (List.length b.l = List.length b.l ∧ List.length b.l ≤ 100000 ∧ List.length (Lib.join b.l [32]) ≤ 100000) ∧
Lib.join b.l [32] = txF a k ∧ True))) := by kernel_rfl

end Go.Proofs.YtfafinkgmhkdmaaDoor.X
