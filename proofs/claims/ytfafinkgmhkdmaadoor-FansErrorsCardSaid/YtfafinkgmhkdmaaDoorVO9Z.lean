/-
 What is to be shown of the functions (made by a program).
-/
import Derived.Test.YtfafinkgmhkdmaaDoorVD9Z
import Derived.KernelRfl
set_option maxRecDepth 1000000
set_option linter.unusedVariables false
namespace Go.Proofs.YtfafinkgmhkdmaaDoor.X
open Go Go.Ab

theorem ob_o33 (a k : List Int) : fnP (XT) G 10000 fe33 (.r [] 0 (.r [] 1 (.ff (.r [] 1 (.cnd (.r [] 0 .nil) (.r [] 0 (.r [] 1 (.gho 3 9001 1 (Cont.strs []) (.lp (l33 a k) [] [] (fun b => (.r [] 0 (.cnd (.r [] 0 (.r [] 262177 (.r [] 0 .nil))) (.frz 3 0 (.r [] 0 .nil)))))))))))))) ([fanV a k]) ([.str (txF a k)]) ([]) = (
(List.length a = List.length a ∧ List.length k = List.length k ∧ List.length a < 1000000000000) ∧ (chk a k != 0) = false ∧ (((↑(List.length a) : Int) == 0) = true → [45] = txF a k ∧ True) ∧
(((↑(List.length a) : Int) == 0) = false → 1 = 1 ∧ Cont.ints IntKind.i64 a = Cont.ints IntKind.i64 a ∧ List.length a = List.length a ∧ Cont.ints IntKind.u8 k = Cont.ints IntKind.u8 k ∧ List.length k =
List.length k ∧ 0 = 0 ∧ ([] : List (List UInt8)) = [] ∧ 0 = 0 ∧ 0 = 0 ∧ Cont.ints IntKind.i64 a = Cont.ints IntKind.i64 a ∧ List.length a = List.length a ∧ (↑(List.length a) : Int) = (↑(List.length a) : Int) ∧
iI 0 = 0 ∧ (∃ (n : Nat), 0 = (↑n : Int) ∧ n ≤ List.length a ∧ [] = List.take n (pcs a k)) ∧ ∀ (b : L33), (∃ (n : Nat), b.i = (↑n : Int) ∧ n ≤ List.length a ∧ b.l = List.take n (pcs a k)) → (ltb b.i
(↑(List.length a) : Int) = true → leb 0 b.i = true ∧ ltb b.i (↑(List.length a) : Int) = true ∧ ltn 0 (Cont.size (Cont.ints IntKind.i64 a)) = true ∧ ltn 0 (Cont.size (Cont.ints IntKind.i64 (List.drop
(Int.toNat b.i) a))) = true ∧ leb 0 b.i = true ∧ ltb b.i (↑(List.length k) : Int) = true ∧ ltn 0 (Cont.size (Cont.ints IntKind.u8 k)) = true ∧ ltn 0 (Cont.size (Cont.ints IntKind.u8 (List.drop
(Int.toNat b.i) k))) = true ∧ leb 0 b.i = true ∧ ltb b.i (↑(List.length k) : Int) = true ∧ ltn 0 (Cont.size (Cont.ints IntKind.u8 k)) = true ∧ ltn 0 (Cont.size (Cont.ints IntKind.u8 (List.drop
(Int.toNat b.i) k))) = true ∧ inR IntKind.u8 (List.getD (List.drop (Int.toNat b.i) k) 0 0 + 1) = true ∧ leb 0 (List.getD (List.drop (Int.toNat b.i) k) 0 0) = true ∧ leb (List.getD (List.drop
(Int.toNat b.i) k) 0 0) (List.getD (List.drop (Int.toNat b.i) k) 0 0 + 1) = true ∧ len' (Int.toNat (List.getD (List.drop (Int.toNat b.i) k) 0 0 + 1)) 4 = true ∧ (1 ≤ List.getD (List.drop (Int.toNat
b.i) a) 0 0 ∧ List.getD (List.drop (Int.toNat b.i) a) 0 0 ≤ 8) ∧ len' (List.length (List.take (Int.toNat (List.getD (List.drop (Int.toNat b.i) k) 0 0 + 1) - Int.toNat (List.getD (List.drop (Int.toNat
b.i) k) 0 0)) (List.drop (Int.toNat (List.getD (List.drop (Int.toNat b.i) k) 0 0)) ([32, 109, 118, 97] : List UInt8))) + 1) 9223372036854775807 = true ∧ List.length b.l = List.length b.l ∧ len' ((List.length b.l +
1) * 16) 140737488355328 = true ∧ inR IntKind.i64 (b.i + 1) = true ∧ 1 = 1 ∧ Cont.ints IntKind.i64 a = Cont.ints IntKind.i64 a ∧ List.length a = List.length a ∧ Cont.ints IntKind.u8 k = Cont.ints
IntKind.u8 k ∧ List.length k = List.length k ∧ List.length b.l + 1 = List.length (b.l ++ [List.take (Int.toNat (List.getD (List.drop (Int.toNat b.i) k) 0 0 + 1) - Int.toNat (List.getD (List.drop
(Int.toNat b.i) k) 0 0)) (List.drop (Int.toNat (List.getD (List.drop (Int.toNat b.i) k) 0 0)) ([32, 109, 118, 97] : List UInt8)) ++ [UInt8.ofNat (48 + Int.toNat (List.getD (List.drop (Int.toNat b.i) a) 0 0))]]) ∧
b.l ++ [List.take (Int.toNat (List.getD (List.drop (Int.toNat b.i) k) 0 0 + 1) - Int.toNat (List.getD (List.drop (Int.toNat b.i) k) 0 0)) (List.drop (Int.toNat (List.getD (List.drop (Int.toNat b.i) k)
0 0)) ([32, 109, 118, 97] : List UInt8)) ++ [UInt8.ofNat (48 + Int.toNat (List.getD (List.drop (Int.toNat b.i) a) 0 0))]] = b.l ++ [List.take (Int.toNat (List.getD (List.drop (Int.toNat b.i) k) 0 0 + 1) - Int.toNat
(List.getD (List.drop (Int.toNat b.i) k) 0 0)) (List.drop (Int.toNat (List.getD (List.drop (Int.toNat b.i) k) 0 0)) ([32, 109, 118, 97] : List UInt8)) ++ [UInt8.ofNat (48 + Int.toNat (List.getD (List.drop (Int.toNat
b.i) a) 0 0))]] ∧ 0 = 0 ∧ List.length b.l + 1 = List.length (b.l ++ [List.take (Int.toNat (List.getD (List.drop (Int.toNat b.i) k) 0 0 + 1) - Int.toNat (List.getD (List.drop (Int.toNat b.i) k) 0 0))
(List.drop (Int.toNat (List.getD (List.drop (Int.toNat b.i) k) 0 0)) ([32, 109, 118, 97] : List UInt8)) ++ [UInt8.ofNat (48 + Int.toNat (List.getD (List.drop (Int.toNat b.i) a) 0 0))]]) ∧ Cont.ints IntKind.i64 a =
Cont.ints IntKind.i64 a ∧ List.length a = List.length a ∧ (↑(List.length a) : Int) = (↑(List.length a) : Int) ∧ b.i + 1 = b.i + 1 ∧ (∃ (n : Nat), b.i + 1 = (↑n : Int) ∧ n ≤ List.length a ∧ b.l ++
[List.take (Int.toNat (List.getD (List.drop (Int.toNat b.i) k) 0 0 + 1) - Int.toNat (List.getD (List.drop (Int.toNat b.i) k) 0 0)) (List.drop (Int.toNat (List.getD (List.drop (Int.toNat b.i) k) 0 0))
([32, 109, 118, 97] : List UInt8)) ++ [UInt8.ofNat (48 + Int.toNat (List.getD (List.drop (Int.toNat b.i) a) 0 0))]] = List.take n (pcs a k)) ∧ List.length a - Int.toNat (b.i + 1) < List.length a - Int.toNat b.i ∧
True) ∧ (ltb b.i (↑(List.length a) : Int) = false → List.length b.l = List.length b.l ∧ (List.length b.l = List.length b.l ∧ List.length b.l ≤ 100000 ∧ List.length (Lib.join b.l [32]) ≤ 100000) ∧
Lib.join b.l [32] = txF a k ∧ True))) := by kernel_rfl

end Go.Proofs.YtfafinkgmhkdmaaDoor.X
