/-
 What is to be shown of the functions (made by a program).
-/
import Derived.Test.YtmnaghfndigfkaaDoorDEZ
import Derived.KernelRfl
set_option maxRecDepth 1000000
set_option linter.unusedVariables false
namespace Go.Proofs.YtmnaghfndigfkaaDoor.X
open Go Go.Ab

theorem ob_o36 (m : Int) (a b : List Cl) : fnP (TE1) G 10000 fe36 (.r [] 0 (.r [] 0 (.r [] 1 (.r [] 0 (.frz 8 0 (.lp (l36 m a b) [] [] (fun b_1 => (.r [] 0 (.cnd (.r [(452, .auto, Dr.val (kV (a ++ b) b_1.i)), (458, .auto, Dr.val (kV (a ++ b) b_1.i))] 0 (.r [] 0 (.cnd (.r [(580, .auto, Dr.val (kV (a ++ b) b_1.i))] 0 (.r [] 0 .nil)) (.r [] 0 .nil)))) (.r [] 0 .nil)))))))))) ([cls a, cls b, .int .i64 m]) ([cls (whL m a b (a ++ b))]) ([]) = (
len' ((0 + List.length a) * 24) 140737488355328 = true ∧ Cont.size (Cont.vals (flatK a)) = List.length a * 3 ∧ 0 + List.length a = 0 + List.length a ∧ len' ((0 + List.length a + List.length b) * 24)
140737488355328 = true ∧ Cont.size (Cont.vals (flatK b)) = List.length b * 3 ∧ 0 + List.length a + List.length b = 0 + List.length a + List.length b ∧ 0 + List.length a + List.length b = 0 +
List.length a + List.length b ∧ [] ++ flatK a ++ flatK b = [] ++ flatK a ++ flatK b ∧ Cont.vals (flatK a) = Cont.vals (flatK a) ∧ List.length a = List.length a ∧ Cont.vals (flatK b) = Cont.vals (flatK
b) ∧ List.length b = List.length b ∧ m = m ∧ 0 = 0 ∧ 0 = 0 ∧ Cont.vals ([] ++ flatK a ++ flatK b) = Cont.vals ([] ++ flatK a ++ flatK b) ∧ 0 + List.length a + List.length b = 0 + List.length a +
List.length b ∧ iI 0 = 0 ∧ (∃ (n : Nat), 0 = (↑n : Int) ∧ n ≤ List.length (a ++ b) ∧ [] = flatK (whL m a b (List.take n (a ++ b))) ∧ 0 = List.length (whL m a b (List.take n (a ++ b)))) ∧ ∀ (b_1 :
L36), (∃ (n : Nat), b_1.i = (↑n : Int) ∧ n ≤ List.length (a ++ b) ∧ b_1.o = flatK (whL m a b (List.take n (a ++ b))) ∧ b_1.n = List.length (whL m a b (List.take n (a ++ b)))) → (ltb b_1.i (↑(0 +
List.length a + List.length b) : Int) = true → leb 0 b_1.i = true ∧ ltb b_1.i (↑(0 + List.length a + List.length b) : Int) = true ∧ ltn 0 (Cont.size (Cont.vals ([] ++ flatK a ++ flatK b))) = true ∧
(List.drop (Int.toNat b_1.i * 3) ([] ++ flatK a ++ flatK b))[0]? = some (AV.int IntKind.i64 (kX (a ++ b) b_1.i)) ∧ (List.drop (Int.toNat b_1.i * 3) ([] ++ flatK a ++ flatK b))[1]? = some (AV.int
IntKind.i64 (kY (a ++ b) b_1.i)) ∧ (List.drop (Int.toNat b_1.i * 3) ([] ++ flatK a ++ flatK b))[2]? = some (AV.int IntKind.u8 (kQ (a ++ b) b_1.i)) ∧ okL (flatK a) (List.length a) ∧ leb 0 b_1.i = true
∧ ltb b_1.i (↑(0 + List.length a + List.length b) : Int) = true ∧ ltn 0 (Cont.size (Cont.vals ([] ++ flatK a ++ flatK b))) = true ∧ (List.drop (Int.toNat b_1.i * 3) ([] ++ flatK a ++ flatK b))[0]? =
some (AV.int IntKind.i64 (kX (a ++ b) b_1.i)) ∧ (List.drop (Int.toNat b_1.i * 3) ([] ++ flatK a ++ flatK b))[1]? = some (AV.int IntKind.i64 (kY (a ++ b) b_1.i)) ∧ (List.drop (Int.toNat b_1.i * 3) ([]
++ flatK a ++ flatK b))[2]? = some (AV.int IntKind.u8 (kQ (a ++ b) b_1.i)) ∧ okL (flatK b) (List.length b) ∧ inR IntKind.i64 (2 * bI (hasL (unK (flatK b)) (kX (a ++ b) b_1.i, kY (a ++ b) b_1.i, kQ (a
++ b) b_1.i)) 1 0) = true ∧ inR IntKind.i64 (bI (hasL (unK (flatK a)) (kX (a ++ b) b_1.i, kY (a ++ b) b_1.i, kQ (a ++ b) b_1.i)) 1 0 + 2 * bI (hasL (unK (flatK b)) (kX (a ++ b) b_1.i, kY (a ++ b)
b_1.i, kQ (a ++ b) b_1.i)) 1 0) = true ∧ inR IntKind.u64 (bI (hasL (unK (flatK a)) (kX (a ++ b) b_1.i, kY (a ++ b) b_1.i, kQ (a ++ b) b_1.i)) 1 0 + 2 * bI (hasL (unK (flatK b)) (kX (a ++ b) b_1.i, kY
(a ++ b) b_1.i, kQ (a ++ b) b_1.i)) 1 0) = true ∧ leb 0 (bI (hasL (unK (flatK a)) (kX (a ++ b) b_1.i, kY (a ++ b) b_1.i, kQ (a ++ b) b_1.i)) 1 0 + 2 * bI (hasL (unK (flatK b)) (kX (a ++ b) b_1.i, kY
(a ++ b) b_1.i, kQ (a ++ b) b_1.i)) 1 0) = true ∧ ((bitI BinOp.and IntKind.i64 (Int.fdiv m (2 ^ min (Int.toNat (bI (hasL (unK (flatK a)) (kX (a ++ b) b_1.i, kY (a ++ b) b_1.i, kQ (a ++ b) b_1.i)) 1 0
+ 2 * bI (hasL (unK (flatK b)) (kX (a ++ b) b_1.i, kY (a ++ b) b_1.i, kQ (a ++ b) b_1.i)) 1 0)) 64)) 1 == 1) = true → leb 0 b_1.i = true ∧ ltb b_1.i (↑(0 + List.length a + List.length b) : Int) = true
∧ ltn 0 (Cont.size (Cont.vals ([] ++ flatK a ++ flatK b))) = true ∧ (List.drop (Int.toNat b_1.i * 3) ([] ++ flatK a ++ flatK b))[0]? = some (AV.int IntKind.i64 (kX (a ++ b) b_1.i)) ∧ (List.drop
(Int.toNat b_1.i * 3) ([] ++ flatK a ++ flatK b))[1]? = some (AV.int IntKind.i64 (kY (a ++ b) b_1.i)) ∧ (List.drop (Int.toNat b_1.i * 3) ([] ++ flatK a ++ flatK b))[2]? = some (AV.int IntKind.u8 (kQ
(a ++ b) b_1.i)) ∧ okL b_1.o b_1.n ∧ inR IntKind.i64 (b_1.i + 1) = true ∧ 0 + List.length a + List.length b = 0 + List.length a + List.length b ∧ [] ++ flatK a ++ flatK b = [] ++ flatK a ++ flatK b ∧
Cont.vals (flatK a) = Cont.vals (flatK a) ∧ List.length a = List.length a ∧ Cont.vals (flatK b) = Cont.vals (flatK b) ∧ List.length b = List.length b ∧ m = m ∧ Cont.vals (flatK (addL (unK b_1.o) (kX
(a ++ b) b_1.i, kY (a ++ b) b_1.i, kQ (a ++ b) b_1.i))) = Cont.vals (flatK (addL (unK b_1.o) (kX (a ++ b) b_1.i, kY (a ++ b) b_1.i, kQ (a ++ b) b_1.i))) ∧ List.length (addL (unK b_1.o) (kX (a ++ b)
b_1.i, kY (a ++ b) b_1.i, kQ (a ++ b) b_1.i)) = List.length (addL (unK b_1.o) (kX (a ++ b) b_1.i, kY (a ++ b) b_1.i, kQ (a ++ b) b_1.i)) ∧ Cont.vals ([] ++ flatK a ++ flatK b) = Cont.vals ([] ++ flatK
a ++ flatK b) ∧ 0 + List.length a + List.length b = 0 + List.length a + List.length b ∧ b_1.i + 1 = b_1.i + 1 ∧ (∃ (n : Nat), b_1.i + 1 = (↑n : Int) ∧ n ≤ List.length (a ++ b) ∧ flatK (addL (unK
b_1.o) (kX (a ++ b) b_1.i, kY (a ++ b) b_1.i, kQ (a ++ b) b_1.i)) = flatK (whL m a b (List.take n (a ++ b))) ∧ List.length (addL (unK b_1.o) (kX (a ++ b) b_1.i, kY (a ++ b) b_1.i, kQ (a ++ b) b_1.i))
= List.length (whL m a b (List.take n (a ++ b)))) ∧ List.length (a ++ b) - Int.toNat (b_1.i + 1) < List.length (a ++ b) - Int.toNat b_1.i ∧ True) ∧ ((bitI BinOp.and IntKind.i64 (Int.fdiv m (2 ^ min
(Int.toNat (bI (hasL (unK (flatK a)) (kX (a ++ b) b_1.i, kY (a ++ b) b_1.i, kQ (a ++ b) b_1.i)) 1 0 + 2 * bI (hasL (unK (flatK b)) (kX (a ++ b) b_1.i, kY (a ++ b) b_1.i, kQ (a ++ b) b_1.i)) 1 0)) 64))
1 == 1) = false → inR IntKind.i64 (b_1.i + 1) = true ∧ 0 + List.length a + List.length b = 0 + List.length a + List.length b ∧ [] ++ flatK a ++ flatK b = [] ++ flatK a ++ flatK b ∧ Cont.vals (flatK a)
= Cont.vals (flatK a) ∧ List.length a = List.length a ∧ Cont.vals (flatK b) = Cont.vals (flatK b) ∧ List.length b = List.length b ∧ m = m ∧ Cont.vals b_1.o = Cont.vals b_1.o ∧ b_1.n = b_1.n ∧
Cont.vals ([] ++ flatK a ++ flatK b) = Cont.vals ([] ++ flatK a ++ flatK b) ∧ 0 + List.length a + List.length b = 0 + List.length a + List.length b ∧ b_1.i + 1 = b_1.i + 1 ∧ (∃ (n : Nat), b_1.i + 1 =
(↑n : Int) ∧ n ≤ List.length (a ++ b) ∧ b_1.o = flatK (whL m a b (List.take n (a ++ b))) ∧ b_1.n = List.length (whL m a b (List.take n (a ++ b)))) ∧ List.length (a ++ b) - Int.toNat (b_1.i + 1) <
List.length (a ++ b) - Int.toNat b_1.i ∧ True)) ∧ (ltb b_1.i (↑(0 + List.length a + List.length b) : Int) = false → Cont.vals b_1.o = Cont.vals (flatK (whL m a b (a ++ b))) ∧ b_1.n = List.length (whL
m a b (a ++ b)) ∧ True)) := by kernel_rfl

end Go.Proofs.YtmnaghfndigfkaaDoor.X
