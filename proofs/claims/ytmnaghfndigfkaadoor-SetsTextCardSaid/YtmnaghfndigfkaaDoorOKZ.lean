/-
 What is to be shown of the functions (made by a program).
-/
import Derived.Test.YtmnaghfndigfkaaDoorDKZ
import Derived.KernelRfl
set_option maxRecDepth 1000000
set_option linter.unusedVariables false
namespace Go.Proofs.YtmnaghfndigfkaaDoor.X
open Go Go.Ab

theorem ob_o102 (l : List Cl) : fnP (T0) G 10000 fe102 (.r [] 0 (.r [] 0 (.r [] 0 (.lp (l102 l) [] [] (fun b => (.r [] 0 (.cnd (.r [] 0 (.cnd (.r [(451, .auto, Dr.val [AV.int IntKind.i64 (kX l 0)]), (455, .auto, Dr.val [AV.int IntKind.i64 (kX l 0)]), (459, .auto, Dr.val [AV.int IntKind.i64 (kY l 0)]), (463, .auto, Dr.val [AV.int IntKind.i64 (kY l 0)])] 4369 (.r [(517, .auto, Dr.val [AV.int IntKind.i64 (kX l b.i)]), (524, .auto, Dr.val [AV.int IntKind.i64 (kX l b.i)])] 0 (.r [(581, .auto, Dr.val [AV.int IntKind.i64 (kY l b.i)]), (588, .auto, Dr.val [AV.int IntKind.i64 (kY l b.i)])] 0 (.r [] 0 .nil)))) (.r [(517, .auto, Dr.val [AV.int IntKind.i64 (kX l b.i)]), (524, .auto, Dr.val [AV.int IntKind.i64 (kX l b.i)])] 0 (.r [(581, .auto, Dr.val [AV.int IntKind.i64 (kY l b.i)]), (588, .auto, Dr.val [AV.int IntKind.i64 (kY l b.i)])] 0 (.r [] 0 .nil))))) (.r [] 0 .nil)))))))) ([cls l]) ([.int .i64 (boA l), .int .i64 (boB l), .int .i64 (boC l), .int .i64 (boD l)]) ([]) = (
Cont.vals (flatK l) = Cont.vals (flatK l) ∧ List.length l = List.length l ∧ iI 0 = 0 ∧ iI (-1) = -1 ∧ iI 0 = 0 ∧ iI (-1) = -1 ∧ iI 0 = 0 ∧ (∃ (n : Nat), 0 = (↑n : Int) ∧ n ≤ List.length l ∧ 0 = bxA l
n ∧ -1 = bxR l n ∧ 0 = bxC l n ∧ -1 = bxD l n) ∧ ∀ (b : L102), (∃ (n : Nat), b.i = (↑n : Int) ∧ n ≤ List.length l ∧ b.a = bxA l n ∧ b.b = bxR l n ∧ b.c = bxC l n ∧ b.d = bxD l n) → (ltb b.i
(↑(List.length l) : Int) = true → ((b.i == 0) = true → ltb 0 (↑(List.length l) : Int) = true ∧ ltn 0 (Cont.size (Cont.vals (flatK l))) = true ∧ (List.drop 0 (List.drop 0 (flatK l)))[0]? = some (AV.int
IntKind.i64 (kX l 0)) ∧ ltb 0 (↑(List.length l) : Int) = true ∧ ltn 0 (Cont.size (Cont.vals (flatK l))) = true ∧ (List.drop 0 (List.drop 0 (flatK l)))[0]? = some (AV.int IntKind.i64 (kX l 0)) ∧ ltb 0
(↑(List.length l) : Int) = true ∧ ltn 0 (Cont.size (Cont.vals (flatK l))) = true ∧ (List.drop 1 (List.drop 0 (flatK l)))[0]? = some (AV.int IntKind.i64 (kY l 0)) ∧ ltb 0 (↑(List.length l) : Int) =
true ∧ ltn 0 (Cont.size (Cont.vals (flatK l))) = true ∧ (List.drop 1 (List.drop 0 (flatK l)))[0]? = some (AV.int IntKind.i64 (kY l 0)) ∧ leb 0 b.i = true ∧ ltb b.i (↑(List.length l) : Int) = true ∧
ltn 0 (Cont.size (Cont.vals (flatK l))) = true ∧ (List.drop 0 (List.drop (Int.toNat b.i * 3) (flatK l)))[0]? = some (AV.int IntKind.i64 (kX l b.i)) ∧ leb 0 b.i = true ∧ ltb b.i (↑(List.length l) :
Int) = true ∧ ltn 0 (Cont.size (Cont.vals (flatK l))) = true ∧ (List.drop 0 (List.drop (Int.toNat b.i * 3) (flatK l)))[0]? = some (AV.int IntKind.i64 (kX l b.i)) ∧ leb 0 b.i = true ∧ ltb b.i
(↑(List.length l) : Int) = true ∧ ltn 0 (Cont.size (Cont.vals (flatK l))) = true ∧ (List.drop 1 (List.drop (Int.toNat b.i * 3) (flatK l)))[0]? = some (AV.int IntKind.i64 (kY l b.i)) ∧ leb 0 b.i = true
∧ ltb b.i (↑(List.length l) : Int) = true ∧ ltn 0 (Cont.size (Cont.vals (flatK l))) = true ∧ (List.drop 1 (List.drop (Int.toNat b.i * 3) (flatK l)))[0]? = some (AV.int IntKind.i64 (kY l b.i)) ∧ inR
IntKind.i64 (b.i + 1) = true ∧ Cont.vals (flatK l) = Cont.vals (flatK l) ∧ List.length l = List.length l ∧ ((if kX l b.i < kX l 0 then kX l b.i else kX l 0) = if kX l b.i < kX l 0 then kX l b.i else
kX l 0) ∧ ((if kX l b.i > kX l 0 then kX l b.i else kX l 0) = if kX l b.i > kX l 0 then kX l b.i else kX l 0) ∧ ((if kY l b.i < kY l 0 then kY l b.i else kY l 0) = if kY l b.i < kY l 0 then kY l b.i
else kY l 0) ∧ ((if kY l b.i > kY l 0 then kY l b.i else kY l 0) = if kY l b.i > kY l 0 then kY l b.i else kY l 0) ∧ b.i + 1 = b.i + 1 ∧ (∃ (n : Nat), b.i + 1 = (↑n : Int) ∧ n ≤ List.length l ∧ (if kX
l b.i < kX l 0 then kX l b.i else kX l 0) = bxA l n ∧ (if kX l b.i > kX l 0 then kX l b.i else kX l 0) = bxR l n ∧ (if kY l b.i < kY l 0 then kY l b.i else kY l 0) = bxC l n ∧ (if kY l b.i > kY l 0
then kY l b.i else kY l 0) = bxD l n) ∧ List.length l - Int.toNat (b.i + 1) < List.length l - Int.toNat b.i ∧ True) ∧ ((b.i == 0) = false → leb 0 b.i = true ∧ ltb b.i (↑(List.length l) : Int) = true ∧
ltn 0 (Cont.size (Cont.vals (flatK l))) = true ∧ (List.drop 0 (List.drop (Int.toNat b.i * 3) (flatK l)))[0]? = some (AV.int IntKind.i64 (kX l b.i)) ∧ leb 0 b.i = true ∧ ltb b.i (↑(List.length l) :
Int) = true ∧ ltn 0 (Cont.size (Cont.vals (flatK l))) = true ∧ (List.drop 0 (List.drop (Int.toNat b.i * 3) (flatK l)))[0]? = some (AV.int IntKind.i64 (kX l b.i)) ∧ leb 0 b.i = true ∧ ltb b.i
(↑(List.length l) : Int) = true ∧ ltn 0 (Cont.size (Cont.vals (flatK l))) = true ∧ (List.drop 1 (List.drop (Int.toNat b.i * 3) (flatK l)))[0]? = some (AV.int IntKind.i64 (kY l b.i)) ∧ leb 0 b.i = true
∧ ltb b.i (↑(List.length l) : Int) = true ∧ ltn 0 (Cont.size (Cont.vals (flatK l))) = true ∧ (List.drop 1 (List.drop (Int.toNat b.i * 3) (flatK l)))[0]? = some (AV.int IntKind.i64 (kY l b.i)) ∧ inR
IntKind.i64 (b.i + 1) = true ∧ Cont.vals (flatK l) = Cont.vals (flatK l) ∧ List.length l = List.length l ∧ ((if kX l b.i < b.a then kX l b.i else b.a) = if kX l b.i < b.a then kX l b.i else b.a) ∧
((if kX l b.i > b.b then kX l b.i else b.b) = if kX l b.i > b.b then kX l b.i else b.b) ∧ ((if kY l b.i < b.c then kY l b.i else b.c) = if kY l b.i < b.c then kY l b.i else b.c) ∧ ((if kY l b.i > b.d
then kY l b.i else b.d) = if kY l b.i > b.d then kY l b.i else b.d) ∧ b.i + 1 = b.i + 1 ∧ (∃ (n : Nat), b.i + 1 = (↑n : Int) ∧ n ≤ List.length l ∧ (if kX l b.i < b.a then kX l b.i else b.a) = bxA l n
∧ (if kX l b.i > b.b then kX l b.i else b.b) = bxR l n ∧ (if kY l b.i < b.c then kY l b.i else b.c) = bxC l n ∧ (if kY l b.i > b.d then kY l b.i else b.d) = bxD l n) ∧ List.length l - Int.toNat (b.i +
1) < List.length l - Int.toNat b.i ∧ True)) ∧ (ltb b.i (↑(List.length l) : Int) = false → b.a = boA l ∧ b.b = boB l ∧ b.c = boC l ∧ b.d = boD l ∧ True)) := by kernel_rfl

theorem ob_o50 (l : List Cl) : fnP (TK50) G 10000 fe50 (.r [] 0 (.r [] 30 (.r [] 0 .nil))) ([cls l]) ([.int .i64 (siz l)]) ([]) = (
okL (flatK l) (List.length l) ∧ inR IntKind.i64 (boB (unK (flatK l)) - boA (unK (flatK l))) = true ∧ inR IntKind.i64 (boB (unK (flatK l)) - boA (unK (flatK l)) + 1) = true ∧ inR IntKind.i64 (4 * (boB
(unK (flatK l)) - boA (unK (flatK l)) + 1)) = true ∧ inR IntKind.i64 (4 * (boB (unK (flatK l)) - boA (unK (flatK l)) + 1) + 1) = true ∧ inR IntKind.i64 (boD (unK (flatK l)) - boC (unK (flatK l))) =
true ∧ inR IntKind.i64 (boD (unK (flatK l)) - boC (unK (flatK l)) + 1) = true ∧ inR IntKind.i64 ((4 * (boB (unK (flatK l)) - boA (unK (flatK l)) + 1) + 1) * (boD (unK (flatK l)) - boC (unK (flatK l))
+ 1)) = true ∧ (4 * (boB (unK (flatK l)) - boA (unK (flatK l)) + 1) + 1) * (boD (unK (flatK l)) - boC (unK (flatK l)) + 1) = siz l ∧ True) := by kernel_rfl

theorem ob_o51 (l : List Cl) : fnP (TK50) G 10000 fe51 (.r [] 0 (.r [] 30 (.r [] 0 (.r [] 0 (.gho 7 9001 1 (Cont.ints IntKind.u8 []) (.lp (l51 l) [] [] (fun b => (.r [] 0 (.cnd (.r [] 0 (.lp (m51 l b.i b.o) [] [] (fun b_1 => (.r [] 0 (.cnd (.r [] 0 (.lp (n51 l b_1.i b.i b_1.o) [] [] (fun b_2 => (.r [] 0 (.cnd (.r [] 0 (.r [] 0 (.cnd (.r [(961, .auto, Dr.val [AV.int IntKind.u8 (sgn b_2.i)])] 0 (.r [] 4 (.r [] 0 .nil))) (.r [] 4 (.r [] 0 .nil))))) (.r [] 0 .nil)))))) (.r [] 4 (.r [] 0 .nil))))))) (.r [] 0 .nil)))))))))) ([cls l]) ([.str (bytesI (rfT l))]) ([]) = (
okL (flatK l) (List.length l) ∧ 0 = 0 ∧ iL [] = [] ∧ Cont.vals (flatK l) = Cont.vals (flatK l) ∧ List.length l = List.length l ∧ boA (unK (flatK l)) = boA (unK (flatK l)) ∧ boB (unK (flatK l)) = boB
(unK (flatK l)) ∧ boC (unK (flatK l)) = boC (unK (flatK l)) ∧ 0 = 0 ∧ boD (unK (flatK l)) = boD (unK (flatK l)) ∧ (∃ (h : Nat), boD (unK (flatK l)) = boD l - (↑h : Int) ∧ (↑h : Int) ≤ (↑(Int.toNat
(boD l - boC l + 1)) : Int) ∧ [] = rtT l (boA l) (boD l) (Int.toNat (boB l - boA l + 1)) h ∧ 0 = 0) ∧ ∀ (b : L51), (∃ (h : Nat), b.i = boD l - (↑h : Int) ∧ (↑h : Int) ≤ (↑(Int.toNat (boD l - boC l +
1)) : Int) ∧ b.o = rtT l (boA l) (boD l) (Int.toNat (boB l - boA l + 1)) h ∧ b.n = List.length b.o) → (leb (boC (unK (flatK l))) b.i = true → b.n = b.n ∧ b.o = b.o ∧ Cont.vals (flatK l) = Cont.vals
(flatK l) ∧ List.length l = List.length l ∧ boA (unK (flatK l)) = boA (unK (flatK l)) ∧ boB (unK (flatK l)) = boB (unK (flatK l)) ∧ boC (unK (flatK l)) = boC (unK (flatK l)) ∧ b.n = b.n ∧ b.i = b.i ∧
boA (unK (flatK l)) = boA (unK (flatK l)) ∧ (∃ (m : Nat), boA (unK (flatK l)) = boA l + (↑m : Int) ∧ (↑m : Int) ≤ (↑(Int.toNat (boB l - boA l + 1)) : Int) ∧ b.o = b.o ++ rtR l (boA l) b.i m ∧ b.n =
List.length b.o) ∧ ∀ (b_1 : L51), (∃ (m : Nat), b_1.i = boA l + (↑m : Int) ∧ (↑m : Int) ≤ (↑(Int.toNat (boB l - boA l + 1)) : Int) ∧ b_1.o = b.o ++ rtR l (boA l) b.i m ∧ b_1.n = List.length b_1.o) →
(leb b_1.i (boB (unK (flatK l))) = true → b_1.n = b_1.n ∧ b_1.o = b_1.o ∧ Cont.vals (flatK l) = Cont.vals (flatK l) ∧ List.length l = List.length l ∧ boA (unK (flatK l)) = boA (unK (flatK l)) ∧ boB
(unK (flatK l)) = boB (unK (flatK l)) ∧ boC (unK (flatK l)) = boC (unK (flatK l)) ∧ b_1.n = b_1.n ∧ b.i = b.i ∧ b_1.i = b_1.i ∧ iI 0 = 0 ∧ (∃ (k : Nat), 0 = (↑k : Int) ∧ k ≤ 4 ∧ b_1.o = b_1.o ++ rt4 l
b_1.i b.i k ∧ b_1.n = List.length b_1.o) ∧ ∀ (b_2 : L51), (∃ (k : Nat), b_2.i = (↑k : Int) ∧ k ≤ 4 ∧ b_2.o = b_1.o ++ rt4 l b_1.i b.i k ∧ b_2.n = List.length b_2.o) → (ltb b_2.i 4 = true → okL (flatK
l) (List.length l) ∧ ((bI (hasL (unK (flatK l)) (b_1.i, b.i, b_2.i)) 1 0 == 1) = true → leb 0 b_2.i = true ∧ ltb b_2.i 4 = true ∧ b_2.n = b_2.n ∧ len' ((b_2.n + 1) * 1) 140737488355328 = true ∧ inR
IntKind.u8 (b_2.i + 1) = true ∧ b_2.n + 1 = b_2.n + 1 ∧ b_2.o ++ [(↑(UInt8.toNat (List.getD [83, 69, 78, 87] (Int.toNat b_2.i) 0)) : Int)] = b_2.o ++ [(↑(UInt8.toNat (List.getD [83, 69, 78, 87]
(Int.toNat b_2.i) 0)) : Int)] ∧ Cont.vals (flatK l) = Cont.vals (flatK l) ∧ List.length l = List.length l ∧ boA (unK (flatK l)) = boA (unK (flatK l)) ∧ boB (unK (flatK l)) = boB (unK (flatK l)) ∧ boC
(unK (flatK l)) = boC (unK (flatK l)) ∧ b_2.n + 1 = b_2.n + 1 ∧ b.i = b.i ∧ b_1.i = b_1.i ∧ b_2.i + 1 = b_2.i + 1 ∧ (∃ (k : Nat), b_2.i + 1 = (↑k : Int) ∧ k ≤ 4 ∧ b_2.o ++ [(↑(UInt8.toNat (List.getD
[83, 69, 78, 87] (Int.toNat b_2.i) 0)) : Int)] = b_1.o ++ rt4 l b_1.i b.i k ∧ b_2.n + 1 = List.length (b_2.o ++ [(↑(UInt8.toNat (List.getD [83, 69, 78, 87] (Int.toNat b_2.i) 0)) : Int)])) ∧ 4 -
Int.toNat (b_2.i + 1) < 4 - Int.toNat b_2.i ∧ True) ∧ ((bI (hasL (unK (flatK l)) (b_1.i, b.i, b_2.i)) 1 0 == 1) = false → b_2.n = b_2.n ∧ len' ((b_2.n + 1) * 1) 140737488355328 = true ∧ inR IntKind.u8
(b_2.i + 1) = true ∧ b_2.n + 1 = b_2.n + 1 ∧ b_2.o ++ [46] = b_2.o ++ [46] ∧ Cont.vals (flatK l) = Cont.vals (flatK l) ∧ List.length l = List.length l ∧ boA (unK (flatK l)) = boA (unK (flatK l)) ∧ boB
(unK (flatK l)) = boB (unK (flatK l)) ∧ boC (unK (flatK l)) = boC (unK (flatK l)) ∧ b_2.n + 1 = b_2.n + 1 ∧ b.i = b.i ∧ b_1.i = b_1.i ∧ b_2.i + 1 = b_2.i + 1 ∧ (∃ (k : Nat), b_2.i + 1 = (↑k : Int) ∧ k
≤ 4 ∧ b_2.o ++ [46] = b_1.o ++ rt4 l b_1.i b.i k ∧ b_2.n + 1 = List.length (b_2.o ++ [46])) ∧ 4 - Int.toNat (b_2.i + 1) < 4 - Int.toNat b_2.i ∧ True)) ∧ (ltb b_2.i 4 = false → inR IntKind.i64 (b_1.i +
1) = true ∧ b_2.n = b_2.n ∧ b_2.o = b_2.o ∧ Cont.vals (flatK l) = Cont.vals (flatK l) ∧ List.length l = List.length l ∧ boA (unK (flatK l)) = boA (unK (flatK l)) ∧ boB (unK (flatK l)) = boB (unK
(flatK l)) ∧ boC (unK (flatK l)) = boC (unK (flatK l)) ∧ b_2.n = b_2.n ∧ b.i = b.i ∧ b_1.i + 1 = b_1.i + 1 ∧ (∃ (m : Nat), b_1.i + 1 = boA l + (↑m : Int) ∧ (↑m : Int) ≤ (↑(Int.toNat (boB l - boA l +
1)) : Int) ∧ b_2.o = b.o ++ rtR l (boA l) b.i m ∧ b_2.n = List.length b_2.o) ∧ Int.toNat (boB l - (b_1.i + 1) + 1) < Int.toNat (boB l - b_1.i + 1) ∧ True)) ∧ (leb b_1.i (boB (unK (flatK l))) = false →
b_1.n = b_1.n ∧ len' ((b_1.n + 1) * 1) 140737488355328 = true ∧ inR IntKind.i64 (b.i - 1) = true ∧ b_1.n + 1 = b_1.n + 1 ∧ b_1.o ++ [10] = b_1.o ++ [10] ∧ Cont.vals (flatK l) = Cont.vals (flatK l) ∧
List.length l = List.length l ∧ boA (unK (flatK l)) = boA (unK (flatK l)) ∧ boB (unK (flatK l)) = boB (unK (flatK l)) ∧ boC (unK (flatK l)) = boC (unK (flatK l)) ∧ b_1.n + 1 = b_1.n + 1 ∧ b.i - 1 =
b.i - 1 ∧ (∃ (h : Nat), b.i - 1 = boD l - (↑h : Int) ∧ (↑h : Int) ≤ (↑(Int.toNat (boD l - boC l + 1)) : Int) ∧ b_1.o ++ [10] = rtT l (boA l) (boD l) (Int.toNat (boB l - boA l + 1)) h ∧ b_1.n + 1 =
List.length (b_1.o ++ [10])) ∧ Int.toNat (b.i - 1 - boC l + 1) < Int.toNat (b.i - boC l + 1) ∧ True)) ∧ (leb (boC (unK (flatK l))) b.i = false → b.n = b.n ∧ bytesI b.o = bytesI (rfT l) ∧ True)) := by kernel_rfl

end Go.Proofs.YtmnaghfndigfkaaDoor.X
