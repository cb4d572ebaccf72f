/-
 What is to be shown of the functions (made by a program).
-/
import Derived.Test.YtmnaghfndigfkaaDoorDJZ
import Derived.KernelRfl
set_option maxRecDepth 1000000
set_option linter.unusedVariables false
namespace Go.Proofs.YtmnaghfndigfkaaDoor.X
open Go Go.Ab

theorem ob_o49 (l : List Cl) : fnP (TJ49) G 10000 fe49 (.r [] 0 (.r [] 0 (.r [] 0 (.cnd (.r [] 0 .nil) (.r [] 0 (.cnd (.r [] 0 .nil) (.r [(451, .auto, Dr.val [AV.int IntKind.i64 (kX l 0)]), (455, .auto, Dr.val [AV.int IntKind.i64 (kX l 0)])] 17 (.r [] 0 (.lp (l49 l) [] [] (fun b => (.r [] 0 (.cnd (.r [(641, .auto, Dr.val (kV l b.i))] 64 (.r [] 3 (.r [] 0 .nil))) (.r [(835, .auto, Dr.val [AV.int IntKind.i64 (kY l 0)]), (842, .auto, Dr.val [AV.int IntKind.i64 (kY l ((↑(List.length l) : Int) - 1))])] 1 (.r [] 0 (.cnd (.r [] 0 .nil) (.r [] 0 (.r [] 0 (.r [] 0 (.lp (m49 l) [] [] (fun b_1 => (.r [] 0 (.cnd (.r [(1281, .auto, Dr.val (kV l b_1.i))] 64 (.r [(1365, .auto, Dr.val [AV.int IntKind.u8 (sgn (kQ l b_1.i))])] 1161 (.r [] 0 .nil))) (.r [] 0 .nil))))))))))))))))))))))) ([cls l]) ([.str (txV l), .int .i64 (txE l)]) ([]) = (
(okL (flatK l) (List.length l) ∧ okQ (unK (flatK l))) ∧ ((chkI (unK (flatK l)) != 0) = true → [] = txV l ∧ chkI (unK (flatK l)) = txE l ∧ True) ∧ ((chkI (unK (flatK l)) != 0) = false →
(((↑(List.length l) : Int) == 0) = true → [] = txV l ∧ 0 = txE l ∧ True) ∧ (((↑(List.length l) : Int) == 0) = false → ltb 0 (↑(List.length l) : Int) = true ∧ ltn 0 (Cont.size (Cont.vals (flatK l))) =
true ∧ (List.drop 0 (List.drop 0 (flatK l)))[0]? = some (AV.int IntKind.i64 (kX l 0)) ∧ ltb 0 (↑(List.length l) : Int) = true ∧ ltn 0 (Cont.size (Cont.vals (flatK l))) = true ∧ (List.drop 0 (List.drop
0 (flatK l)))[0]? = some (AV.int IntKind.i64 (kX l 0)) ∧ Cont.vals (flatK l) = Cont.vals (flatK l) ∧ List.length l = List.length l ∧ kX l 0 = kX l 0 ∧ kX l 0 = kX l 0 ∧ Cont.vals (flatK l) = Cont.vals
(flatK l) ∧ List.length l = List.length l ∧ (↑(List.length l) : Int) = (↑(List.length l) : Int) ∧ iI 0 = 0 ∧ (∃ (n : Nat), 0 = (↑n : Int) ∧ n ≤ List.length l ∧ kX l 0 = lftF l n ∧ kX l 0 = rgtF l n) ∧
∀ (b : L49), (∃ (n : Nat), b.i = (↑n : Int) ∧ n ≤ List.length l ∧ b.a = lftF l n ∧ b.b = rgtF l n) → (ltb b.i (↑(List.length l) : Int) = true → leb 0 b.i = true ∧ ltb b.i (↑(List.length l) : Int) =
true ∧ ltn 0 (Cont.size (Cont.vals (flatK l))) = true ∧ (List.drop (Int.toNat b.i * 3) (flatK l))[0]? = some (AV.int IntKind.i64 (kX l b.i)) ∧ (List.drop (Int.toNat b.i * 3) (flatK l))[1]? = some
(AV.int IntKind.i64 (kY l b.i)) ∧ (List.drop (Int.toNat b.i * 3) (flatK l))[2]? = some (AV.int IntKind.u8 (kQ l b.i)) ∧ inR IntKind.i64 (b.i + 1) = true ∧ Cont.vals (flatK l) = Cont.vals (flatK l) ∧
List.length l = List.length l ∧ ((if kX l b.i < b.a then kX l b.i else b.a) = if kX l b.i < b.a then kX l b.i else b.a) ∧ ((if kX l b.i > b.b then kX l b.i else b.b) = if kX l b.i > b.b then kX l b.i
else b.b) ∧ Cont.vals (flatK l) = Cont.vals (flatK l) ∧ List.length l = List.length l ∧ (↑(List.length l) : Int) = (↑(List.length l) : Int) ∧ b.i + 1 = b.i + 1 ∧ (∃ (n : Nat), b.i + 1 = (↑n : Int) ∧ n
≤ List.length l ∧ (if kX l b.i < b.a then kX l b.i else b.a) = lftF l n ∧ (if kX l b.i > b.b then kX l b.i else b.b) = rgtF l n) ∧ List.length l - Int.toNat (b.i + 1) < List.length l - Int.toNat b.i ∧
True) ∧ (ltb b.i (↑(List.length l) : Int) = false → ltb 0 (↑(List.length l) : Int) = true ∧ ltn 0 (Cont.size (Cont.vals (flatK l))) = true ∧ (List.drop 1 (List.drop 0 (flatK l)))[0]? = some (AV.int
IntKind.i64 (kY l 0)) ∧ inR IntKind.i64 ((↑(List.length l) : Int) - 1) = true ∧ leb 0 ((↑(List.length l) : Int) - 1) = true ∧ ltb ((↑(List.length l) : Int) - 1) (↑(List.length l) : Int) = true ∧ ltn 0
(Cont.size (Cont.vals (flatK l))) = true ∧ (List.drop 1 (List.drop (Int.toNat ((↑(List.length l) : Int) - 1) * 3) (flatK l)))[0]? = some (AV.int IntKind.i64 (kY l ((↑(List.length l) : Int) - 1))) ∧
inR IntKind.i64 (b.b - b.a) = true ∧ inR IntKind.i64 (b.b - b.a + 1) = true ∧ inR IntKind.i64 (4 * (b.b - b.a + 1)) = true ∧ inR IntKind.i64 (4 * (b.b - b.a + 1) + 1) = true ∧ inR IntKind.i64 (kY l
((↑(List.length l) : Int) - 1) - kY l 0) = true ∧ inR IntKind.i64 (kY l ((↑(List.length l) : Int) - 1) - kY l 0 + 1) = true ∧ inR IntKind.i64 ((4 * (b.b - b.a + 1) + 1) * (kY l ((↑(List.length l) :
Int) - 1) - kY l 0 + 1)) = true ∧ (ltb 65536 ((4 * (b.b - b.a + 1) + 1) * (kY l ((↑(List.length l) : Int) - 1) - kY l 0 + 1)) = true → [] = txV l ∧ 3 = txE l ∧ True) ∧ (ltb 65536 ((4 * (b.b - b.a + 1)
+ 1) * (kY l ((↑(List.length l) : Int) - 1) - kY l 0 + 1)) = false → inR IntKind.i64 (b.b - b.a) = true ∧ inR IntKind.i64 (b.b - b.a + 1) = true ∧ (0 ≤ b.b - b.a + 1 ∧ b.b - b.a + 1 ≤ 1000000 ∧ 4 *
Int.toNat (b.b - b.a + 1) ≤ 1000000) ∧ len' (List.length (Lib.repeatL [46, 46, 46, 46] (Int.toNat (b.b - b.a + 1))) + 1) 9223372036854775807 = true ∧ inR IntKind.i64 (kY l ((↑(List.length l) : Int) -
1) - kY l 0) = true ∧ inR IntKind.i64 (kY l ((↑(List.length l) : Int) - 1) - kY l 0 + 1) = true ∧ (0 ≤ kY l ((↑(List.length l) : Int) - 1) - kY l 0 + 1 ∧ kY l ((↑(List.length l) : Int) - 1) - kY l 0 +
1 ≤ 1000000 ∧ List.length (Lib.repeatL [46, 46, 46, 46] (Int.toNat (b.b - b.a + 1)) ++ [10]) * Int.toNat (kY l ((↑(List.length l) : Int) - 1) - kY l 0 + 1) ≤ 1000000) ∧ List.length (Lib.repeatL
(Lib.repeatL [46, 46, 46, 46] (Int.toNat (b.b - b.a + 1)) ++ [10]) (Int.toNat (kY l ((↑(List.length l) : Int) - 1) - kY l 0 + 1))) = List.length (bgS l) ∧ List.map (fun (b : UInt8) => (↑(UInt8.toNat
b) : Int)) (Lib.repeatL (Lib.repeatL [46, 46, 46, 46] (Int.toNat (b.b - b.a + 1)) ++ [10]) (Int.toNat (kY l ((↑(List.length l) : Int) - 1) - kY l 0 + 1))) = List.map (fun (b : UInt8) => (↑(UInt8.toNat
b) : Int)) (Lib.repeatL (Lib.repeatL [46, 46, 46, 46] (Int.toNat (b.b - b.a + 1)) ++ [10]) (Int.toNat (kY l ((↑(List.length l) : Int) - 1) - kY l 0 + 1))) ∧ b.a = b.a ∧ ltb b.i (↑(List.length l) :
Int) = ltb b.i (↑(List.length l) : Int) ∧ kY l ((↑(List.length l) : Int) - 1) = kY l ((↑(List.length l) : Int) - 1) ∧ Lib.repeatL [46, 46, 46, 46] (Int.toNat (b.b - b.a + 1)) ++ [10] = Lib.repeatL
[46, 46, 46, 46] (Int.toNat (b.b - b.a + 1)) ++ [10] ∧ List.length (Lib.repeatL (Lib.repeatL [46, 46, 46, 46] (Int.toNat (b.b - b.a + 1)) ++ [10]) (Int.toNat (kY l ((↑(List.length l) : Int) - 1) - kY
l 0 + 1))) = List.length (Lib.repeatL (Lib.repeatL [46, 46, 46, 46] (Int.toNat (b.b - b.a + 1)) ++ [10]) (Int.toNat (kY l ((↑(List.length l) : Int) - 1) - kY l 0 + 1))) ∧ Cont.vals (flatK l) =
Cont.vals (flatK l) ∧ List.length l = List.length l ∧ (↑(List.length l) : Int) = (↑(List.length l) : Int) ∧ iI 0 = 0 ∧ (∃ (n : Nat), 0 = (↑n : Int) ∧ n ≤ List.length l ∧ List.map (fun (b : UInt8) =>
(↑(UInt8.toNat b) : Int)) (Lib.repeatL (Lib.repeatL [46, 46, 46, 46] (Int.toNat (b.b - b.a + 1)) ++ [10]) (Int.toNat (kY l ((↑(List.length l) : Int) - 1) - kY l 0 + 1))) = txF l n) ∧ ∀ (b_1 : M49), (∃
(n : Nat), b_1.i = (↑n : Int) ∧ n ≤ List.length l ∧ b_1.o = txF l n) → (ltb b_1.i (↑(List.length l) : Int) = true → leb 0 b_1.i = true ∧ ltb b_1.i (↑(List.length l) : Int) = true ∧ ltn 0 (Cont.size
(Cont.vals (flatK l))) = true ∧ (List.drop (Int.toNat b_1.i * 3) (flatK l))[0]? = some (AV.int IntKind.i64 (kX l b_1.i)) ∧ (List.drop (Int.toNat b_1.i * 3) (flatK l))[1]? = some (AV.int IntKind.i64
(kY l b_1.i)) ∧ (List.drop (Int.toNat b_1.i * 3) (flatK l))[2]? = some (AV.int IntKind.u8 (kQ l b_1.i)) ∧ inR IntKind.i64 (kY l ((↑(List.length l) : Int) - 1) - kY l b_1.i) = true ∧ inR IntKind.i64
((kY l ((↑(List.length l) : Int) - 1) - kY l b_1.i) * (↑(List.length (Lib.repeatL [46, 46, 46, 46] (Int.toNat (b.b - b.a + 1)) ++ [10])) : Int)) = true ∧ inR IntKind.i64 (kX l b_1.i - b.a) = true ∧
inR IntKind.i64 (4 * (kX l b_1.i - b.a)) = true ∧ inR IntKind.i64 ((kY l ((↑(List.length l) : Int) - 1) - kY l b_1.i) * (↑(List.length (Lib.repeatL [46, 46, 46, 46] (Int.toNat (b.b - b.a + 1)) ++
[10])) : Int) + 4 * (kX l b_1.i - b.a)) = true ∧ inR IntKind.i64 (kQ l b_1.i) = true ∧ inR IntKind.i64 ((kY l ((↑(List.length l) : Int) - 1) - kY l b_1.i) * (↑(List.length (Lib.repeatL [46, 46, 46,
46] (Int.toNat (b.b - b.a + 1)) ++ [10])) : Int) + 4 * (kX l b_1.i - b.a) + kQ l b_1.i) = true ∧ leb 0 (kQ l b_1.i) = true ∧ ltb (kQ l b_1.i) 4 = true ∧ [AV.int IntKind.u8 83, AV.int IntKind.u8 69,
AV.int IntKind.u8 78, AV.int IntKind.u8 87][Int.toNat (kQ l b_1.i)]? = some (AV.int IntKind.u8 (sgn (kQ l b_1.i))) ∧ leb 0 ((kY l ((↑(List.length l) : Int) - 1) - kY l b_1.i) * (↑(List.length
(Lib.repeatL [46, 46, 46, 46] (Int.toNat (b.b - b.a + 1)) ++ [10])) : Int) + 4 * (kX l b_1.i - b.a) + kQ l b_1.i) = true ∧ ltb ((kY l ((↑(List.length l) : Int) - 1) - kY l b_1.i) * (↑(List.length
(Lib.repeatL [46, 46, 46, 46] (Int.toNat (b.b - b.a + 1)) ++ [10])) : Int) + 4 * (kX l b_1.i - b.a) + kQ l b_1.i) (↑(List.length (Lib.repeatL (Lib.repeatL [46, 46, 46, 46] (Int.toNat (b.b - b.a + 1))
++ [10]) (Int.toNat (kY l ((↑(List.length l) : Int) - 1) - kY l 0 + 1)))) : Int) = true ∧ List.length (bgS l) = List.length (Lib.repeatL (Lib.repeatL [46, 46, 46, 46] (Int.toNat (b.b - b.a + 1)) ++
[10]) (Int.toNat (kY l ((↑(List.length l) : Int) - 1) - kY l 0 + 1))) ∧ List.length (bgS l) = List.length (Lib.repeatL (Lib.repeatL [46, 46, 46, 46] (Int.toNat (b.b - b.a + 1)) ++ [10]) (Int.toNat (kY
l ((↑(List.length l) : Int) - 1) - kY l 0 + 1))) ∧ len' (Int.toNat ((kY l ((↑(List.length l) : Int) - 1) - kY l b_1.i) * (↑(List.length (Lib.repeatL [46, 46, 46, 46] (Int.toNat (b.b - b.a + 1)) ++
[10])) : Int) + 4 * (kX l b_1.i - b.a) + kQ l b_1.i) + 1) (Cont.size (Cont.ints IntKind.u8 b_1.o)) = true ∧ inR IntKind.i64 (b_1.i + 1) = true ∧ List.length (bgS l) = List.length (bgS l) ∧ List.set
b_1.o (Int.toNat ((kY l ((↑(List.length l) : Int) - 1) - kY l b_1.i) * (↑(List.length (Lib.repeatL [46, 46, 46, 46] (Int.toNat (b.b - b.a + 1)) ++ [10])) : Int) + 4 * (kX l b_1.i - b.a) + kQ l b_1.i))
(sgn (kQ l b_1.i)) = List.set b_1.o (Int.toNat ((kY l ((↑(List.length l) : Int) - 1) - kY l b_1.i) * (↑(List.length (Lib.repeatL [46, 46, 46, 46] (Int.toNat (b.b - b.a + 1)) ++ [10])) : Int) + 4 * (kX
l b_1.i - b.a) + kQ l b_1.i)) (sgn (kQ l b_1.i)) ∧ b.a = b.a ∧ ltb b.i (↑(List.length l) : Int) = ltb b.i (↑(List.length l) : Int) ∧ kY l ((↑(List.length l) : Int) - 1) = kY l ((↑(List.length l) :
Int) - 1) ∧ Lib.repeatL [46, 46, 46, 46] (Int.toNat (b.b - b.a + 1)) ++ [10] = Lib.repeatL [46, 46, 46, 46] (Int.toNat (b.b - b.a + 1)) ++ [10] ∧ List.length (Lib.repeatL (Lib.repeatL [46, 46, 46, 46]
(Int.toNat (b.b - b.a + 1)) ++ [10]) (Int.toNat (kY l ((↑(List.length l) : Int) - 1) - kY l 0 + 1))) = List.length (Lib.repeatL (Lib.repeatL [46, 46, 46, 46] (Int.toNat (b.b - b.a + 1)) ++ [10])
(Int.toNat (kY l ((↑(List.length l) : Int) - 1) - kY l 0 + 1))) ∧ Cont.vals (flatK l) = Cont.vals (flatK l) ∧ List.length l = List.length l ∧ (↑(List.length l) : Int) = (↑(List.length l) : Int) ∧
b_1.i + 1 = b_1.i + 1 ∧ (∃ (n : Nat), b_1.i + 1 = (↑n : Int) ∧ n ≤ List.length l ∧ List.set b_1.o (Int.toNat ((kY l ((↑(List.length l) : Int) - 1) - kY l b_1.i) * (↑(List.length (Lib.repeatL [46, 46,
46, 46] (Int.toNat (b.b - b.a + 1)) ++ [10])) : Int) + 4 * (kX l b_1.i - b.a) + kQ l b_1.i)) (sgn (kQ l b_1.i)) = txF l n) ∧ List.length l - Int.toNat (b_1.i + 1) < List.length l - Int.toNat b_1.i ∧
True) ∧ (ltb b_1.i (↑(List.length l) : Int) = false → List.length (bgS l) = List.length (Lib.repeatL (Lib.repeatL [46, 46, 46, 46] (Int.toNat (b.b - b.a + 1)) ++ [10]) (Int.toNat (kY l ((↑(List.length
l) : Int) - 1) - kY l 0 + 1))) ∧ bytesI b_1.o = txV l ∧ 0 = txE l ∧ True)))))) := by kernel_rfl

end Go.Proofs.YtmnaghfndigfkaaDoor.X
