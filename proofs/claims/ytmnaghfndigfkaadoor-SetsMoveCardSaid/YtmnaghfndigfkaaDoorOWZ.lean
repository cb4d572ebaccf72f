/-
 What is to be shown of the functions (made by a program).
-/
import Derived.Test.YtmnaghfndigfkaaDoorDWZ
import Derived.KernelRfl
set_option maxRecDepth 1000000
set_option linter.unusedVariables false
namespace Go.Proofs.YtmnaghfndigfkaaDoor.X
open Go Go.Ab

theorem ob_o9 (t a b : Int) (l : List Cl) : fnP (TW9) G 10000 fe9 (.r [] 0 (.jn (s9 (sOf l)) [1] [] (.r [] 0 .nil) (fun b_1 => (.r [] 13 (.r [] 1 (.cnd (.r [yL 323, yL 324, yL 325, yL 326, yL 328] 478 .nil) (.r [] 1 (.r [] 0 (.lp (l9 (wan t a b (sOf l))) [] [] (fun b_2 => (.r [] 0 (.cnd (.r [(643, .auto, Dr.val (kV (wan t a b (sOf l)) b_2.i))] 64 (.cnd (.r [yL 707, yL 708, yL 709, yL 710, yL 712] 478 .nil) (.r [] 0 .nil))) (.r [] 6 (.r [] 6 (.r [yL 899, yL 900, yL 901, yL 902, yL 903, yL 905, yL 906, yL 907, yL 908, yL 909, yL 910, yL 912, yL 913, yL 914, yL 916, yL 917, yL 918, yL 920, yL 921, yL 922, yL 923, yL 925] 2008792950 .nil))))))))))))))) ([.agg [.int .u8 t, .int .i64 a, .int .i64 b], rwS l]) ([.bool true]) ([]) = (
((flatS l = flatS (unS (flatS l)) ∧ List.length l = List.length (unS (flatS l)) ∧ rawP (unS (flatS l))) ∧ 1 = 1 ∧ t = t ∧ a = a ∧ b = b ∧ 0 = 0 ∧ Cont.vals (flatK (sOf (unS (flatS l)))) = Cont.vals
(flatK (sOf (unS (flatS l)))) ∧ List.length (sOf (unS (flatS l))) = List.length (sOf (unS (flatS l))) ∧ (flatK (sOf (unS (flatS l))) = flatK (sOf l) ∧ List.length (sOf (unS (flatS l))) = List.length
(sOf l)) ∧ True) ∧ ∀ (b_1 : S9), b_1.a = flatK (sOf l) ∧ b_1.n = List.length (sOf l) → ((0 ≤ t ∧ t ≤ 255) ∧ okL b_1.a b_1.n ∧ okQ (unK b_1.a)) ∧ (0 ≤ t ∧ t ≤ 255) ∧ ((bI (mvV t a b) 1 0 == 0) = true →
(mvE t a b (unK b_1.a) == 1) = true ∧ ((↑(List.length (mvR t a b (unK b_1.a))) : Int) == 0) = true ∧ true = true ∧ True) ∧ ((bI (mvV t a b) 1 0 == 0) = false → (mvO t a b ∧ okL b_1.a b_1.n ∧ vlM (unK
b_1.a)) ∧ 1 = 1 ∧ t = t ∧ a = a ∧ b = b ∧ Cont.vals b_1.a = Cont.vals b_1.a ∧ b_1.n = b_1.n ∧ Cont.vals (flatK (mvR t a b (unK b_1.a))) = Cont.vals (flatK (mvR t a b (unK b_1.a))) ∧ List.length (mvR t
a b (unK b_1.a)) = List.length (mvR t a b (unK b_1.a)) ∧ List.length (mvR t a b (unK b_1.a)) = List.length (mvR t a b (unK b_1.a)) ∧ mvE t a b (unK b_1.a) = mvE t a b (unK b_1.a) ∧ Cont.vals (flatK
(ofL (mvL t a b (unK b_1.a)))) = Cont.vals (flatK (ofL (mvL t a b (unK b_1.a)))) ∧ List.length (ofL (mvL t a b (unK b_1.a))) = List.length (ofL (mvL t a b (unK b_1.a))) ∧ iI 0 = 0 ∧ (∃ (n : Nat), 0 =
(↑n : Int) ∧ n ≤ List.length (wan t a b (sOf l)) ∧ alB (List.take n (wan t a b (sOf l))) = true) ∧ ∀ (b_2 : L1), (∃ (n : Nat), b_2.i = (↑n : Int) ∧ n ≤ List.length (wan t a b (sOf l)) ∧ alB (List.take
n (wan t a b (sOf l))) = true) → (ltb b_2.i (↑(List.length (ofL (mvL t a b (unK b_1.a)))) : Int) = true → leb 0 b_2.i = true ∧ ltb b_2.i (↑(List.length (ofL (mvL t a b (unK b_1.a)))) : Int) = true ∧
ltn 0 (Cont.size (Cont.vals (flatK (ofL (mvL t a b (unK b_1.a)))))) = true ∧ (List.drop (Int.toNat b_2.i * 3) (flatK (ofL (mvL t a b (unK b_1.a)))))[0]? = some (AV.int IntKind.i64 (kX (wan t a b (sOf
l)) b_2.i)) ∧ (List.drop (Int.toNat b_2.i * 3) (flatK (ofL (mvL t a b (unK b_1.a)))))[1]? = some (AV.int IntKind.i64 (kY (wan t a b (sOf l)) b_2.i)) ∧ (List.drop (Int.toNat b_2.i * 3) (flatK (ofL (mvL
t a b (unK b_1.a)))))[2]? = some (AV.int IntKind.u8 (kQ (wan t a b (sOf l)) b_2.i)) ∧ ((bI (vldC (kX (wan t a b (sOf l)) b_2.i, kY (wan t a b (sOf l)) b_2.i, kQ (wan t a b (sOf l)) b_2.i)) 1 0 == 0) =
true → (mvE t a b (unK b_1.a) == 3) = true ∧ ((↑(List.length (mvR t a b (unK b_1.a))) : Int) == 0) = true ∧ true = true ∧ True) ∧ ((bI (vldC (kX (wan t a b (sOf l)) b_2.i, kY (wan t a b (sOf l))
b_2.i, kQ (wan t a b (sOf l)) b_2.i)) 1 0 == 0) = false → inR IntKind.i64 (b_2.i + 1) = true ∧ 1 = 1 ∧ t = t ∧ a = a ∧ b = b ∧ Cont.vals b_1.a = Cont.vals b_1.a ∧ b_1.n = b_1.n ∧ Cont.vals (flatK (mvR
t a b (unK b_1.a))) = Cont.vals (flatK (mvR t a b (unK b_1.a))) ∧ List.length (mvR t a b (unK b_1.a)) = List.length (mvR t a b (unK b_1.a)) ∧ List.length (mvR t a b (unK b_1.a)) = List.length (mvR t a
b (unK b_1.a)) ∧ mvE t a b (unK b_1.a) = mvE t a b (unK b_1.a) ∧ Cont.vals (flatK (ofL (mvL t a b (unK b_1.a)))) = Cont.vals (flatK (ofL (mvL t a b (unK b_1.a)))) ∧ List.length (ofL (mvL t a b (unK
b_1.a))) = List.length (ofL (mvL t a b (unK b_1.a))) ∧ b_2.i + 1 = b_2.i + 1 ∧ (∃ (n : Nat), b_2.i + 1 = (↑n : Int) ∧ n ≤ List.length (wan t a b (sOf l)) ∧ alB (List.take n (wan t a b (sOf l))) =
true) ∧ List.length (wan t a b (sOf l)) - Int.toNat (b_2.i + 1) < List.length (wan t a b (sOf l)) - Int.toNat b_2.i ∧ True)) ∧ (ltb b_2.i (↑(List.length (ofL (mvL t a b (unK b_1.a)))) : Int) = false →
(okL b_1.a b_1.n ∧ okQ (unK b_1.a)) ∧ (okL (flatK (mvR t a b (unK b_1.a))) (List.length (mvR t a b (unK b_1.a))) ∧ okQ (unK (flatK (mvR t a b (unK b_1.a))))) ∧ (mvE t a b (unK b_1.a) == 0) = true ∧
(okL (flatK (mvR t a b (unK b_1.a))) (List.length (mvR t a b (unK b_1.a))) ∧ okL (flatK (ofL (mvL t a b (unK b_1.a)))) (List.length (ofL (mvL t a b (unK b_1.a))))) ∧ (bI (Nat.beq (List.length (mvR t a
b (unK b_1.a))) (List.length (mvR t a b (unK b_1.a))) && eqLC (unK (flatK (mvR t a b (unK b_1.a)))) (unK (flatK (ofL (mvL t a b (unK b_1.a)))))) 1 0 == 1) = true ∧ ((↑(List.length (mvR t a b (unK
b_1.a))) : Int) == (↑b_1.n : Int)) = true ∧ (chkI (unK b_1.a) == 0) = true ∧ (chkI (unK (flatK (mvR t a b (unK b_1.a)))) == 0) = true ∧ (cnX (unK b_1.a) == cnX (unK (flatK (mvR t a b (unK b_1.a))))) =
true ∧ true = true ∧ True))) := by kernel_rfl

end Go.Proofs.YtmnaghfndigfkaaDoor.X
