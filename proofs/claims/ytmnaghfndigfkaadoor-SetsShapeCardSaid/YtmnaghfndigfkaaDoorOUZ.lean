/-
 What is to be shown of the functions (made by a program).
-/
import Derived.Test.YtmnaghfndigfkaaDoorDUZ
import Derived.KernelRfl
set_option maxRecDepth 1000000
set_option linter.unusedVariables false
namespace Go.Proofs.YtmnaghfndigfkaaDoor.X
open Go Go.Ab

theorem ob_o10 (l : List Cl) : fnP (TU10) G 10000 fe10 (.r [] 0 (.jn (s10 (sOf l)) [0] [] (.r [] 0 .nil) (fun b => (.r [] 6 (.r [] 6 (.r [] 6 (.r [] 0 (.jn (jN) [4, 5, 7, 9] [] (.rs 45 [yL 451, yL 452, yL 453, yL 455, yL 456, yL 457, yL 459, yL 460, yL 461, yL 462, yL 463, yL 464, yL 466, yL 467, yL 468, yL 469, yL 470, yL 471, yL 473, yL 474, yL 475, yL 476, yL 477, yL 478, yL 480, yL 481, yL 482, yL 483, yL 484, yL 485, yL 486, yL 487, yL 489, yL 490, yL 491, yL 492] 32949906896622 79 (.r [] 15 (.ff .nil)) (.r [] 15 (.lit .nil))) (fun b_1 => (.r [] 0 (.lp (l10a (sOf l)) [] [] (fun b_2 => (.r [] 0 (.cnd (.r [(771, .auto, Dr.val (eV (ouL (sOf l)) b_2.i)), (775, .auto, Dr.val (eV (ouL (sOf l)) b_2.i))] 0 (.ff (.r [] 0 .nil))) (.r [] 0 (.r [] 0 (.gho 12 9001 3 (Cont.vals []) (.lp (l10b (sOf l)) [] [] (fun b_3 => (.r [] 0 (.cnd (.r [] 0 (.r [] 0 (.lp (m10 (sOf l) (kX (sOf l) b_3.i) (kY (sOf l) b_3.i)) [] [] (fun b_4 => (.r [] 0 (.cnd (.r [(1414, .auto, Dr.val [AV.int IntKind.i64 (kX (sOf l) b_3.i)]), (1419, .auto, Dr.val [AV.int IntKind.i64 (kY (sOf l) b_3.i)])] 256 (.r [] 0 .nil)) (.rs 3 [] 0 128 (.r [(1479, .auto, Dr.val [AV.int IntKind.u8 (kQ (sOf l) b_3.i)])] 48 (.cnd (.r [(1540, .auto, Dr.val (kV (sOf l) b_3.i))] 256 (.r [] 0 .nil)) (.r [] 0 .nil))) (.r [(1479, .auto, Dr.val [AV.int IntKind.u8 (kQ (sOf l) b_3.i)])] 3 (.lit (.r [] 0 .nil)))))))))) (.r [yL 1609] 7190 .nil)))))))))))))))))))))) ([rwS l]) ([.bool true]) ([]) = (
((flatS l = flatS (unS (flatS l)) ∧ List.length l = List.length (unS (flatS l)) ∧ rawP (unS (flatS l))) ∧ Cont.vals (flatK (sOf (unS (flatS l)))) = Cont.vals (flatK (sOf (unS (flatS l)))) ∧
List.length (sOf (unS (flatS l))) = List.length (sOf (unS (flatS l))) ∧ (flatK (sOf (unS (flatS l))) = flatK (sOf l) ∧ List.length (sOf (unS (flatS l))) = List.length (sOf l)) ∧ True) ∧ ∀ (b : S10),
b.a = flatK (sOf l) ∧ b.n = List.length (sOf l) → (okL b.a b.n ∧ okQ (unK b.a)) ∧ (okL b.a b.n ∧ okQ (unK b.a)) ∧ (okL b.a b.n ∧ okQ (unK b.a)) ∧ (okL b.a b.n ∧ vlL (unK b.a)) ∧ ((!chkI (unK b.a) !=
0) = true ∧ (!chkI (unK b.a) != 0) = true ∧ (!chkI (unK b.a) != 0) = true ∧ (okL b.a b.n ∧ vlL (unK b.a) ∧ List.Pairwise (fun (x1 x2 : Cl) => x1 ≠ x2) (unK b.a)) ∧ (!!cnX (unK b.a) == (bI (conB (unK
b.a)) 1 0 == 1)) = true ∧ (!(↑(List.length (outX (unK b.a))) : Int) != (↑(List.length (outF (unK b.a) (List.length (unK b.a)))) : Int)) = true ∧ (!(↑(List.length (outX (unK b.a))) : Int) !=
(↑(List.length (outX (unK b.a))) : Int)) = true ∧ inR IntKind.i64 ((↑(List.length (outX (unK b.a))) : Int) - (↑b.n : Int)) = true ∧ (!Int.tmod ((↑(List.length (outX (unK b.a))) : Int) - (↑b.n : Int))
2 != 0) = true ∧ (((↑(List.length (outX (unK b.a))) : Int) == 0) = true → ltb 0 (↑b.n : Int) = false ∧ Cont.vals b.a = Cont.vals b.a ∧ b.n = b.n ∧ Cont.vals (flatE (outX (unK b.a))) = Cont.vals (flatE
(outX (unK b.a))) ∧ List.length (outX (unK b.a)) = List.length (outX (unK b.a)) ∧ List.length (outX (unK b.a)) = List.length (outX (unK b.a)) ∧ Cont.vals (flatK (sqX (unK b.a))) = Cont.vals (flatK
(sqX (unK b.a))) ∧ List.length (sqX (unK b.a)) = List.length (sqX (unK b.a)) ∧ List.length (sqX (unK b.a)) = List.length (sqX (unK b.a)) ∧ Cont.vals (flatE (outF (unK b.a) (List.length (unK b.a)))) =
Cont.vals (flatE (outF (unK b.a) (List.length (unK b.a)))) ∧ List.length (outF (unK b.a) (List.length (unK b.a))) = List.length (outF (unK b.a) (List.length (unK b.a))) ∧ True ∧ True) ∧
(((↑(List.length (outX (unK b.a))) : Int) == 0) = false → Cont.vals b.a = Cont.vals b.a ∧ b.n = b.n ∧ Cont.vals (flatE (outX (unK b.a))) = Cont.vals (flatE (outX (unK b.a))) ∧ List.length (outX (unK
b.a)) = List.length (outX (unK b.a)) ∧ List.length (outX (unK b.a)) = List.length (outX (unK b.a)) ∧ Cont.vals (flatK (sqX (unK b.a))) = Cont.vals (flatK (sqX (unK b.a))) ∧ List.length (sqX (unK b.a))
= List.length (sqX (unK b.a)) ∧ List.length (sqX (unK b.a)) = List.length (sqX (unK b.a)) ∧ Cont.vals (flatE (outF (unK b.a) (List.length (unK b.a)))) = Cont.vals (flatE (outF (unK b.a) (List.length
(unK b.a)))) ∧ List.length (outF (unK b.a) (List.length (unK b.a))) = List.length (outF (unK b.a) (List.length (unK b.a))) ∧ True ∧ True)) ∧ ∀ (b_1 : Unit), True → Cont.vals b.a = Cont.vals b.a ∧ b.n
= b.n ∧ Cont.vals (flatE (outX (unK b.a))) = Cont.vals (flatE (outX (unK b.a))) ∧ List.length (outX (unK b.a)) = List.length (outX (unK b.a)) ∧ List.length (outX (unK b.a)) = List.length (outX (unK
b.a)) ∧ Cont.vals (flatK (sqX (unK b.a))) = Cont.vals (flatK (sqX (unK b.a))) ∧ List.length (sqX (unK b.a)) = List.length (sqX (unK b.a)) ∧ List.length (sqX (unK b.a)) = List.length (sqX (unK b.a)) ∧
Cont.vals (flatE (outF (unK b.a) (List.length (unK b.a)))) = Cont.vals (flatE (outF (unK b.a) (List.length (unK b.a)))) ∧ List.length (outF (unK b.a) (List.length (unK b.a))) = List.length (outF (unK
b.a) (List.length (unK b.a))) ∧ iI 0 = 0 ∧ (∃ (n : Nat), 0 = (↑n : Int) ∧ n ≤ List.length (ouL (sOf l))) ∧ ∀ (b_2 : L1), (∃ (n : Nat), b_2.i = (↑n : Int) ∧ n ≤ List.length (ouL (sOf l))) → (ltb b_2.i
(↑(List.length (outX (unK b.a))) : Int) = true → leb 0 b_2.i = true ∧ ltb b_2.i (↑(List.length (outX (unK b.a))) : Int) = true ∧ ltn 0 (Cont.size (Cont.vals (flatE (outX (unK b.a))))) = true ∧
(List.drop (Int.toNat b_2.i * 4) (flatE (outX (unK b.a))))[0]? = some (AV.int IntKind.i64 (gE1 (ouL (sOf l)) b_2.i)) ∧ (List.drop (Int.toNat b_2.i * 4) (flatE (outX (unK b.a))))[1]? = some (AV.int
IntKind.i64 (gE2 (ouL (sOf l)) b_2.i)) ∧ (List.drop (Int.toNat b_2.i * 4) (flatE (outX (unK b.a))))[2]? = some (AV.int IntKind.u8 (gE3 (ouL (sOf l)) b_2.i)) ∧ (List.drop (Int.toNat b_2.i * 4) (flatE
(outX (unK b.a))))[3]? = some (AV.int IntKind.u8 (gE4 (ouL (sOf l)) b_2.i)) ∧ leb 0 b_2.i = true ∧ ltb b_2.i (↑(List.length (outF (unK b.a) (List.length (unK b.a)))) : Int) = true ∧ ltn 0 (Cont.size
(Cont.vals (flatE (outF (unK b.a) (List.length (unK b.a)))))) = true ∧ (List.drop (Int.toNat b_2.i * 4) (flatE (outF (unK b.a) (List.length (unK b.a)))))[0]? = some (AV.int IntKind.i64 (gE1 (ouL (sOf
l)) b_2.i)) ∧ (List.drop (Int.toNat b_2.i * 4) (flatE (outF (unK b.a) (List.length (unK b.a)))))[1]? = some (AV.int IntKind.i64 (gE2 (ouL (sOf l)) b_2.i)) ∧ (List.drop (Int.toNat b_2.i * 4) (flatE
(outF (unK b.a) (List.length (unK b.a)))))[2]? = some (AV.int IntKind.u8 (gE3 (ouL (sOf l)) b_2.i)) ∧ (List.drop (Int.toNat b_2.i * 4) (flatE (outF (unK b.a) (List.length (unK b.a)))))[3]? = some
(AV.int IntKind.u8 (gE4 (ouL (sOf l)) b_2.i)) ∧ (!(gE1 (ouL (sOf l)) b_2.i == gE1 (ouL (sOf l)) b_2.i && (gE2 (ouL (sOf l)) b_2.i == gE2 (ouL (sOf l)) b_2.i && (gE3 (ouL (sOf l)) b_2.i == gE3 (ouL
(sOf l)) b_2.i && gE4 (ouL (sOf l)) b_2.i == gE4 (ouL (sOf l)) b_2.i)))) = false ∧ inR IntKind.i64 (b_2.i + 1) = true ∧ Cont.vals b.a = Cont.vals b.a ∧ b.n = b.n ∧ Cont.vals (flatE (outX (unK b.a))) =
Cont.vals (flatE (outX (unK b.a))) ∧ List.length (outX (unK b.a)) = List.length (outX (unK b.a)) ∧ List.length (outX (unK b.a)) = List.length (outX (unK b.a)) ∧ Cont.vals (flatK (sqX (unK b.a))) =
Cont.vals (flatK (sqX (unK b.a))) ∧ List.length (sqX (unK b.a)) = List.length (sqX (unK b.a)) ∧ List.length (sqX (unK b.a)) = List.length (sqX (unK b.a)) ∧ Cont.vals (flatE (outF (unK b.a)
(List.length (unK b.a)))) = Cont.vals (flatE (outF (unK b.a) (List.length (unK b.a)))) ∧ List.length (outF (unK b.a) (List.length (unK b.a))) = List.length (outF (unK b.a) (List.length (unK b.a))) ∧
b_2.i + 1 = b_2.i + 1 ∧ (∃ (n : Nat), b_2.i + 1 = (↑n : Int) ∧ n ≤ List.length (ouL (sOf l))) ∧ List.length (ouL (sOf l)) - Int.toNat (b_2.i + 1) < List.length (ouL (sOf l)) - Int.toNat b_2.i ∧ True)
∧ (ltb b_2.i (↑(List.length (outX (unK b.a))) : Int) = false → 0 = 0 ∧ ([] : List AV) = [] ∧ Cont.vals b.a = Cont.vals b.a ∧ b.n = b.n ∧ Cont.vals (flatK (sqX (unK b.a))) = Cont.vals (flatK (sqX (unK
b.a))) ∧ List.length (sqX (unK b.a)) = List.length (sqX (unK b.a)) ∧ List.length (sqX (unK b.a)) = List.length (sqX (unK b.a)) ∧ ltb b_2.i (↑(List.length (outX (unK b.a))) : Int) = ltb b_2.i
(↑(List.length (outX (unK b.a))) : Int) ∧ 0 = 0 ∧ iI 0 = 0 ∧ (∃ (n : Nat), 0 = (↑n : Int) ∧ n ≤ List.length (sOf l) ∧ [] = flatK (sqL (sOf l) n) ∧ 0 = List.length (sqL (sOf l) n)) ∧ ∀ (b_3 : L10), (∃
(n : Nat), b_3.i = (↑n : Int) ∧ n ≤ List.length (sOf l) ∧ b_3.o = flatK (sqL (sOf l) n) ∧ b_3.n = List.length (sqL (sOf l) n)) → (ltb b_3.i (↑b.n : Int) = true → b_3.n = b_3.n ∧ b_3.o = b_3.o ∧
Cont.vals b.a = Cont.vals b.a ∧ b.n = b.n ∧ Cont.vals (flatK (sqX (unK b.a))) = Cont.vals (flatK (sqX (unK b.a))) ∧ List.length (sqX (unK b.a)) = List.length (sqX (unK b.a)) ∧ List.length (sqX (unK
b.a)) = List.length (sqX (unK b.a)) ∧ ltb b_2.i (↑(List.length (outX (unK b.a))) : Int) = ltb b_2.i (↑(List.length (outX (unK b.a))) : Int) ∧ b_3.n = b_3.n ∧ b_3.i = b_3.i ∧ iI 0 = 0 ∧ iI 0 = 0 ∧ (∃
(n : Nat), 0 = (↑n : Int) ∧ n ≤ 4 ∧ 0 = cn4 (sOf l) (kX (sOf l) b_3.i) (kY (sOf l) b_3.i) n) ∧ ∀ (b_4 : M10), (∃ (n : Nat), b_4.k = (↑n : Int) ∧ n ≤ 4 ∧ b_4.c = cn4 (sOf l) (kX (sOf l) b_3.i) (kY (sOf
l) b_3.i) n) → (ltb b_4.k 4 = true → leb 0 b_3.i = true ∧ ltb b_3.i (↑b.n : Int) = true ∧ ltn 0 (Cont.size (Cont.vals b.a)) = true ∧ (List.drop 0 (List.drop (Int.toNat b_3.i * 3) b.a))[0]? = some
(AV.int IntKind.i64 (kX (sOf l) b_3.i)) ∧ leb 0 b_3.i = true ∧ ltb b_3.i (↑b.n : Int) = true ∧ ltn 0 (Cont.size (Cont.vals b.a)) = true ∧ (List.drop 1 (List.drop (Int.toNat b_3.i * 3) b.a))[0]? = some
(AV.int IntKind.i64 (kY (sOf l) b_3.i)) ∧ okL b.a b.n ∧ inR IntKind.i64 (b_4.c + bI (hasL (unK b.a) (kX (sOf l) b_3.i, kY (sOf l) b_3.i, b_4.k)) 1 0) = true ∧ inR IntKind.u8 (b_4.k + 1) = true ∧ b_3.n
= b_3.n ∧ b_3.o = b_3.o ∧ Cont.vals b.a = Cont.vals b.a ∧ b.n = b.n ∧ Cont.vals (flatK (sqX (unK b.a))) = Cont.vals (flatK (sqX (unK b.a))) ∧ List.length (sqX (unK b.a)) = List.length (sqX (unK b.a))
∧ List.length (sqX (unK b.a)) = List.length (sqX (unK b.a)) ∧ ltb b_2.i (↑(List.length (outX (unK b.a))) : Int) = ltb b_2.i (↑(List.length (outX (unK b.a))) : Int) ∧ b_3.n = b_3.n ∧ b_3.i = b_3.i ∧
b_4.c + bI (hasL (unK b.a) (kX (sOf l) b_3.i, kY (sOf l) b_3.i, b_4.k)) 1 0 = b_4.c + bI (hasL (unK b.a) (kX (sOf l) b_3.i, kY (sOf l) b_3.i, b_4.k)) 1 0 ∧ b_4.k + 1 = b_4.k + 1 ∧ (∃ (n : Nat), b_4.k
+ 1 = (↑n : Int) ∧ n ≤ 4 ∧ b_4.c + bI (hasL (unK b.a) (kX (sOf l) b_3.i, kY (sOf l) b_3.i, b_4.k)) 1 0 = cn4 (sOf l) (kX (sOf l) b_3.i) (kY (sOf l) b_3.i) n) ∧ 4 - Int.toNat (b_4.k + 1) < 4 -
Int.toNat b_4.k ∧ True) ∧ (ltb b_4.k 4 = false → ((b_4.c == 4) = true → leb 0 b_3.i = true ∧ ltb b_3.i (↑b.n : Int) = true ∧ ltn 0 (Cont.size (Cont.vals b.a)) = true ∧ (List.drop 2 (List.drop
(Int.toNat b_3.i * 3) b.a))[0]? = some (AV.int IntKind.u8 (kQ (sOf l) b_3.i)) ∧ ((kQ (sOf l) b_3.i == 0) = true → leb 0 b_3.i = true ∧ ltb b_3.i (↑b.n : Int) = true ∧ ltn 0 (Cont.size (Cont.vals b.a))
= true ∧ (List.drop (Int.toNat b_3.i * 3) b.a)[0]? = some (AV.int IntKind.i64 (kX (sOf l) b_3.i)) ∧ (List.drop (Int.toNat b_3.i * 3) b.a)[1]? = some (AV.int IntKind.i64 (kY (sOf l) b_3.i)) ∧
(List.drop (Int.toNat b_3.i * 3) b.a)[2]? = some (AV.int IntKind.u8 (kQ (sOf l) b_3.i)) ∧ b_3.n = b_3.n ∧ len' ((b_3.n + 1) * 24) 140737488355328 = true ∧ inR IntKind.i64 (b_3.i + 1) = true ∧ b_3.n +
1 = b_3.n + 1 ∧ b_3.o ++ [AV.int IntKind.i64 (kX (sOf l) b_3.i), AV.int IntKind.i64 (kY (sOf l) b_3.i), AV.int IntKind.u8 (kQ (sOf l) b_3.i)] = b_3.o ++ [AV.int IntKind.i64 (kX (sOf l) b_3.i), AV.int
IntKind.i64 (kY (sOf l) b_3.i), AV.int IntKind.u8 (kQ (sOf l) b_3.i)] ∧ Cont.vals b.a = Cont.vals b.a ∧ b.n = b.n ∧ Cont.vals (flatK (sqX (unK b.a))) = Cont.vals (flatK (sqX (unK b.a))) ∧ List.length
(sqX (unK b.a)) = List.length (sqX (unK b.a)) ∧ List.length (sqX (unK b.a)) = List.length (sqX (unK b.a)) ∧ ltb b_2.i (↑(List.length (outX (unK b.a))) : Int) = ltb b_2.i (↑(List.length (outX (unK
b.a))) : Int) ∧ b_3.n + 1 = b_3.n + 1 ∧ b_3.i + 1 = b_3.i + 1 ∧ (∃ (n : Nat), b_3.i + 1 = (↑n : Int) ∧ n ≤ List.length (sOf l) ∧ b_3.o ++ [AV.int IntKind.i64 (kX (sOf l) b_3.i), AV.int IntKind.i64 (kY
(sOf l) b_3.i), AV.int IntKind.u8 (kQ (sOf l) b_3.i)] = flatK (sqL (sOf l) n) ∧ b_3.n + 1 = List.length (sqL (sOf l) n)) ∧ List.length (sOf l) - Int.toNat (b_3.i + 1) < List.length (sOf l) - Int.toNat
b_3.i ∧ True) ∧ ((kQ (sOf l) b_3.i == 0) = false → inR IntKind.i64 (b_3.i + 1) = true ∧ b_3.n = b_3.n ∧ b_3.o = b_3.o ∧ Cont.vals b.a = Cont.vals b.a ∧ b.n = b.n ∧ Cont.vals (flatK (sqX (unK b.a))) =
Cont.vals (flatK (sqX (unK b.a))) ∧ List.length (sqX (unK b.a)) = List.length (sqX (unK b.a)) ∧ List.length (sqX (unK b.a)) = List.length (sqX (unK b.a)) ∧ ltb b_2.i (↑(List.length (outX (unK b.a))) :
Int) = ltb b_2.i (↑(List.length (outX (unK b.a))) : Int) ∧ b_3.n = b_3.n ∧ b_3.i + 1 = b_3.i + 1 ∧ (∃ (n : Nat), b_3.i + 1 = (↑n : Int) ∧ n ≤ List.length (sOf l) ∧ b_3.o = flatK (sqL (sOf l) n) ∧
b_3.n = List.length (sqL (sOf l) n)) ∧ List.length (sOf l) - Int.toNat (b_3.i + 1) < List.length (sOf l) - Int.toNat b_3.i ∧ True)) ∧ ((b_4.c == 4) = false → inR IntKind.i64 (b_3.i + 1) = true ∧ b_3.n
= b_3.n ∧ b_3.o = b_3.o ∧ Cont.vals b.a = Cont.vals b.a ∧ b.n = b.n ∧ Cont.vals (flatK (sqX (unK b.a))) = Cont.vals (flatK (sqX (unK b.a))) ∧ List.length (sqX (unK b.a)) = List.length (sqX (unK b.a))
∧ List.length (sqX (unK b.a)) = List.length (sqX (unK b.a)) ∧ ltb b_2.i (↑(List.length (outX (unK b.a))) : Int) = ltb b_2.i (↑(List.length (outX (unK b.a))) : Int) ∧ b_3.n = b_3.n ∧ b_3.i + 1 = b_3.i
+ 1 ∧ (∃ (n : Nat), b_3.i + 1 = (↑n : Int) ∧ n ≤ List.length (sOf l) ∧ b_3.o = flatK (sqL (sOf l) n) ∧ b_3.n = List.length (sqL (sOf l) n)) ∧ List.length (sOf l) - Int.toNat (b_3.i + 1) < List.length
(sOf l) - Int.toNat b_3.i ∧ True))) ∧ (ltb b_3.i (↑b.n : Int) = false → b_3.n = b_3.n ∧ leb ((↑b_3.n : Int) * 24) 140737488355328 = true ∧ len' ((0 + b_3.n) * 24) 140737488355328 = true ∧ b_3.n =
b_3.n ∧ 0 + b_3.n = 0 + b_3.n ∧ (okL (flatK (sqX (unK b.a))) (List.length (sqX (unK b.a))) ∧ okL ([] ++ b_3.o) (0 + b_3.n)) ∧ (bI (Nat.beq (List.length (sqX (unK b.a))) (List.length (sqX (unK b.a)))
&& eqLC (unK (flatK (sqX (unK b.a)))) (unK ([] ++ b_3.o))) 1 0 == 1) = true ∧ true = true ∧ True))) := by kernel_rfl

end Go.Proofs.YtmnaghfndigfkaaDoor.X
