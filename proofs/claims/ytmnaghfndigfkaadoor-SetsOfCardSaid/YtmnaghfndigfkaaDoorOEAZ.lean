/-
 What is to be shown of the functions (made by a program).
-/
import Derived.Test.YtmnaghfndigfkaaDoorEAZ
import Derived.KernelRfl
set_option maxRecDepth 1000000
set_option linter.unusedVariables false
namespace Go.Proofs.YtmnaghfndigfkaaDoor.X
open Go Go.Ab

theorem ob_o14 (l : List Cl) (x y q : Int) : fnP (TE14) G 10000 fe14 (.r [] 0 (.r [] 0 (.cnd (.r [] 0 .nil) (.r [] 6 (.r [yO 329, yO 330, yO 331, yO 332, yO 333, (334, .auto, Dr.pk false)] 10245 (.ff (.r [] 0 (.lp (l14 l) [] [] (fun b => (.r [] 0 (.cnd (.r [(643, .auto, Dr.val (kV l b.i))] 64 (.cnd (.r [yL 707, yL 708, yL 709, yL 710, yL 712] 478 .nil) (.r [] 0 .nil))) (.r [] 0 (.r [yO 835, yO 836, yO 837, yO 838, (839, .auto, Dr.pk true), yO 841, yO 842, yO 843, (844, .auto, Dr.pk true), yO 846, yO 847, yO 848, (849, .auto, Dr.pk true), yO 851, yO 852, yO 853, yO 854, yO 855, yO 856, yO 857, (858, .on, Dr.pk true), yO 859, yO 860, yO 861, yO 862, (863, .auto, Dr.pk true), yO 865, (866, .auto, Dr.pk true)] 3184204467163296 .nil))))))))))))) ([cls l, .agg [.int .i64 x, .int .i64 y, .int .u8 q]]) ([.bool true]) ([]) = (
(ltb 40 (↑(List.length l) : Int) = true → true = true ∧ True) ∧ (ltb 40 (↑(List.length l) : Int) = false → (okL (flatK l) (List.length l) ∧ okQ (unK (flatK l)) ∧ List.length l ≤ 1024) ∧ okL (flatK l)
(List.length l) ∧ okL (flatK l) (List.length l) ∧ (!!hasL (unK (flatK l)) (x, y, q) == (bI (hasL (unK (flatK l)) (x, y, q)) 1 0 == 1)) = true ∧ (!!hasL (unK (flatK l)) (x, y, q) == (bI (hasL (unK
(flatK l)) (x, y, q)) 1 0 == 1)) = true ∧ (okL (flatK l) (List.length l) ∧ okQ (unK (flatK l))) ∧ (!!hasL (unK (flatK l)) (x, y, q) == (bI (hasL (unK (flatK l)) (x, y, q)) 1 0 == 1)) = true ∧ (!!hasL
(unK (flatK l)) (x, y, q) == (bI (hasL (unK (flatK l)) (x, y, q)) 1 0 == 1)) = true ∧ okL (flatK l) (List.length l) ∧ (!!hasL (unK (flatK l)) (x, y, q) == (bI (hasL (unK (flatK l)) (x, y, q)) 1 0 ==
1)) = true ∧ (!!hasL (unK (flatK l)) (x, y, q) == (bI (hasL (unK (flatK l)) (x, y, q)) 1 0 == 1)) = true ∧ (chkI (unK (flatK l)) != chkI (unK (flatK l))) = false ∧ 1 = 1 ∧ x = x ∧ y = y ∧ q = q ∧
Cont.vals (flatK l) = Cont.vals (flatK l) ∧ List.length l = List.length l ∧ Cont.vals (flatK (ofX (unK (flatK l)))) = Cont.vals (flatK (ofX (unK (flatK l)))) ∧ List.length (ofX (unK (flatK l))) =
List.length (ofX (unK (flatK l))) ∧ List.length (ofX (unK (flatK l))) = List.length (ofX (unK (flatK l))) ∧ bI (badL (unK (flatK l))) 1 0 = bI (badL (unK (flatK l))) 1 0 ∧ iI 0 = 0 ∧ (∃ (n : Nat), 0 =
(↑n : Int) ∧ n ≤ List.length l ∧ badL (List.drop n l) = badL l) ∧ ∀ (b : L1), (∃ (n : Nat), b.i = (↑n : Int) ∧ n ≤ List.length l ∧ badL (List.drop n l) = badL l) → (ltb b.i (↑(List.length l) : Int) =
true → leb 0 b.i = true ∧ ltb b.i (↑(List.length l) : Int) = true ∧ ltn 0 (Cont.size (Cont.vals (flatK l))) = true ∧ (List.drop (Int.toNat b.i * 3) (flatK l))[0]? = some (AV.int IntKind.i64 (kX l
b.i)) ∧ (List.drop (Int.toNat b.i * 3) (flatK l))[1]? = some (AV.int IntKind.i64 (kY l b.i)) ∧ (List.drop (Int.toNat b.i * 3) (flatK l))[2]? = some (AV.int IntKind.u8 (kQ l b.i)) ∧ ((bI (vldC (kX l
b.i, kY l b.i, kQ l b.i)) 1 0 == 0) = true → (bI (badL (unK (flatK l))) 1 0 == 1) = true ∧ ((↑(List.length (ofX (unK (flatK l)))) : Int) == 0) = true ∧ true = true ∧ True) ∧ ((bI (vldC (kX l b.i, kY l
b.i, kQ l b.i)) 1 0 == 0) = false → inR IntKind.i64 (b.i + 1) = true ∧ 1 = 1 ∧ x = x ∧ y = y ∧ q = q ∧ Cont.vals (flatK l) = Cont.vals (flatK l) ∧ List.length l = List.length l ∧ Cont.vals (flatK (ofX
(unK (flatK l)))) = Cont.vals (flatK (ofX (unK (flatK l)))) ∧ List.length (ofX (unK (flatK l))) = List.length (ofX (unK (flatK l))) ∧ List.length (ofX (unK (flatK l))) = List.length (ofX (unK (flatK
l))) ∧ bI (badL (unK (flatK l))) 1 0 = bI (badL (unK (flatK l))) 1 0 ∧ b.i + 1 = b.i + 1 ∧ (∃ (n : Nat), b.i + 1 = (↑n : Int) ∧ n ≤ List.length l ∧ badL (List.drop n l) = badL l) ∧ List.length l -
Int.toNat (b.i + 1) < List.length l - Int.toNat b.i ∧ True)) ∧ (ltb b.i (↑(List.length l) : Int) = false → okL (flatK l) (List.length l) ∧ (bI (badL (unK (flatK l))) 1 0 == 0) = true ∧ (bI (badL (unK
(flatK l))) 1 0 == 0) = true ∧ (bI (badL (unK (flatK l))) 1 0 == 0) = true ∧ (okL (flatK (ofX (unK (flatK l)))) (List.length (ofX (unK (flatK l)))) ∧ okL (flatK (ofL (unK (flatK l)))) (List.length
(ofL (unK (flatK l))))) ∧ (bI (badL (unK (flatK l))) 1 0 == 0) = true ∧ (bI (badL (unK (flatK l))) 1 0 == 0) = true ∧ (bI (Nat.beq (List.length (ofX (unK (flatK l)))) (List.length (ofX (unK (flatK
l)))) && eqLC (unK (flatK (ofX (unK (flatK l))))) (unK (flatK (ofL (unK (flatK l)))))) 1 0 == 1) = true ∧ (bI (Nat.beq (List.length (ofX (unK (flatK l)))) (List.length (ofX (unK (flatK l)))) && eqLC
(unK (flatK (ofX (unK (flatK l))))) (unK (flatK (ofL (unK (flatK l)))))) 1 0 == 1) = true ∧ (okL (flatK (ofX (unK (flatK l)))) (List.length (ofX (unK (flatK l)))) ∧ okQ (unK (flatK (ofX (unK (flatK
l)))))) ∧ (bI (Nat.beq (List.length (ofX (unK (flatK l)))) (List.length (ofX (unK (flatK l)))) && eqLC (unK (flatK (ofX (unK (flatK l))))) (unK (flatK (ofL (unK (flatK l)))))) 1 0 == 1) = true ∧ (bI
(Nat.beq (List.length (ofX (unK (flatK l)))) (List.length (ofX (unK (flatK l)))) && eqLC (unK (flatK (ofX (unK (flatK l))))) (unK (flatK (ofL (unK (flatK l)))))) 1 0 == 1) = true ∧ (chkI (unK (flatK
(ofX (unK (flatK l))))) == 0) = true ∧ (chkI (unK (flatK (ofX (unK (flatK l))))) == 0) = true ∧ (chkI (unK (flatK (ofX (unK (flatK l))))) == 0) = true ∧ (okL (flatK (ofX (unK (flatK l)))) (List.length
(ofX (unK (flatK l)))) ∧ okL (flatK (ofL (unK (flatK l)))) (List.length (ofL (unK (flatK l))))) ∧ (chkI (unK (flatK (ofX (unK (flatK l))))) == 0) = true ∧ eqLC (unK (flatK (ofX (unK (flatK l))))) (unK
(flatK (ofL (unK (flatK l))))) = true ∧ eqLC (unK (flatK (ofX (unK (flatK l))))) (unK (flatK (ofL (unK (flatK l))))) = true ∧ eqLC (unK (flatK (ofX (unK (flatK l))))) (unK (flatK (ofL (unK (flatK
l))))) = true ∧ (okL (flatK (ofX (unK (flatK l)))) (List.length (ofX (unK (flatK l)))) ∧ okL (flatK l) (List.length l)) ∧ eqLC (unK (flatK (ofX (unK (flatK l))))) (unK (flatK (ofL (unK (flatK l))))) =
true ∧ eqLC (unK (flatK (ofX (unK (flatK l))))) (unK (flatK (ofL (unK (flatK l))))) = true ∧ eqLC (unK (flatK (ofX (unK (flatK l))))) (unK (flatK (ofL (unK (flatK l))))) = true ∧ leb ((↑(List.length
l) : Int) * 24) 140737488355328 = true ∧ eqLC (unK (flatK (ofX (unK (flatK l))))) (unK (flatK (ofL (unK (flatK l))))) = true ∧ eqLC (unK (flatK (ofX (unK (flatK l))))) (unK (flatK (ofL (unK (flatK
l))))) = true ∧ len' ((0 + List.length l) * 24) 140737488355328 = true ∧ len' (0 + List.length l) (Int.toNat (↑(List.length l) : Int)) = true ∧ Cont.size (Cont.vals (flatK l)) = List.length l * 3 ∧
eqLC (unK (flatK (ofX (unK (flatK l))))) (unK (flatK (ofL (unK (flatK l))))) = true ∧ eqLC (unK (flatK (ofX (unK (flatK l))))) (unK (flatK (ofL (unK (flatK l))))) = true ∧ 0 + List.length l = 0 +
List.length l ∧ (okL ([] ++ flatK l) (0 + List.length l) ∧ okL (flatK (ofL (unK (flatK l)))) (List.length (ofL (unK (flatK l))))) ∧ eqLC (unK (flatK (ofX (unK (flatK l))))) (unK (flatK (ofL (unK
(flatK l))))) = true ∧ eqLC (unK (flatK (ofX (unK (flatK l))))) (unK (flatK (ofL (unK (flatK l))))) = true ∧ eqLC (unK (flatK (ofX (unK (flatK l))))) (unK (flatK (ofL (unK (flatK l))))) = true ∧ (eqLC
(unK (flatK (ofX (unK (flatK l))))) (unK (flatK l)) == (bI (Nat.beq (Int.toNat (↑(List.length l) : Int)) (0 + List.length l) && eqLC (unK ([] ++ flatK l)) (unK (flatK (ofL (unK (flatK l)))))) 1 0 ==
1)) = true ∧ (eqLC (unK (flatK (ofX (unK (flatK l))))) (unK (flatK l)) == (bI (Nat.beq (Int.toNat (↑(List.length l) : Int)) (0 + List.length l) && eqLC (unK ([] ++ flatK l)) (unK (flatK (ofL (unK
(flatK l)))))) 1 0 == 1)) = true ∧ true = true ∧ True))) := by kernel_rfl

end Go.Proofs.YtmnaghfndigfkaaDoor.X
