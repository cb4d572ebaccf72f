/-
 What is to be shown of the functions (made by a program).
-/
import Derived.Test.YtmnaghfndigfkaaDoorDOZ
import Derived.KernelRfl
import Derived.Test.YtmnaghfndigfkaaDoorDNZ
set_option maxRecDepth 1000000
set_option linter.unusedVariables false
namespace Go.Proofs.YtmnaghfndigfkaaDoor.X
open Go Go.Ab

theorem ob_o52 (l : List Cl) : fnP (TO52) G 10000 fe52 (.r [] 0 (.r [] 0 (.cnd (.r [] 0 .nil) (.r [] 0 (.lp (l52 l) [] [] (fun b => (.r [] 0 (.cnd (.r [(451, .auto, Dr.val (kV l b.i))] 64 (.cnd (.r [] 0 .nil) (.r [] 0 .nil))) (.r [] 0 (.lp (m52 l) [] [] (fun b_1 => (.r [] 0 (.cnd (.r [(772, .auto, Dr.val (kV l (b_1.i - 1))), (776, .auto, Dr.val (kV l b_1.i))] 8192 (.cnd (.r [] 0 .nil) (.r [] 0 .nil))) (.r [] 0 .nil)))))))))))))) ([cls l]) ([.int .i64 (chkI l)]) ([]) = (
(ltb 1024 (↑(List.length l) : Int) = true → 3 = chkI l ∧ True) ∧ (ltb 1024 (↑(List.length l) : Int) = false → Cont.vals (flatK l) = Cont.vals (flatK l) ∧ List.length l = List.length l ∧ iI 0 = 0 ∧ (∃
(n : Nat), 0 = (↑n : Int) ∧ n ≤ List.length l ∧ badL (List.drop n l) = badL l) ∧ ∀ (b : L1), (∃ (n : Nat), b.i = (↑n : Int) ∧ n ≤ List.length l ∧ badL (List.drop n l) = badL l) → (ltb b.i
(↑(List.length l) : Int) = true → leb 0 b.i = true ∧ ltb b.i (↑(List.length l) : Int) = true ∧ ltn 0 (Cont.size (Cont.vals (flatK l))) = true ∧ (List.drop (Int.toNat b.i * 3) (flatK l))[0]? = some
(AV.int IntKind.i64 (kX l b.i)) ∧ (List.drop (Int.toNat b.i * 3) (flatK l))[1]? = some (AV.int IntKind.i64 (kY l b.i)) ∧ (List.drop (Int.toNat b.i * 3) (flatK l))[2]? = some (AV.int IntKind.u8 (kQ l
b.i)) ∧ ((bI (vldC (kX l b.i, kY l b.i, kQ l b.i)) 1 0 == 0) = true → 1 = chkI l ∧ True) ∧ ((bI (vldC (kX l b.i, kY l b.i, kQ l b.i)) 1 0 == 0) = false → inR IntKind.i64 (b.i + 1) = true ∧ Cont.vals
(flatK l) = Cont.vals (flatK l) ∧ List.length l = List.length l ∧ b.i + 1 = b.i + 1 ∧ (∃ (n : Nat), b.i + 1 = (↑n : Int) ∧ n ≤ List.length l ∧ badL (List.drop n l) = badL l) ∧ List.length l -
Int.toNat (b.i + 1) < List.length l - Int.toNat b.i ∧ True)) ∧ (ltb b.i (↑(List.length l) : Int) = false → Cont.vals (flatK l) = Cont.vals (flatK l) ∧ List.length l = List.length l ∧ ltb b.i
(↑(List.length l) : Int) = ltb b.i (↑(List.length l) : Int) ∧ iI 1 = 1 ∧ (∃ (n : Nat), 1 = (↑(n + 1) : Int) ∧ (n + 1 ≤ List.length l ∨ n = 0) ∧ srtB (List.drop n l) = srtB l) ∧ ∀ (b_1 : L1), (∃ (n :
Nat), b_1.i = (↑(n + 1) : Int) ∧ (n + 1 ≤ List.length l ∨ n = 0) ∧ srtB (List.drop n l) = srtB l) → (ltb b_1.i (↑(List.length l) : Int) = true → inR IntKind.i64 (b_1.i - 1) = true ∧ leb 0 (b_1.i - 1)
= true ∧ ltb (b_1.i - 1) (↑(List.length l) : Int) = true ∧ ltn 0 (Cont.size (Cont.vals (flatK l))) = true ∧ (List.drop (Int.toNat (b_1.i - 1) * 3) (flatK l))[0]? = some (AV.int IntKind.i64 (kX l
(b_1.i - 1))) ∧ (List.drop (Int.toNat (b_1.i - 1) * 3) (flatK l))[1]? = some (AV.int IntKind.i64 (kY l (b_1.i - 1))) ∧ (List.drop (Int.toNat (b_1.i - 1) * 3) (flatK l))[2]? = some (AV.int IntKind.u8
(kQ l (b_1.i - 1))) ∧ leb 0 b_1.i = true ∧ ltb b_1.i (↑(List.length l) : Int) = true ∧ ltn 0 (Cont.size (Cont.vals (flatK l))) = true ∧ (List.drop (Int.toNat b_1.i * 3) (flatK l))[0]? = some (AV.int
IntKind.i64 (kX l b_1.i)) ∧ (List.drop (Int.toNat b_1.i * 3) (flatK l))[1]? = some (AV.int IntKind.i64 (kY l b_1.i)) ∧ (List.drop (Int.toNat b_1.i * 3) (flatK l))[2]? = some (AV.int IntKind.u8 (kQ l
b_1.i)) ∧ ((bI (ltC (kX l (b_1.i - 1), kY l (b_1.i - 1), kQ l (b_1.i - 1)) (kX l b_1.i, kY l b_1.i, kQ l b_1.i)) 1 0 == 0) = true → 6 = chkI l ∧ True) ∧ ((bI (ltC (kX l (b_1.i - 1), kY l (b_1.i - 1),
kQ l (b_1.i - 1)) (kX l b_1.i, kY l b_1.i, kQ l b_1.i)) 1 0 == 0) = false → inR IntKind.i64 (b_1.i + 1) = true ∧ Cont.vals (flatK l) = Cont.vals (flatK l) ∧ List.length l = List.length l ∧ ltb b.i
(↑(List.length l) : Int) = ltb b.i (↑(List.length l) : Int) ∧ b_1.i + 1 = b_1.i + 1 ∧ (∃ (n : Nat), b_1.i + 1 = (↑(n + 1) : Int) ∧ (n + 1 ≤ List.length l ∨ n = 0) ∧ srtB (List.drop n l) = srtB l) ∧
List.length l + 1 - Int.toNat (b_1.i + 1) < List.length l + 1 - Int.toNat b_1.i ∧ True)) ∧ (ltb b_1.i (↑(List.length l) : Int) = false → 0 = chkI l ∧ True)))) := by kernel_rfl

end Go.Proofs.YtmnaghfndigfkaaDoor.X

/-
 What is to be shown of the functions (made by a program).
-/
set_option maxRecDepth 1000000
set_option linter.unusedVariables false
namespace Go.Proofs.YtmnaghfndigfkaaDoor.X
open Go Go.Ab

end Go.Proofs.YtmnaghfndigfkaaDoor.X
/-
 What is to be shown of the functions (made by a program).
-/
set_option maxRecDepth 1000000
set_option linter.unusedVariables false
namespace Go.Proofs.YtmnaghfndigfkaaDoor.X
open Go Go.Ab

end Go.Proofs.YtmnaghfndigfkaaDoor.X
