/-
 What is to be shown of the functions (made by a program).
-/
import Derived.Test.YtmnaghfndigfkaaDoorDCZ
import Derived.KernelRfl
set_option maxRecDepth 1000000
set_option linter.unusedVariables false
namespace Go.Proofs.YtmnaghfndigfkaaDoor.X
open Go Go.Ab

theorem ob_o149 (x y q : Int) : fnP (TC1) G 10000 fe149 (.r [] 0 (.r [] 3 .nil)) ([.agg [.int .i64 x, .int .i64 y, .int .u8 q]]) ([.bool (!vldC (x, y, q))]) ([]) = (
(bI (vldC (x, y, q)) 0 1 != 0) = !vldC (x, y, q) ∧ True) := by kernel_rfl

theorem ob_o183 (l : List Cl) : fnP (TC2) G 10000 fe183 (.r [] 0 (.r [] 0 (.lp (l183 l) [] [] (fun b => (.r [] 0 (.cnd (.r [] 0 (.r [(324, .auto, Dr.val (kV l b.i))] 64 (.cnd (.r [] 0 .nil) (.r [] 0 .nil)))) (.r [] 0 .nil))))))) ([cls l, .fn 149 [] []]) ([.int .i64 (idxW l 0)]) ([]) = (
Cont.vals (flatK l) = Cont.vals (flatK l) ∧ List.length l = List.length l ∧ (↑(List.length l) : Int) = (↑(List.length l) : Int) ∧ iI 0 = 0 ∧ (∃ (n : Nat), 0 = (↑n : Int) ∧ n ≤ List.length l ∧ idxW
(List.drop n l) (↑n : Int) = idxW l 0) ∧ ∀ (b : L1), (∃ (n : Nat), b.i = (↑n : Int) ∧ n ≤ List.length l ∧ idxW (List.drop n l) (↑n : Int) = idxW l 0) → (ltb b.i (↑(List.length l) : Int) = true → leb 0
b.i = true ∧ ltb b.i (↑(List.length l) : Int) = true ∧ ltn 0 (Cont.size (Cont.vals (flatK l))) = true ∧ (List.drop (Int.toNat b.i * 3) (flatK l))[0]? = some (AV.int IntKind.i64 (kX l b.i)) ∧
(List.drop (Int.toNat b.i * 3) (flatK l))[1]? = some (AV.int IntKind.i64 (kY l b.i)) ∧ (List.drop (Int.toNat b.i * 3) (flatK l))[2]? = some (AV.int IntKind.u8 (kQ l b.i)) ∧ ((!vldC (kX l b.i, kY l
b.i, kQ l b.i)) = true → b.i = idxW l 0 ∧ True) ∧ ((!vldC (kX l b.i, kY l b.i, kQ l b.i)) = false → inR IntKind.i64 (b.i + 1) = true ∧ Cont.vals (flatK l) = Cont.vals (flatK l) ∧ List.length l =
List.length l ∧ (↑(List.length l) : Int) = (↑(List.length l) : Int) ∧ b.i + 1 = b.i + 1 ∧ (∃ (n : Nat), b.i + 1 = (↑n : Int) ∧ n ≤ List.length l ∧ idxW (List.drop n l) (↑n : Int) = idxW l 0) ∧
List.length l - Int.toNat (b.i + 1) < List.length l - Int.toNat b.i ∧ True)) ∧ (ltb b.i (↑(List.length l) : Int) = false → -1 = idxW l 0 ∧ True)) := by kernel_rfl

theorem ob_o148 (l : List Cl) : fnP (TC3) G 10000 fe148 (.r [] 0 (.r [] 0 .nil)) ([cls l, .fn 149 [] []]) ([.bool (badL l)]) ([]) = (
okL (flatK l) (List.length l) ∧ leb 0 (idxW (unK (flatK l)) 0) = badL l ∧ True) := by kernel_rfl

theorem ob_o115 (l : List Cl) : fnP (TC4) G 10000 fe115 (.r [] 0 (.r [] 0 .nil)) ([cls l]) ([.bool (badL l)]) ([]) = (
okL (flatK l) (List.length l) ∧ badL (unK (flatK l)) = badL l ∧ True) := by kernel_rfl

theorem ob_o61 (l : List Cl) : fnP (TC5) G 10000 fe61 (.r [] 0 (.r [] 0 (.cnd (.r [] 0 .nil) (.r [] 0 (.cnd (.r [] 0 .nil) (.r [] 0 (.lp (l61 l) [] [] (fun b => (.r [] 0 (.cnd (.r [(580, .auto, Dr.val (kV l (b.i - 1))), (584, .auto, Dr.val (kV l b.i))] 0 (.cnd (.r [] 0 .nil) (.r [] 0 .nil))) (.r [] 0 .nil))))))))))) ([cls l]) ([.int .i64 (chkI l)]) ([]) = (
(ltb 1024 (↑(List.length l) : Int) = true → 3 = chkI l ∧ True) ∧ (ltb 1024 (↑(List.length l) : Int) = false → okL (flatK l) (List.length l) ∧ (badL (unK (flatK l)) = true → 1 = chkI l ∧ True) ∧ (badL
(unK (flatK l)) = false → Cont.vals (flatK l) = Cont.vals (flatK l) ∧ List.length l = List.length l ∧ iI 1 = 1 ∧ (∃ (n : Nat), 1 = (↑(n + 1) : Int) ∧ (n + 1 ≤ List.length l ∨ n = 0) ∧ srtB (List.drop
n l) = srtB l) ∧ ∀ (b : L1), (∃ (n : Nat), b.i = (↑(n + 1) : Int) ∧ (n + 1 ≤ List.length l ∨ n = 0) ∧ srtB (List.drop n l) = srtB l) → (ltb b.i (↑(List.length l) : Int) = true → inR IntKind.i64 (b.i -
1) = true ∧ leb 0 (b.i - 1) = true ∧ ltb (b.i - 1) (↑(List.length l) : Int) = true ∧ ltn 0 (Cont.size (Cont.vals (flatK l))) = true ∧ (List.drop (Int.toNat (b.i - 1) * 3) (flatK l))[0]? = some (AV.int
IntKind.i64 (kX l (b.i - 1))) ∧ (List.drop (Int.toNat (b.i - 1) * 3) (flatK l))[1]? = some (AV.int IntKind.i64 (kY l (b.i - 1))) ∧ (List.drop (Int.toNat (b.i - 1) * 3) (flatK l))[2]? = some (AV.int
IntKind.u8 (kQ l (b.i - 1))) ∧ leb 0 b.i = true ∧ ltb b.i (↑(List.length l) : Int) = true ∧ ltn 0 (Cont.size (Cont.vals (flatK l))) = true ∧ (List.drop (Int.toNat b.i * 3) (flatK l))[0]? = some
(AV.int IntKind.i64 (kX l b.i)) ∧ (List.drop (Int.toNat b.i * 3) (flatK l))[1]? = some (AV.int IntKind.i64 (kY l b.i)) ∧ (List.drop (Int.toNat b.i * 3) (flatK l))[2]? = some (AV.int IntKind.u8 (kQ l
b.i)) ∧ (0 ≤ kQ l (b.i - 1) ∧ kQ l (b.i - 1) ≤ 255 ∧ 0 ≤ kQ l b.i ∧ kQ l b.i ≤ 255) ∧ (leb 0 (cmpC (kX l (b.i - 1), kY l (b.i - 1), kQ l (b.i - 1)) (kX l b.i, kY l b.i, kQ l b.i)) = true → 6 = chkI l
∧ True) ∧ (leb 0 (cmpC (kX l (b.i - 1), kY l (b.i - 1), kQ l (b.i - 1)) (kX l b.i, kY l b.i, kQ l b.i)) = false → inR IntKind.i64 (b.i + 1) = true ∧ Cont.vals (flatK l) = Cont.vals (flatK l) ∧
List.length l = List.length l ∧ b.i + 1 = b.i + 1 ∧ (∃ (n : Nat), b.i + 1 = (↑(n + 1) : Int) ∧ (n + 1 ≤ List.length l ∨ n = 0) ∧ srtB (List.drop n l) = srtB l) ∧ List.length l + 1 - Int.toNat (b.i +
1) < List.length l + 1 - Int.toNat b.i ∧ True)) ∧ (ltb b.i (↑(List.length l) : Int) = false → 0 = chkI l ∧ True)))) := by kernel_rfl

end Go.Proofs.YtmnaghfndigfkaaDoor.X
