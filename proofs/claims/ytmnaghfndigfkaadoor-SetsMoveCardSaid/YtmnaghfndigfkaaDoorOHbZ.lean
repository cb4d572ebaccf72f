/-
 What is to be shown of the functions (made by a program).
-/
import Derived.Test.YtmnaghfndigfkaaDoorDNZ
import Derived.KernelRfl

set_option maxRecDepth 1000000
set_option linter.unusedVariables false
namespace Go.Proofs.YtmnaghfndigfkaaDoor.X
open Go Go.Ab

theorem ob_o97_00 (x y : Int) : fnP (TH97) G 10000 fe97 (.r [] 0 (.r [yL 132, yL 133] 59 (.lit (.r [] 127 (.r [] 219 (.r [] 3 (.cnd (.r [] 1 .nil) (.r [] 3 .nil)))))))) ([.agg [.int .i64 x, .int .i64 y, .int .u8 0], .int .u8 0]) (nbL x y 0 0) ([]) = (
(!bI (vldC (x, y, 0)) 0 1 != 0) = true ∧ inR IntKind.i64 (0 + x) = true ∧ inR IntKind.i64 (-1 + y) = true ∧ ((bI (vldC (0 + x, -1 + y, 2)) 0 1 != 0) = true → 0 = nbX x y 0 0 ∧ 0 = nbY x y 0 0 ∧ 0 =
nbQ x y 0 0 ∧ 3 = nbE x y 0 0 ∧ True) ∧ ((bI (vldC (0 + x, -1 + y, 2)) 0 1 != 0) = false → 0 + x = nbX x y 0 0 ∧ -1 + y = nbY x y 0 0 ∧ 2 = nbQ x y 0 0 ∧ 0 = nbE x y 0 0 ∧ True)) := by kernel_rfl

theorem ob_o97_01 (x y : Int) : fnP (TH97) G 10000 fe97 (.r [] 0 (.r [yL 132, yL 133] 59 (.lit (.r [] 127 (.r [] 219 (.r [] 3 (.cnd (.r [] 1 .nil) (.r [] 3 .nil)))))))) ([.agg [.int .i64 x, .int .i64 y, .int .u8 0], .int .u8 1]) (nbL x y 0 1) ([]) = (
(!bI (vldC (x, y, 0)) 0 1 != 0) = true ∧ inR IntKind.i64 (0 + x) = true ∧ inR IntKind.i64 (0 + y) = true ∧ ((bI (vldC (0 + x, 0 + y, 1)) 0 1 != 0) = true → 0 = nbX x y 0 1 ∧ 0 = nbY x y 0 1 ∧ 0 = nbQ
x y 0 1 ∧ 3 = nbE x y 0 1 ∧ True) ∧ ((bI (vldC (0 + x, 0 + y, 1)) 0 1 != 0) = false → 0 + x = nbX x y 0 1 ∧ 0 + y = nbY x y 0 1 ∧ 1 = nbQ x y 0 1 ∧ 0 = nbE x y 0 1 ∧ True)) := by kernel_rfl

theorem ob_o97_02 (x y : Int) : fnP (TH97) G 10000 fe97 (.r [] 0 (.r [yL 132, yL 133] 59 (.lit (.r [] 127 (.r [] 219 (.r [] 3 (.cnd (.r [] 1 .nil) (.r [] 3 .nil)))))))) ([.agg [.int .i64 x, .int .i64 y, .int .u8 0], .int .u8 2]) (nbL x y 0 2) ([]) = (
(!bI (vldC (x, y, 0)) 0 1 != 0) = true ∧ inR IntKind.i64 (0 + x) = true ∧ inR IntKind.i64 (0 + y) = true ∧ ((bI (vldC (0 + x, 0 + y, 3)) 0 1 != 0) = true → 0 = nbX x y 0 2 ∧ 0 = nbY x y 0 2 ∧ 0 = nbQ
x y 0 2 ∧ 3 = nbE x y 0 2 ∧ True) ∧ ((bI (vldC (0 + x, 0 + y, 3)) 0 1 != 0) = false → 0 + x = nbX x y 0 2 ∧ 0 + y = nbY x y 0 2 ∧ 3 = nbQ x y 0 2 ∧ 0 = nbE x y 0 2 ∧ True)) := by kernel_rfl

theorem ob_o97_10 (x y : Int) : fnP (TH97) G 10000 fe97 (.r [] 0 (.r [yL 132, yL 133] 59 (.lit (.r [] 127 (.r [] 219 (.r [] 3 (.cnd (.r [] 1 .nil) (.r [] 3 .nil)))))))) ([.agg [.int .i64 x, .int .i64 y, .int .u8 1], .int .u8 0]) (nbL x y 1 0) ([]) = (
(!bI (vldC (x, y, 1)) 0 1 != 0) = true ∧ inR IntKind.i64 (1 + x) = true ∧ inR IntKind.i64 (0 + y) = true ∧ ((bI (vldC (1 + x, 0 + y, 3)) 0 1 != 0) = true → 0 = nbX x y 1 0 ∧ 0 = nbY x y 1 0 ∧ 0 = nbQ
x y 1 0 ∧ 3 = nbE x y 1 0 ∧ True) ∧ ((bI (vldC (1 + x, 0 + y, 3)) 0 1 != 0) = false → 1 + x = nbX x y 1 0 ∧ 0 + y = nbY x y 1 0 ∧ 3 = nbQ x y 1 0 ∧ 0 = nbE x y 1 0 ∧ True)) := by kernel_rfl

theorem ob_o97_11 (x y : Int) : fnP (TH97) G 10000 fe97 (.r [] 0 (.r [yL 132, yL 133] 59 (.lit (.r [] 127 (.r [] 219 (.r [] 3 (.cnd (.r [] 1 .nil) (.r [] 3 .nil)))))))) ([.agg [.int .i64 x, .int .i64 y, .int .u8 1], .int .u8 1]) (nbL x y 1 1) ([]) = (
(!bI (vldC (x, y, 1)) 0 1 != 0) = true ∧ inR IntKind.i64 (0 + x) = true ∧ inR IntKind.i64 (0 + y) = true ∧ ((bI (vldC (0 + x, 0 + y, 0)) 0 1 != 0) = true → 0 = nbX x y 1 1 ∧ 0 = nbY x y 1 1 ∧ 0 = nbQ
x y 1 1 ∧ 3 = nbE x y 1 1 ∧ True) ∧ ((bI (vldC (0 + x, 0 + y, 0)) 0 1 != 0) = false → 0 + x = nbX x y 1 1 ∧ 0 + y = nbY x y 1 1 ∧ 0 = nbQ x y 1 1 ∧ 0 = nbE x y 1 1 ∧ True)) := by kernel_rfl

theorem ob_o97_12 (x y : Int) : fnP (TH97) G 10000 fe97 (.r [] 0 (.r [yL 132, yL 133] 59 (.lit (.r [] 127 (.r [] 219 (.r [] 3 (.cnd (.r [] 1 .nil) (.r [] 3 .nil)))))))) ([.agg [.int .i64 x, .int .i64 y, .int .u8 1], .int .u8 2]) (nbL x y 1 2) ([]) = (
(!bI (vldC (x, y, 1)) 0 1 != 0) = true ∧ inR IntKind.i64 (0 + x) = true ∧ inR IntKind.i64 (0 + y) = true ∧ ((bI (vldC (0 + x, 0 + y, 2)) 0 1 != 0) = true → 0 = nbX x y 1 2 ∧ 0 = nbY x y 1 2 ∧ 0 = nbQ
x y 1 2 ∧ 3 = nbE x y 1 2 ∧ True) ∧ ((bI (vldC (0 + x, 0 + y, 2)) 0 1 != 0) = false → 0 + x = nbX x y 1 2 ∧ 0 + y = nbY x y 1 2 ∧ 2 = nbQ x y 1 2 ∧ 0 = nbE x y 1 2 ∧ True)) := by kernel_rfl

theorem ob_o97_20 (x y : Int) : fnP (TH97) G 10000 fe97 (.r [] 0 (.r [yL 132, yL 133] 59 (.lit (.r [] 127 (.r [] 219 (.r [] 3 (.cnd (.r [] 1 .nil) (.r [] 3 .nil)))))))) ([.agg [.int .i64 x, .int .i64 y, .int .u8 2], .int .u8 0]) (nbL x y 2 0) ([]) = (
(!bI (vldC (x, y, 2)) 0 1 != 0) = true ∧ inR IntKind.i64 (0 + x) = true ∧ inR IntKind.i64 (1 + y) = true ∧ ((bI (vldC (0 + x, 1 + y, 0)) 0 1 != 0) = true → 0 = nbX x y 2 0 ∧ 0 = nbY x y 2 0 ∧ 0 = nbQ
x y 2 0 ∧ 3 = nbE x y 2 0 ∧ True) ∧ ((bI (vldC (0 + x, 1 + y, 0)) 0 1 != 0) = false → 0 + x = nbX x y 2 0 ∧ 1 + y = nbY x y 2 0 ∧ 0 = nbQ x y 2 0 ∧ 0 = nbE x y 2 0 ∧ True)) := by kernel_rfl

theorem ob_o97_21 (x y : Int) : fnP (TH97) G 10000 fe97 (.r [] 0 (.r [yL 132, yL 133] 59 (.lit (.r [] 127 (.r [] 219 (.r [] 3 (.cnd (.r [] 1 .nil) (.r [] 3 .nil)))))))) ([.agg [.int .i64 x, .int .i64 y, .int .u8 2], .int .u8 1]) (nbL x y 2 1) ([]) = (
(!bI (vldC (x, y, 2)) 0 1 != 0) = true ∧ inR IntKind.i64 (0 + x) = true ∧ inR IntKind.i64 (0 + y) = true ∧ ((bI (vldC (0 + x, 0 + y, 3)) 0 1 != 0) = true → 0 = nbX x y 2 1 ∧ 0 = nbY x y 2 1 ∧ 0 = nbQ
x y 2 1 ∧ 3 = nbE x y 2 1 ∧ True) ∧ ((bI (vldC (0 + x, 0 + y, 3)) 0 1 != 0) = false → 0 + x = nbX x y 2 1 ∧ 0 + y = nbY x y 2 1 ∧ 3 = nbQ x y 2 1 ∧ 0 = nbE x y 2 1 ∧ True)) := by kernel_rfl

theorem ob_o97_22 (x y : Int) : fnP (TH97) G 10000 fe97 (.r [] 0 (.r [yL 132, yL 133] 59 (.lit (.r [] 127 (.r [] 219 (.r [] 3 (.cnd (.r [] 1 .nil) (.r [] 3 .nil)))))))) ([.agg [.int .i64 x, .int .i64 y, .int .u8 2], .int .u8 2]) (nbL x y 2 2) ([]) = (
(!bI (vldC (x, y, 2)) 0 1 != 0) = true ∧ inR IntKind.i64 (0 + x) = true ∧ inR IntKind.i64 (0 + y) = true ∧ ((bI (vldC (0 + x, 0 + y, 1)) 0 1 != 0) = true → 0 = nbX x y 2 2 ∧ 0 = nbY x y 2 2 ∧ 0 = nbQ
x y 2 2 ∧ 3 = nbE x y 2 2 ∧ True) ∧ ((bI (vldC (0 + x, 0 + y, 1)) 0 1 != 0) = false → 0 + x = nbX x y 2 2 ∧ 0 + y = nbY x y 2 2 ∧ 1 = nbQ x y 2 2 ∧ 0 = nbE x y 2 2 ∧ True)) := by kernel_rfl

theorem ob_o97_30 (x y : Int) : fnP (TH97) G 10000 fe97 (.r [] 0 (.r [yL 132, yL 133] 59 (.lit (.r [] 127 (.r [] 219 (.r [] 3 (.cnd (.r [] 1 .nil) (.r [] 3 .nil)))))))) ([.agg [.int .i64 x, .int .i64 y, .int .u8 3], .int .u8 0]) (nbL x y 3 0) ([]) = (
(!bI (vldC (x, y, 3)) 0 1 != 0) = true ∧ inR IntKind.i64 (-1 + x) = true ∧ inR IntKind.i64 (0 + y) = true ∧ ((bI (vldC (-1 + x, 0 + y, 1)) 0 1 != 0) = true → 0 = nbX x y 3 0 ∧ 0 = nbY x y 3 0 ∧ 0 =
nbQ x y 3 0 ∧ 3 = nbE x y 3 0 ∧ True) ∧ ((bI (vldC (-1 + x, 0 + y, 1)) 0 1 != 0) = false → -1 + x = nbX x y 3 0 ∧ 0 + y = nbY x y 3 0 ∧ 1 = nbQ x y 3 0 ∧ 0 = nbE x y 3 0 ∧ True)) := by kernel_rfl

theorem ob_o97_31 (x y : Int) : fnP (TH97) G 10000 fe97 (.r [] 0 (.r [yL 132, yL 133] 59 (.lit (.r [] 127 (.r [] 219 (.r [] 3 (.cnd (.r [] 1 .nil) (.r [] 3 .nil)))))))) ([.agg [.int .i64 x, .int .i64 y, .int .u8 3], .int .u8 1]) (nbL x y 3 1) ([]) = (
(!bI (vldC (x, y, 3)) 0 1 != 0) = true ∧ inR IntKind.i64 (0 + x) = true ∧ inR IntKind.i64 (0 + y) = true ∧ ((bI (vldC (0 + x, 0 + y, 2)) 0 1 != 0) = true → 0 = nbX x y 3 1 ∧ 0 = nbY x y 3 1 ∧ 0 = nbQ
x y 3 1 ∧ 3 = nbE x y 3 1 ∧ True) ∧ ((bI (vldC (0 + x, 0 + y, 2)) 0 1 != 0) = false → 0 + x = nbX x y 3 1 ∧ 0 + y = nbY x y 3 1 ∧ 2 = nbQ x y 3 1 ∧ 0 = nbE x y 3 1 ∧ True)) := by kernel_rfl

theorem ob_o97_32 (x y : Int) : fnP (TH97) G 10000 fe97 (.r [] 0 (.r [yL 132, yL 133] 59 (.lit (.r [] 127 (.r [] 219 (.r [] 3 (.cnd (.r [] 1 .nil) (.r [] 3 .nil)))))))) ([.agg [.int .i64 x, .int .i64 y, .int .u8 3], .int .u8 2]) (nbL x y 3 2) ([]) = (
(!bI (vldC (x, y, 3)) 0 1 != 0) = true ∧ inR IntKind.i64 (0 + x) = true ∧ inR IntKind.i64 (0 + y) = true ∧ ((bI (vldC (0 + x, 0 + y, 0)) 0 1 != 0) = true → 0 = nbX x y 3 2 ∧ 0 = nbY x y 3 2 ∧ 0 = nbQ
x y 3 2 ∧ 3 = nbE x y 3 2 ∧ True) ∧ ((bI (vldC (0 + x, 0 + y, 0)) 0 1 != 0) = false → 0 + x = nbX x y 3 2 ∧ 0 + y = nbY x y 3 2 ∧ 0 = nbQ x y 3 2 ∧ 0 = nbE x y 3 2 ∧ True)) := by kernel_rfl

end Go.Proofs.YtmnaghfndigfkaaDoor.X

/-
 What is to be shown of the functions (made by a program).
-/
set_option maxRecDepth 1000000
set_option linter.unusedVariables false
namespace Go.Proofs.YtmnaghfndigfkaaDoor.X
open Go Go.Ab

theorem ob_o96 (l : List Cl) : fnP (T0) G 10000 fe96 (.r [] 0 (.r [] 0 (.r [] 0 (.lp (l96 l) [] [] (fun b => (.r [] 0 (.cnd (.r [(321, .auto, Dr.val (kV l b.i))] 64 (.r [] 1 (.r [] 0 .nil))) (.r [] 0 .nil)))))))) ([cls l]) ([.mp 0]) ([mpB (memS l ([], 0)).1 (memS l ([], 0)).2]) = (
0 = 0 ∧ ([] : List (List Int × List Int × Nat)) = [] ∧ 0 = 0 ∧ Cont.vals (flatK l) = Cont.vals (flatK l) ∧ List.length l = List.length l ∧ (↑(List.length l) : Int) = (↑(List.length l) : Int) ∧ iI 0 =
0 ∧ (∃ (n : Nat), 0 = (↑n : Int) ∧ n ≤ List.length l ∧ memS (List.drop n l) ([], 0) = memS l ([], 0)) ∧ ∀ (b : L96), (∃ (n : Nat), b.i = (↑n : Int) ∧ n ≤ List.length l ∧ memS (List.drop n l) (b.es,
b.k) = memS l ([], 0)) → (ltb b.i (↑(List.length l) : Int) = true → leb 0 b.i = true ∧ ltb b.i (↑(List.length l) : Int) = true ∧ ltn 0 (Cont.size (Cont.vals (flatK l))) = true ∧ (List.drop (Int.toNat
b.i * 3) (flatK l))[0]? = some (AV.int IntKind.i64 (kX l b.i)) ∧ (List.drop (Int.toNat b.i * 3) (flatK l))[1]? = some (AV.int IntKind.i64 (kY l b.i)) ∧ (List.drop (Int.toNat b.i * 3) (flatK l))[2]? =
some (AV.int IntKind.u8 (kQ l b.i)) ∧ inR IntKind.i64 (b.i + 1) = true ∧ 0 = 0 ∧ mput b.es [kX l b.i, kY l b.i, kQ l b.i] [1] b.k = mput b.es [kX l b.i, kY l b.i, kQ l b.i] [1] b.k ∧ mck b.es [kX l
b.i, kY l b.i, kQ l b.i] b.k = mck b.es [kX l b.i, kY l b.i, kQ l b.i] b.k ∧ Cont.vals (flatK l) = Cont.vals (flatK l) ∧ List.length l = List.length l ∧ (↑(List.length l) : Int) = (↑(List.length l) :
Int) ∧ b.i + 1 = b.i + 1 ∧ (∃ (n : Nat), b.i + 1 = (↑n : Int) ∧ n ≤ List.length l ∧ memS (List.drop n l) (mput b.es [kX l b.i, kY l b.i, kQ l b.i] [1] b.k, mck b.es [kX l b.i, kY l b.i, kQ l b.i] b.k)
= memS l ([], 0)) ∧ List.length l - Int.toNat (b.i + 1) < List.length l - Int.toNat b.i ∧ True) ∧ (ltb b.i (↑(List.length l) : Int) = false → 0 = 0 ∧ b.es = (memS l ([], 0)).fst ∧ b.k = (memS l ([],
0)).snd ∧ True)) := by kernel_rfl

end Go.Proofs.YtmnaghfndigfkaaDoor.X
