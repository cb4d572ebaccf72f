/-
 What is to be shown of the functions (made by a program).
-/
import Derived.Test.YtmnaghfndigfkaaDoorDHZ
import Derived.KernelRfl
set_option maxRecDepth 1000000
set_option linter.unusedVariables false
namespace Go.Proofs.YtmnaghfndigfkaaDoor.X
open Go Go.Ab

theorem ob_o97_00 (x y : Int) : fnP (TH97) G 10000 fe97 (.r [] 0 (.r [yL 132, yL 133] 59 (.lit (.r [] 127 (.r [] 219 (.r [] 3 (.cnd (.r [] 1 .nil) (.r [] 3 .nil)))))))) ([.agg [.int .i64 x, .int .i64 y, .int .u8 0], .int .u8 0]) (nbL x y 0 0) ([]) = (
(!bI (vldC (x, y, 0)) 0 1 != 0) = true ∧ inR IntKind.i64 (0 + x) = true ∧ inR IntKind.i64 (-1 + y) = true ∧ ((bI (vldC (0 + x, -1 + y, 2)) 0 1 != 0) = true → 0 = nbX x y 0 0 ∧ 0 = nbY x y 0 0 ∧ 0 =
nbQ x y 0 0 ∧ 3 = nbE x y 0 0 ∧ True) ∧ ((bI (vldC (0 + x, -1 + y, 2)) 0 1 != 0) = false → 0 + x = nbX x y 0 0 ∧ -1 + y = nbY x y 0 0 ∧ 2 = nbQ x y 0 0 ∧ 0 = nbE x y 0 0 ∧ True)) := by kernel_rfl

theorem ob_o97_01 (x y : Int) : fnP (TH97) G 10000 fe97 (.r [] 0 (.r [yL 132, yL 133] 59 (.lit (.r [] 127 (.r [] 219 (.r [] 3 (.cnd (.r [] 1 .nil) (.r [] 3 .nil)))))))) ([.agg [.int .i64 x, .int .i64 y, .int .u8 0], .int .u8 1]) (nbL x y 0 1) ([]) = (
(!bI (vldC (x, y, 0)) 0 1 != 0) = true ∧ inR IntKind.i64 (0 + x) = true ∧ inR IntKind.i64 (0 + y) = true ∧ ((bI (vldC (0 + x, 0 + y, 1)) 0 1 != 0) = true → 0 = nbX x y 0 1 ∧ 0 = nbY x y 0 1 ∧ 0 = nbQ
x y 0 1 ∧ 3 = nbE x y 0 1 ∧ True) ∧ ((bI (vldC (0 + x, 0 + y, 1)) 0 1 != 0) = false → 0 + x = nbX x y 0 1 ∧ 0 + y = nbY x y 0 1 ∧ 1 = nbQ x y 0 1 ∧ 0 = nbE x y 0 1 ∧ True)) := by kernel_rfl

theorem ob_o97_02 (x y : Int) : fnP (TH97) G 10000 fe97 (.r [] 0 (.r [yL 132, yL 133] 59 (.lit (.r [] 127 (.r [] 219 (.r [] 3 (.cnd (.r [] 1 .nil) (.r [] 3 .nil)))))))) ([.agg [.int .i64 x, .int .i64 y, .int .u8 0], .int .u8 2]) (nbL x y 0 2) ([]) = (
(!bI (vldC (x, y, 0)) 0 1 != 0) = true ∧ inR IntKind.i64 (0 + x) = true ∧ inR IntKind.i64 (0 + y) = true ∧ ((bI (vldC (0 + x, 0 + y, 3)) 0 1 != 0) = true → 0 = nbX x y 0 2 ∧ 0 = nbY x y 0 2 ∧ 0 = nbQ
x y 0 2 ∧ 3 = nbE x y 0 2 ∧ True) ∧ ((bI (vldC (0 + x, 0 + y, 3)) 0 1 != 0) = false → 0 + x = nbX x y 0 2 ∧ 0 + y = nbY x y 0 2 ∧ 3 = nbQ x y 0 2 ∧ 0 = nbE x y 0 2 ∧ True)) := by kernel_rfl

theorem ob_o97_10 (x y : Int) : fnP (TH97) G 10000 fe97 (.r [] 0 (.r [yL 132, yL 133] 59 (.lit (.r [] 127 (.r [] 219 (.r [] 3 (.cnd (.r [] 1 .nil) (.r [] 3 .nil)))))))) ([.agg [.int .i64 x, .int .i64 y, .int .u8 1], .int .u8 0]) (nbL x y 1 0) ([]) = (
(!bI (vldC (x, y, 1)) 0 1 != 0) = true ∧ inR IntKind.i64 (1 + x) = true ∧ inR IntKind.i64 (0 + y) = true ∧ ((bI (vldC (1 + x, 0 + y, 3)) 0 1 != 0) = true → 0 = nbX x y 1 0 ∧ 0 = nbY x y 1 0 ∧ 0 = nbQ
x y 1 0 ∧ 3 = nbE x y 1 0 ∧ True) ∧ ((bI (vldC (1 + x, 0 + y, 3)) 0 1 != 0) = false → 1 + x = nbX x y 1 0 ∧ 0 + y = nbY x y 1 0 ∧ 3 = nbQ x y 1 0 ∧ 0 = nbE x y 1 0 ∧ True)) := by kernel_rfl

theorem ob_o97_11 (x y : Int) : fnP (TH97) G 10000 fe97 (.r [] 0 (.r [yL 132, yL 133] 59 (.lit (.r [] 127 (.r [] 219 (.r [] 3 (.cnd (.r [] 1 .nil) (.r [] 3 .nil)))))))) ([.agg [.int .i64 x, .int .i64 y, .int .u8 1], .int .u8 1]) (nbL x y 1 1) ([]) = (
(!bI (vldC (x, y, 1)) 0 1 != 0) = true ∧ inR IntKind.i64 (0 + x) = true ∧ inR IntKind.i64 (0 + y) = true ∧ ((bI (vldC (0 + x, 0 + y, 0)) 0 1 != 0) = true → 0 = nbX x y 1 1 ∧ 0 = nbY x y 1 1 ∧ 0 = nbQ
x y 1 1 ∧ 3 = nbE x y 1 1 ∧ True) ∧ ((bI (vldC (0 + x, 0 + y, 0)) 0 1 != 0) = false → 0 + x = nbX x y 1 1 ∧ 0 + y = nbY x y 1 1 ∧ 0 = nbQ x y 1 1 ∧ 0 = nbE x y 1 1 ∧ True)) := by kernel_rfl

theorem ob_o97_12 (x y : Int) : fnP (TH97) G 10000 fe97 (.r [] 0 (.r [yL 132, yL 133] 59 (.lit (.r [] 127 (.r [] 219 (.r [] 3 (.cnd (.r [] 1 .nil) (.r [] 3 .nil)))))))) ([.agg [.int .i64 x, .int .i64 y, .int .u8 1], .int .u8 2]) (nbL x y 1 2) ([]) = (
(!bI (vldC (x, y, 1)) 0 1 != 0) = true ∧ inR IntKind.i64 (0 + x) = true ∧ inR IntKind.i64 (0 + y) = true ∧ ((bI (vldC (0 + x, 0 + y, 2)) 0 1 != 0) = true → 0 = nbX x y 1 2 ∧ 0 = nbY x y 1 2 ∧ 0 = nbQ
x y 1 2 ∧ 3 = nbE x y 1 2 ∧ True) ∧ ((bI (vldC (0 + x, 0 + y, 2)) 0 1 != 0) = false → 0 + x = nbX x y 1 2 ∧ 0 + y = nbY x y 1 2 ∧ 2 = nbQ x y 1 2 ∧ 0 = nbE x y 1 2 ∧ True)) := by kernel_rfl

theorem ob_o97_20 (x y : Int) : fnP (TH97) G 10000 fe97 (.r [] 0 (.r [yL 132, yL 133] 59 (.lit (.r [] 127 (.r [] 219 (.r [] 3 (.cnd (.r [] 1 .nil) (.r [] 3 .nil)))))))) ([.agg [.int .i64 x, .int .i64 y, .int .u8 2], .int .u8 0]) (nbL x y 2 0) ([]) = (
(!bI (vldC (x, y, 2)) 0 1 != 0) = true ∧ inR IntKind.i64 (0 + x) = true ∧ inR IntKind.i64 (1 + y) = true ∧ ((bI (vldC (0 + x, 1 + y, 0)) 0 1 != 0) = true → 0 = nbX x y 2 0 ∧ 0 = nbY x y 2 0 ∧ 0 = nbQ
x y 2 0 ∧ 3 = nbE x y 2 0 ∧ True) ∧ ((bI (vldC (0 + x, 1 + y, 0)) 0 1 != 0) = false → 0 + x = nbX x y 2 0 ∧ 1 + y = nbY x y 2 0 ∧ 0 = nbQ x y 2 0 ∧ 0 = nbE x y 2 0 ∧ True)) := by kernel_rfl

theorem ob_o97_21 (x y : Int) : fnP (TH97) G 10000 fe97 (.r [] 0 (.r [yL 132, yL 133] 59 (.lit (.r [] 127 (.r [] 219 (.r [] 3 (.cnd (.r [] 1 .nil) (.r [] 3 .nil)))))))) ([.agg [.int .i64 x, .int .i64 y, .int .u8 2], .int .u8 1]) (nbL x y 2 1) ([]) = (
(!bI (vldC (x, y, 2)) 0 1 != 0) = true ∧ inR IntKind.i64 (0 + x) = true ∧ inR IntKind.i64 (0 + y) = true ∧ ((bI (vldC (0 + x, 0 + y, 3)) 0 1 != 0) = true → 0 = nbX x y 2 1 ∧ 0 = nbY x y 2 1 ∧ 0 = nbQ
x y 2 1 ∧ 3 = nbE x y 2 1 ∧ True) ∧ ((bI (vldC (0 + x, 0 + y, 3)) 0 1 != 0) = false → 0 + x = nbX x y 2 1 ∧ 0 + y = nbY x y 2 1 ∧ 3 = nbQ x y 2 1 ∧ 0 = nbE x y 2 1 ∧ True)) := by kernel_rfl

theorem ob_o97_22 (x y : Int) : fnP (TH97) G 10000 fe97 (.r [] 0 (.r [yL 132, yL 133] 59 (.lit (.r [] 127 (.r [] 219 (.r [] 3 (.cnd (.r [] 1 .nil) (.r [] 3 .nil)))))))) ([.agg [.int .i64 x, .int .i64 y, .int .u8 2], .int .u8 2]) (nbL x y 2 2) ([]) = (
(!bI (vldC (x, y, 2)) 0 1 != 0) = true ∧ inR IntKind.i64 (0 + x) = true ∧ inR IntKind.i64 (0 + y) = true ∧ ((bI (vldC (0 + x, 0 + y, 1)) 0 1 != 0) = true → 0 = nbX x y 2 2 ∧ 0 = nbY x y 2 2 ∧ 0 = nbQ
x y 2 2 ∧ 3 = nbE x y 2 2 ∧ True) ∧ ((bI (vldC (0 + x, 0 + y, 1)) 0 1 != 0) = false → 0 + x = nbX x y 2 2 ∧ 0 + y = nbY x y 2 2 ∧ 1 = nbQ x y 2 2 ∧ 0 = nbE x y 2 2 ∧ True)) := by kernel_rfl

theorem ob_o97_30 (x y : Int) : fnP (TH97) G 10000 fe97 (.r [] 0 (.r [yL 132, yL 133] 59 (.lit (.r [] 127 (.r [] 219 (.r [] 3 (.cnd (.r [] 1 .nil) (.r [] 3 .nil)))))))) ([.agg [.int .i64 x, .int .i64 y, .int .u8 3], .int .u8 0]) (nbL x y 3 0) ([]) = (
(!bI (vldC (x, y, 3)) 0 1 != 0) = true ∧ inR IntKind.i64 (-1 + x) = true ∧ inR IntKind.i64 (0 + y) = true ∧ ((bI (vldC (-1 + x, 0 + y, 1)) 0 1 != 0) = true → 0 = nbX x y 3 0 ∧ 0 = nbY x y 3 0 ∧ 0 =
nbQ x y 3 0 ∧ 3 = nbE x y 3 0 ∧ True) ∧ ((bI (vldC (-1 + x, 0 + y, 1)) 0 1 != 0) = false → -1 + x = nbX x y 3 0 ∧ 0 + y = nbY x y 3 0 ∧ 1 = nbQ x y 3 0 ∧ 0 = nbE x y 3 0 ∧ True)) := by kernel_rfl

theorem ob_o97_31 (x y : Int) : fnP (TH97) G 10000 fe97 (.r [] 0 (.r [yL 132, yL 133] 59 (.lit (.r [] 127 (.r [] 219 (.r [] 3 (.cnd (.r [] 1 .nil) (.r [] 3 .nil)))))))) ([.agg [.int .i64 x, .int .i64 y, .int .u8 3], .int .u8 1]) (nbL x y 3 1) ([]) = (
(!bI (vldC (x, y, 3)) 0 1 != 0) = true ∧ inR IntKind.i64 (0 + x) = true ∧ inR IntKind.i64 (0 + y) = true ∧ ((bI (vldC (0 + x, 0 + y, 2)) 0 1 != 0) = true → 0 = nbX x y 3 1 ∧ 0 = nbY x y 3 1 ∧ 0 = nbQ
x y 3 1 ∧ 3 = nbE x y 3 1 ∧ True) ∧ ((bI (vldC (0 + x, 0 + y, 2)) 0 1 != 0) = false → 0 + x = nbX x y 3 1 ∧ 0 + y = nbY x y 3 1 ∧ 2 = nbQ x y 3 1 ∧ 0 = nbE x y 3 1 ∧ True)) := by kernel_rfl

theorem ob_o97_32 (x y : Int) : fnP (TH97) G 10000 fe97 (.r [] 0 (.r [yL 132, yL 133] 59 (.lit (.r [] 127 (.r [] 219 (.r [] 3 (.cnd (.r [] 1 .nil) (.r [] 3 .nil)))))))) ([.agg [.int .i64 x, .int .i64 y, .int .u8 3], .int .u8 2]) (nbL x y 3 2) ([]) = (
(!bI (vldC (x, y, 3)) 0 1 != 0) = true ∧ inR IntKind.i64 (0 + x) = true ∧ inR IntKind.i64 (0 + y) = true ∧ ((bI (vldC (0 + x, 0 + y, 0)) 0 1 != 0) = true → 0 = nbX x y 3 2 ∧ 0 = nbY x y 3 2 ∧ 0 = nbQ
x y 3 2 ∧ 3 = nbE x y 3 2 ∧ True) ∧ ((bI (vldC (0 + x, 0 + y, 0)) 0 1 != 0) = false → 0 + x = nbX x y 3 2 ∧ 0 + y = nbY x y 3 2 ∧ 0 = nbQ x y 3 2 ∧ 0 = nbE x y 3 2 ∧ True)) := by kernel_rfl

theorem ob_o44 (l : List Cl) : fnP (TH44) G 10000 fe44 (.r [] 0 (.r [] 0 (.r [] 0 (.cnd (.r [] 0 .nil) (.r [] 0 (.r [] 0 (.gho 5 9001 3 (Cont.vals []) (.lp (l44 l) [] [] (fun b => (.r [] 0 (.cnd (.r [(514, .auto, Dr.val (kV l b.i))] 64 (.r [yM 580, yM 581, yM 582, yM 583, yM 584, yM 587, yM 588, yM 589, yM 590, (591, .may, Dr.val (kV l (b.i + 3))), yM 592, yM 593, yM 594, yM 595, yM 596, yM 597] 139460673 (.cnd (.r [] 9 (.r [] 0 .nil)) (.r [] 0 .nil)))) (.r [] 0 .nil)))))))))))) ([cls l]) ([.imm (.vals (flatK (sqX l))) (sqX l).length (some (sqX l).length), .int .i64 (chkI l)]) ([]) = (
(okL (flatK l) (List.length l) ∧ okQ (unK (flatK l))) ∧ ((chkI (unK (flatK l)) != 0) = true → Cont.size (Cont.vals (flatK (sqX l))) = 0 ∧ List.length (sqX l) = 0 ∧ List.length (sqX l) = 0 ∧ chkI (unK
(flatK l)) = chkI l ∧ True) ∧ ((chkI (unK (flatK l)) != 0) = false → 0 = 0 ∧ ([] : List AV) = [] ∧ Cont.vals (flatK l) = Cont.vals (flatK l) ∧ List.length l = List.length l ∧ 0 = 0 ∧ Cont.vals (flatK
l) = Cont.vals (flatK l) ∧ List.length l = List.length l ∧ (↑(List.length l) : Int) = (↑(List.length l) : Int) ∧ iI 0 = 0 ∧ (∃ (n : Nat), 0 = (↑n : Int) ∧ n ≤ List.length l ∧ [] = flatK (sqL l n) ∧ 0
= List.length (sqL l n)) ∧ ∀ (b : L44), (∃ (n : Nat), b.i = (↑n : Int) ∧ n ≤ List.length l ∧ b.o = flatK (sqL l n) ∧ b.n = List.length (sqL l n)) → (ltb b.i (↑(List.length l) : Int) = true → leb 0 b.i
= true ∧ ltb b.i (↑(List.length l) : Int) = true ∧ ltn 0 (Cont.size (Cont.vals (flatK l))) = true ∧ (List.drop (Int.toNat b.i * 3) (flatK l))[0]? = some (AV.int IntKind.i64 (kX l b.i)) ∧ (List.drop
(Int.toNat b.i * 3) (flatK l))[1]? = some (AV.int IntKind.i64 (kY l b.i)) ∧ (List.drop (Int.toNat b.i * 3) (flatK l))[2]? = some (AV.int IntKind.u8 (kQ l b.i)) ∧ ((kQ l b.i == 0) = true → (kQ l b.i ==
0) = true) ∧ ((kQ l b.i == 0) = true → inR IntKind.i64 (b.i + 3) = true) ∧ ((kQ l b.i == 0) = true → (kQ l b.i == 0) = true) ∧ ((kQ l b.i == 0) = true → (kQ l b.i == 0) = true) ∧ ((kQ l b.i == 0) =
true → (kQ l b.i == 0) = true) ∧ (bif kQ l b.i == 0 then kQ l b.i == 0 && true else true) = true ∧ ((bif kQ l b.i == 0 then ltb (b.i + 3) (↑(List.length l) : Int) else false) = true → (bif kQ l b.i ==
0 then ltb (b.i + 3) (↑(List.length l) : Int) else false) = true) ∧ ((bif kQ l b.i == 0 then ltb (b.i + 3) (↑(List.length l) : Int) else false) = true → inR IntKind.i64 (b.i + 3) = true) ∧ ((bif kQ l
b.i == 0 then ltb (b.i + 3) (↑(List.length l) : Int) else false) = true → (bif kQ l b.i == 0 then ltb (b.i + 3) (↑(List.length l) : Int) else false) = true) ∧ ((bif kQ l b.i == 0 then ltb (b.i + 3)
(↑(List.length l) : Int) else false) = true → (bif kQ l b.i == 0 then ltb (b.i + 3) (↑(List.length l) : Int) else false) = true) ∧ ((bif kQ l b.i == 0 then ltb (b.i + 3) (↑(List.length l) : Int) else
false) = true → leb 0 (b.i + 3) = true) ∧ ((bif kQ l b.i == 0 then ltb (b.i + 3) (↑(List.length l) : Int) else false) = true → ltb (b.i + 3) (↑(List.length l) : Int) = true) ∧ ((bif kQ l b.i == 0 then
ltb (b.i + 3) (↑(List.length l) : Int) else false) = true → ltn 0 (Cont.size (Cont.vals (flatK l))) = true) ∧ ((bif kQ l b.i == 0 then ltb (b.i + 3) (↑(List.length l) : Int) else false) = true → (bif
kQ l b.i == 0 then ltb (b.i + 3) (↑(List.length l) : Int) else false) = true) ∧ ((bif kQ l b.i == 0 then ltb (b.i + 3) (↑(List.length l) : Int) else false) = true → (List.drop (Int.toNat (b.i + 3) *
3) (flatK l))[0]? = some (AV.int IntKind.i64 (kX l (b.i + 3)))) ∧ ((bif kQ l b.i == 0 then ltb (b.i + 3) (↑(List.length l) : Int) else false) = true → (List.drop (Int.toNat (b.i + 3) * 3) (flatK
l))[1]? = some (AV.int IntKind.i64 (kY l (b.i + 3)))) ∧ ((bif kQ l b.i == 0 then ltb (b.i + 3) (↑(List.length l) : Int) else false) = true → (List.drop (Int.toNat (b.i + 3) * 3) (flatK l))[2]? = some
(AV.int IntKind.u8 (kQ l (b.i + 3)))) ∧ ((bif kQ l b.i == 0 then ltb (b.i + 3) (↑(List.length l) : Int) else false) = true → (bif kQ l b.i == 0 then ltb (b.i + 3) (↑(List.length l) : Int) else false)
= true) ∧ ((bif kQ l b.i == 0 then ltb (b.i + 3) (↑(List.length l) : Int) else false) = true → (bif kQ l b.i == 0 then ltb (b.i + 3) (↑(List.length l) : Int) else false) = true) ∧ ((bif kQ l b.i == 0
then ltb (b.i + 3) (↑(List.length l) : Int) else false) = true → (bif kQ l b.i == 0 then ltb (b.i + 3) (↑(List.length l) : Int) else false) = true) ∧ ((bif kQ l b.i == 0 then ltb (b.i + 3)
(↑(List.length l) : Int) else false) = true → (bif kQ l b.i == 0 then ltb (b.i + 3) (↑(List.length l) : Int) else false) = true) ∧ ((bif kQ l b.i == 0 then ltb (b.i + 3) (↑(List.length l) : Int) else
false) = true → (bif kQ l b.i == 0 then ltb (b.i + 3) (↑(List.length l) : Int) else false) = true) ∧ ((bif kQ l b.i == 0 then ltb (b.i + 3) (↑(List.length l) : Int) else false) = true → (bif kQ l b.i
== 0 then ltb (b.i + 3) (↑(List.length l) : Int) else false) = true) ∧ (bif bif kQ l b.i == 0 then ltb (b.i + 3) (↑(List.length l) : Int) else false then (bif kQ l b.i == 0 then ltb (b.i + 3)
(↑(List.length l) : Int) else false) && true else true) = true ∧ ((bif bif kQ l b.i == 0 then ltb (b.i + 3) (↑(List.length l) : Int) else false then kX l (b.i + 3) == kX l b.i && (kY l (b.i + 3) == kY
l b.i && kQ l (b.i + 3) == 3) else false) = true → b.n = b.n ∧ len' ((b.n + 1) * 24) 140737488355328 = true ∧ inR IntKind.i64 (b.i + 1) = true ∧ b.n + 1 = b.n + 1 ∧ b.o ++ [AV.int IntKind.i64 (kX l
b.i), AV.int IntKind.i64 (kY l b.i), AV.int IntKind.u8 (kQ l b.i)] = b.o ++ [AV.int IntKind.i64 (kX l b.i), AV.int IntKind.i64 (kY l b.i), AV.int IntKind.u8 (kQ l b.i)] ∧ Cont.vals (flatK l) =
Cont.vals (flatK l) ∧ List.length l = List.length l ∧ b.n + 1 = b.n + 1 ∧ Cont.vals (flatK l) = Cont.vals (flatK l) ∧ List.length l = List.length l ∧ (↑(List.length l) : Int) = (↑(List.length l) :
Int) ∧ b.i + 1 = b.i + 1 ∧ (∃ (n : Nat), b.i + 1 = (↑n : Int) ∧ n ≤ List.length l ∧ b.o ++ [AV.int IntKind.i64 (kX l b.i), AV.int IntKind.i64 (kY l b.i), AV.int IntKind.u8 (kQ l b.i)] = flatK (sqL l
n) ∧ b.n + 1 = List.length (sqL l n)) ∧ List.length l - Int.toNat (b.i + 1) < List.length l - Int.toNat b.i ∧ True) ∧ ((bif bif kQ l b.i == 0 then ltb (b.i + 3) (↑(List.length l) : Int) else false
then kX l (b.i + 3) == kX l b.i && (kY l (b.i + 3) == kY l b.i && kQ l (b.i + 3) == 3) else false) = false → inR IntKind.i64 (b.i + 1) = true ∧ b.n = b.n ∧ b.o = b.o ∧ Cont.vals (flatK l) = Cont.vals
(flatK l) ∧ List.length l = List.length l ∧ b.n = b.n ∧ Cont.vals (flatK l) = Cont.vals (flatK l) ∧ List.length l = List.length l ∧ (↑(List.length l) : Int) = (↑(List.length l) : Int) ∧ b.i + 1 = b.i
+ 1 ∧ (∃ (n : Nat), b.i + 1 = (↑n : Int) ∧ n ≤ List.length l ∧ b.o = flatK (sqL l n) ∧ b.n = List.length (sqL l n)) ∧ List.length l - Int.toNat (b.i + 1) < List.length l - Int.toNat b.i ∧ True)) ∧
(ltb b.i (↑(List.length l) : Int) = false → b.n = b.n ∧ okL b.o b.n ∧ Cont.vals b.o = Cont.vals (flatK (sqX l)) ∧ b.n = List.length (sqX l) ∧ b.n = List.length (sqX l) ∧ 0 = chkI l ∧ True))) := by kernel_rfl

theorem ob_o98 (a : List AV) (n : Nat) : fnP (T0) G 10000 fe98 (.r [] 0 (.r [] 5 .nil)) ([.imm (.vals a) n none]) ([.imm (.vals a) n (some n)]) ([]) = (
Int.toNat (↑n : Int) = n ∧ Int.toNat (↑n : Int) = n ∧ Cont.size (Cont.vals a) = n * 4 ∧ Cont.vals a = Cont.vals a ∧ n = n ∧ n = n ∧ True) := by kernel_rfl

theorem ob_o43 (l : List Cl) : fnP (TH43) G 10000 fe43 (.r [] 0 (.r [] 0 (.r [] 0 (.cnd (.r [] 0 .nil) (.r [] 0 (.r [] 0 (.r [] 0 (.gho 6 9001 4 (Cont.vals []) (.lp (l43 l) [] [] (fun b => (.r [] 0 (.cnd (.r [(577, .auto, Dr.val (kV l b.i))] 64 (.r [] 0 (.lp (m43 l (kC l b.i) b.o b.n) [] [] (fun b_1 => (.r [] 0 (.cnd (.r [] 0 (.r [] 29 (.rs 3 [] 0 36 (.r [] 3 (.lit (.r [] 9 (.r [] 0 .nil)))) (.r [] 7 (.cnd (.r [] 9 (.r [] 0 .nil)) (.r [] 0 .nil)))))) (.r [] 0 .nil))))))) (.r [] 0 .nil))))))))))))) ([cls l]) ([.imm (.vals (flatE (outX l))) (outX l).length (some (outX l).length), .int .i64 (chkI l)]) ([]) = (
(okL (flatK l) (List.length l) ∧ okQ (unK (flatK l))) ∧ ((chkI (unK (flatK l)) != 0) = true → Cont.size (Cont.vals (flatE (outX l))) = 0 ∧ List.length (outX l) = 0 ∧ List.length (outX l) = 0 ∧ chkI
(unK (flatK l)) = chkI l ∧ True) ∧ ((chkI (unK (flatK l)) != 0) = false → okL (flatK l) (List.length l) ∧ 0 = 0 ∧ (memS (unK (flatK l)) ([], 0)).fst = (memS (unK (flatK l)) ([], 0)).fst ∧ (memS (unK
(flatK l)) ([], 0)).snd = (memS (unK (flatK l)) ([], 0)).snd ∧ 0 = 0 ∧ ([] : List AV) = [] ∧ 0 = 0 ∧ Cont.vals (flatK l) = Cont.vals (flatK l) ∧ List.length l = List.length l ∧ (↑(List.length l) :
Int) = (↑(List.length l) : Int) ∧ iI 0 = 0 ∧ (∃ (n : Nat), 0 = (↑n : Int) ∧ n ≤ List.length l ∧ [] = flatE (outF l n) ∧ 0 = List.length (outF l n)) ∧ ∀ (b : M43), (∃ (n : Nat), b.i = (↑n : Int) ∧ n ≤
List.length l ∧ b.o = flatE (outF l n) ∧ b.n = List.length (outF l n)) → (ltb b.i (↑(List.length l) : Int) = true → leb 0 b.i = true ∧ ltb b.i (↑(List.length l) : Int) = true ∧ ltn 0 (Cont.size
(Cont.vals (flatK l))) = true ∧ (List.drop (Int.toNat b.i * 3) (flatK l))[0]? = some (AV.int IntKind.i64 (kX l b.i)) ∧ (List.drop (Int.toNat b.i * 3) (flatK l))[1]? = some (AV.int IntKind.i64 (kY l
b.i)) ∧ (List.drop (Int.toNat b.i * 3) (flatK l))[2]? = some (AV.int IntKind.u8 (kQ l b.i)) ∧ 0 = 0 ∧ (memS (unK (flatK l)) ([], 0)).fst = (memS (unK (flatK l)) ([], 0)).fst ∧ (memS (unK (flatK l))
([], 0)).snd = (memS (unK (flatK l)) ([], 0)).snd ∧ b.n = b.n ∧ b.o = b.o ∧ 1 = 1 ∧ kX l b.i = kX l b.i ∧ kY l b.i = kY l b.i ∧ kQ l b.i = kQ l b.i ∧ b.n = b.n ∧ Cont.vals (flatK l) = Cont.vals (flatK
l) ∧ List.length l = List.length l ∧ (↑(List.length l) : Int) = (↑(List.length l) : Int) ∧ b.i = b.i ∧ 0 = 0 ∧ iI 0 = 0 ∧ (∃ (n : Nat), 0 = (↑n : Int) ∧ n ≤ 3 ∧ b.o = b.o ++ flatE (outE l (kX l b.i,
kY l b.i, kQ l b.i) n) ∧ b.n = b.n + List.length (outE l (kX l b.i, kY l b.i, kQ l b.i) n)) ∧ ∀ (b_1 : M43), (∃ (n : Nat), b_1.i = (↑n : Int) ∧ n ≤ 3 ∧ b_1.o = b.o ++ flatE (outE l (kX l b.i, kY l
b.i, kQ l b.i) n) ∧ b_1.n = b.n + List.length (outE l (kX l b.i, kY l b.i, kQ l b.i) n)) → (ltb b_1.i 3 = true → (vldC (kX l b.i, kY l b.i, kQ l b.i) = true ∧ 0 ≤ kQ l b.i ∧ 0 ≤ b_1.i ∧ b_1.i ≤ 2) ∧
((nbE (kX l b.i) (kY l b.i) (kQ l b.i) b_1.i != 0) = true → b_1.n = b_1.n ∧ len' ((b_1.n + 1) * 32) 140737488355328 = true ∧ inR IntKind.u8 (b_1.i + 1) = true ∧ 0 = 0 ∧ (memS (unK (flatK l)) ([],
0)).fst = (memS (unK (flatK l)) ([], 0)).fst ∧ (memS (unK (flatK l)) ([], 0)).snd = (memS (unK (flatK l)) ([], 0)).snd ∧ b_1.n + 1 = b_1.n + 1 ∧ b_1.o ++ [AV.int IntKind.i64 (kX l b.i), AV.int
IntKind.i64 (kY l b.i), AV.int IntKind.u8 (kQ l b.i), AV.int IntKind.u8 b_1.i] = b_1.o ++ [AV.int IntKind.i64 (kX l b.i), AV.int IntKind.i64 (kY l b.i), AV.int IntKind.u8 (kQ l b.i), AV.int IntKind.u8
b_1.i] ∧ 1 = 1 ∧ kX l b.i = kX l b.i ∧ kY l b.i = kY l b.i ∧ kQ l b.i = kQ l b.i ∧ b_1.n + 1 = b_1.n + 1 ∧ Cont.vals (flatK l) = Cont.vals (flatK l) ∧ List.length l = List.length l ∧ (↑(List.length l)
: Int) = (↑(List.length l) : Int) ∧ b.i = b.i ∧ 0 = 0 ∧ b_1.i + 1 = b_1.i + 1 ∧ (∃ (n : Nat), b_1.i + 1 = (↑n : Int) ∧ n ≤ 3 ∧ b_1.o ++ [AV.int IntKind.i64 (kX l b.i), AV.int IntKind.i64 (kY l b.i),
AV.int IntKind.u8 (kQ l b.i), AV.int IntKind.u8 b_1.i] = b.o ++ flatE (outE l (kX l b.i, kY l b.i, kQ l b.i) n) ∧ b_1.n + 1 = b.n + List.length (outE l (kX l b.i, kY l b.i, kQ l b.i) n)) ∧ 3 -
Int.toNat (b_1.i + 1) < 3 - Int.toNat b_1.i ∧ True) ∧ ((nbE (kX l b.i) (kY l b.i) (kQ l b.i) b_1.i != 0) = false → ((!List.getD (Option.getD (mget (memS (unK (flatK l)) ([], 0)).fst [nbX (kX l b.i)
(kY l b.i) (kQ l b.i) b_1.i, nbY (kX l b.i) (kY l b.i) (kQ l b.i) b_1.i, nbQ (kX l b.i) (kY l b.i) (kQ l b.i) b_1.i]) []) 0 0 != 0) = true → b_1.n = b_1.n ∧ len' ((b_1.n + 1) * 32) 140737488355328 =
true ∧ inR IntKind.u8 (b_1.i + 1) = true ∧ 0 = 0 ∧ (memS (unK (flatK l)) ([], 0)).fst = (memS (unK (flatK l)) ([], 0)).fst ∧ (memS (unK (flatK l)) ([], 0)).snd = (memS (unK (flatK l)) ([], 0)).snd ∧
b_1.n + 1 = b_1.n + 1 ∧ b_1.o ++ [AV.int IntKind.i64 (kX l b.i), AV.int IntKind.i64 (kY l b.i), AV.int IntKind.u8 (kQ l b.i), AV.int IntKind.u8 b_1.i] = b_1.o ++ [AV.int IntKind.i64 (kX l b.i), AV.int
IntKind.i64 (kY l b.i), AV.int IntKind.u8 (kQ l b.i), AV.int IntKind.u8 b_1.i] ∧ 1 = 1 ∧ kX l b.i = kX l b.i ∧ kY l b.i = kY l b.i ∧ kQ l b.i = kQ l b.i ∧ b_1.n + 1 = b_1.n + 1 ∧ Cont.vals (flatK l) =
Cont.vals (flatK l) ∧ List.length l = List.length l ∧ (↑(List.length l) : Int) = (↑(List.length l) : Int) ∧ b.i = b.i ∧ 0 = 0 ∧ b_1.i + 1 = b_1.i + 1 ∧ (∃ (n : Nat), b_1.i + 1 = (↑n : Int) ∧ n ≤ 3 ∧
b_1.o ++ [AV.int IntKind.i64 (kX l b.i), AV.int IntKind.i64 (kY l b.i), AV.int IntKind.u8 (kQ l b.i), AV.int IntKind.u8 b_1.i] = b.o ++ flatE (outE l (kX l b.i, kY l b.i, kQ l b.i) n) ∧ b_1.n + 1 =
b.n + List.length (outE l (kX l b.i, kY l b.i, kQ l b.i) n)) ∧ 3 - Int.toNat (b_1.i + 1) < 3 - Int.toNat b_1.i ∧ True) ∧ ((!List.getD (Option.getD (mget (memS (unK (flatK l)) ([], 0)).fst [nbX (kX l
b.i) (kY l b.i) (kQ l b.i) b_1.i, nbY (kX l b.i) (kY l b.i) (kQ l b.i) b_1.i, nbQ (kX l b.i) (kY l b.i) (kQ l b.i) b_1.i]) []) 0 0 != 0) = false → inR IntKind.u8 (b_1.i + 1) = true ∧ 0 = 0 ∧ (memS
(unK (flatK l)) ([], 0)).fst = (memS (unK (flatK l)) ([], 0)).fst ∧ (memS (unK (flatK l)) ([], 0)).snd = (memS (unK (flatK l)) ([], 0)).snd ∧ b_1.n = b_1.n ∧ b_1.o = b_1.o ∧ 1 = 1 ∧ kX l b.i = kX l
b.i ∧ kY l b.i = kY l b.i ∧ kQ l b.i = kQ l b.i ∧ b_1.n = b_1.n ∧ Cont.vals (flatK l) = Cont.vals (flatK l) ∧ List.length l = List.length l ∧ (↑(List.length l) : Int) = (↑(List.length l) : Int) ∧ b.i
= b.i ∧ 0 = 0 ∧ b_1.i + 1 = b_1.i + 1 ∧ (∃ (n : Nat), b_1.i + 1 = (↑n : Int) ∧ n ≤ 3 ∧ b_1.o = b.o ++ flatE (outE l (kX l b.i, kY l b.i, kQ l b.i) n) ∧ b_1.n = b.n + List.length (outE l (kX l b.i, kY
l b.i, kQ l b.i) n)) ∧ 3 - Int.toNat (b_1.i + 1) < 3 - Int.toNat b_1.i ∧ True))) ∧ (ltb b_1.i 3 = false → inR IntKind.i64 (b.i + 1) = true ∧ 0 = 0 ∧ (memS (unK (flatK l)) ([], 0)).fst = (memS (unK
(flatK l)) ([], 0)).fst ∧ (memS (unK (flatK l)) ([], 0)).snd = (memS (unK (flatK l)) ([], 0)).snd ∧ b_1.n = b_1.n ∧ b_1.o = b_1.o ∧ b_1.n = b_1.n ∧ Cont.vals (flatK l) = Cont.vals (flatK l) ∧
List.length l = List.length l ∧ (↑(List.length l) : Int) = (↑(List.length l) : Int) ∧ b.i + 1 = b.i + 1 ∧ (∃ (n : Nat), b.i + 1 = (↑n : Int) ∧ n ≤ List.length l ∧ b_1.o = flatE (outF l n) ∧ b_1.n =
List.length (outF l n)) ∧ List.length l - Int.toNat (b.i + 1) < List.length l - Int.toNat b.i ∧ True)) ∧ (ltb b.i (↑(List.length l) : Int) = false → b.n = b.n ∧ List.length b.o = b.n * 4 ∧ Cont.vals
b.o = Cont.vals (flatE (outX l)) ∧ b.n = List.length (outX l) ∧ b.n = List.length (outX l) ∧ 0 = chkI l ∧ True))) := by kernel_rfl

end Go.Proofs.YtmnaghfndigfkaaDoor.X
