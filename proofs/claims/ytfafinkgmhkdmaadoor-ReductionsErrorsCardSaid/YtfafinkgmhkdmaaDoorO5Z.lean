/-
  What is to be shown of the functions (made by a program).
-/
import Derived.Test.YtfafinkgmhkdmaaDoorD5Z
import Derived.KernelRfl
set_option maxRecDepth 1000000
set_option linter.unusedVariables false
namespace Go.Proofs.YtfafinkgmhkdmaaDoor.X
open Go Go.Ab

theorem ob_o4 (a k : List Int) : fnP (UL) G 10000 fe4 (.r [] 0 (.jn (jS a k) [] [] (.rs 5 [] 1 18 (.r [] 3 (.lit (.r [] 1 .nil))) (.r [] 7 (.cnd (.r [] 1 .nil) .nil))) (fun b => (.r [] 1 (.r [] 0 (.jn (jI 3 IntKind.i64 (dcd a k)) [4] [] (.lp (l4 a k) [] [] (fun b_1 => (.rs 6 [] 1 32 (.r [] 3 (.cnd (.r [] 1 (.cnd (.r [] 0 (.r [] 0 .nil)) (.r [] 0 .nil))) .nil)) (.r [] 3 (.lit .nil))))) (fun b_1 => (.r [] 13 (.r [] 29 (.r [] 61 (.r [] 13 (.r [] 0 (.cnd (.rs 6 [yL 963] 0 72 (.r [yL 975, yL 979] 7615 .nil) (.r [yL 971, yL 975, yL 979] 15215 .nil)) (.r [yL 1028, yL 1033, yL 1038, yL 1043, yL 1047, yL 1063] 15543734 .nil)))))))))))))) ([fanV a k]) ([.bool true]) ([]) = (
((ltb 12 (↑(List.length a) : Int) = true → true = true ∧ True) ∧ (ltb 12 (↑(List.length a) : Int) = false → (ltb 12 (↑(List.length k) : Int) = true → true = true ∧ True) ∧ (ltb 12 (↑(List.length k) :
Int) = false → 1 = 1 ∧ Cont.ints IntKind.i64 a = Cont.ints IntKind.i64 a ∧ List.length a = List.length a ∧ Cont.ints IntKind.u8 k = Cont.ints IntKind.u8 k ∧ List.length k = List.length k ∧ 0 = 0 ∧ ltb
12 (↑(List.length k) : Int) = ltb 12 (↑(List.length k) : Int) ∧ (ltb 12 (↑(List.length k) : Int) = false ∧ List.length a ≤ 12 ∧ List.length k ≤ 12) ∧ True))) ∧ ∀ (b : VB), b.v = false ∧ List.length a
≤ 12 ∧ List.length k ≤ 12 → (List.length a = List.length a ∧ List.length k = List.length k ∧ List.length a < 1000000000000) ∧ (1 = 1 ∧ Cont.ints IntKind.i64 a = Cont.ints IntKind.i64 a ∧ List.length a
= List.length a ∧ Cont.ints IntKind.u8 k = Cont.ints IntKind.u8 k ∧ List.length k = List.length k ∧ 0 = 0 ∧ chk a k = chk a k ∧ iI 0 = 0 ∧ (∃ (n : Nat), 0 = (↑n : Int) ∧ n ≤ List.length k ∧ chk a k =
wnt a k n) ∧ ∀ (b_1 : L4), (∃ (n : Nat), b_1.i = (↑n : Int) ∧ n ≤ List.length k ∧ b_1.w = wnt a k n) → (ltb b_1.i (↑(List.length k) : Int) = true → ((b_1.w == 0) = true → leb 0 b_1.i = true ∧ ltb
b_1.i (↑(List.length k) : Int) = true ∧ ltn 0 (Cont.size (Cont.ints IntKind.u8 k)) = true ∧ ltn 0 (Cont.size (Cont.ints IntKind.u8 (List.drop (Int.toNat b_1.i) k))) = true ∧ ((List.getD (List.drop
(Int.toNat b_1.i) k) 0 0 == 3) = true → inR IntKind.i64 (b_1.i + 1) = true ∧ 1 = 1 ∧ Cont.ints IntKind.i64 a = Cont.ints IntKind.i64 a ∧ List.length a = List.length a ∧ Cont.ints IntKind.u8 k =
Cont.ints IntKind.u8 k ∧ List.length k = List.length k ∧ 0 = 0 ∧ iI 1 = 1 ∧ b_1.i + 1 = b_1.i + 1 ∧ (∃ (n : Nat), b_1.i + 1 = (↑n : Int) ∧ n ≤ List.length k ∧ 1 = wnt a k n) ∧ List.length k -
Int.toNat (b_1.i + 1) < List.length k - Int.toNat b_1.i ∧ True) ∧ ((List.getD (List.drop (Int.toNat b_1.i) k) 0 0 == 3) = false → inR IntKind.i64 (b_1.i + 1) = true ∧ 1 = 1 ∧ Cont.ints IntKind.i64 a =
Cont.ints IntKind.i64 a ∧ List.length a = List.length a ∧ Cont.ints IntKind.u8 k = Cont.ints IntKind.u8 k ∧ List.length k = List.length k ∧ 0 = 0 ∧ b_1.w = b_1.w ∧ b_1.i + 1 = b_1.i + 1 ∧ (∃ (n :
Nat), b_1.i + 1 = (↑n : Int) ∧ n ≤ List.length k ∧ b_1.w = wnt a k n) ∧ List.length k - Int.toNat (b_1.i + 1) < List.length k - Int.toNat b_1.i ∧ True)) ∧ ((b_1.w == 0) = false → 1 = 1 ∧ Cont.ints
IntKind.i64 a = Cont.ints IntKind.i64 a ∧ List.length a = List.length a ∧ Cont.ints IntKind.u8 k = Cont.ints IntKind.u8 k ∧ List.length k = List.length k ∧ 0 = 0 ∧ b_1.w = b_1.w ∧ b_1.w = dcd a k ∧
True)) ∧ (ltb b_1.i (↑(List.length k) : Int) = false → 1 = 1 ∧ Cont.ints IntKind.i64 a = Cont.ints IntKind.i64 a ∧ List.length a = List.length a ∧ Cont.ints IntKind.u8 k = Cont.ints IntKind.u8 k ∧
List.length k = List.length k ∧ 0 = 0 ∧ b_1.w = b_1.w ∧ b_1.w = dcd a k ∧ True)) ∧ ∀ (b_1 : VI), b_1.v = dcd a k → (List.length a = List.length a ∧ List.length k = List.length k ∧ List.length a <
1000000000 ∧ List.length k < 1000000000) ∧ (List.length a = List.length a ∧ List.length k = List.length k ∧ List.length a < 1000000000 ∧ List.length k < 1000000000) ∧ (List.length a = List.length a ∧
List.length k = List.length k ∧ List.length a < 1000000000 ∧ List.length k < 1000000000) ∧ (List.length a = List.length a ∧ List.length k = List.length k ∧ List.length a < 1000000000 ∧ List.length k <
1000000000) ∧ ((b_1.v == 0) = true → (dcd a k == 0) = true ∧ ((doE a k 0 == 0) = true → (dcd a k == 0) = true ∧ (dcd a k == 0) = true ∧ true = true ∧ True) ∧ ((doE a k 0 == 0) = false → (doE a k 0 ==
6) = true ∧ (dcd a k == 0) = true ∧ (dcd a k == 0) = true ∧ true = true ∧ True)) ∧ ((b_1.v == 0) = false → (dcd a k == b_1.v) = true ∧ (doE a k 0 == b_1.v) = true ∧ (dcd a k == b_1.v) = true ∧ (dcd a
k == b_1.v) = true ∧ (!(okD a k && foldB a k)) = true ∧ inR IntKind.i64 ((↑(List.length (bLs (okD a k) (stI a k))) : Int) + (↑(List.length (bLs (doB a k 0) (doneA a 0))) : Int)) = true ∧ inR
IntKind.i64 ((↑(List.length (bLs (okD a k) (stI a k))) : Int) + (↑(List.length (bLs (doB a k 0) (doneA a 0))) : Int) + (↑(List.length (bLs (okD a k) (rdI a k))) : Int)) = true ∧ inR IntKind.i64
((↑(List.length (bLs (okD a k) (stI a k))) : Int) + (↑(List.length (bLs (doB a k 0) (doneA a 0))) : Int) + (↑(List.length (bLs (okD a k) (rdI a k))) : Int) + (↑(List.length (bLs (okD a k) (rdA a k)))
: Int)) = true ∧ ((↑(List.length (bLs (okD a k) (stI a k))) : Int) + (↑(List.length (bLs (doB a k 0) (doneA a 0))) : Int) + (↑(List.length (bLs (okD a k) (rdI a k))) : Int) + (↑(List.length (bLs (okD
a k) (rdA a k))) : Int) == 0) = true ∧ true = true ∧ True)) := by kernel_rfl

end Go.Proofs.YtfafinkgmhkdmaaDoor.X
