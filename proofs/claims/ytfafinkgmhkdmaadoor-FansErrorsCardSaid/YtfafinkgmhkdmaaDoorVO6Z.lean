/-
 What is to be shown of the functions (made by a program).
-/
import Derived.Test.YtfafinkgmhkdmaaDoorVD6Z
import Derived.KernelRfl
set_option maxRecDepth 1000000
set_option linter.unusedVariables false
namespace Go.Proofs.YtfafinkgmhkdmaaDoor.X
open Go Go.Ab

theorem ob_o26 (a k b j : List Int) : fnP (T0) G 10000 fe26 (.r [] 0 (.r [yL 136, yL 145, yL 154] 126843 (.ff (.r [] 0 (.lp (l26 a b) [] [] (fun b_1 => (.r [] 1 (.cnd (.r [] 33 (.cnd (.r [] 0 .nil) (.r [] 0 .nil))) (.r [] 0 (.lp (m26 a b k j) [] [] (fun b_2 => (.r [] 1 (.cnd (.r [] 33 (.cnd (.r [] 0 .nil) (.r [] 0 .nil))) (.r [] 0 .nil)))))))))))))) ([.agg [immL .i64 a, immL .u8 k], fanV b j]) ([.bool (eqB a b && eqB k j)]) ([]) = (
(!(↑(List.length a) : Int) != (↑(List.length b) : Int)) = true ∧ (!(↑(List.length k) : Int) != (↑(List.length j) : Int)) = true ∧ (!(↑(List.length a) : Int) != (↑(List.length a) : Int)) = true ∧
((↑(List.length k) : Int) != (↑(List.length k) : Int)) = false ∧ 1 = 1 ∧ Cont.ints IntKind.i64 a = Cont.ints IntKind.i64 a ∧ List.length a = List.length a ∧ List.length a = List.length a ∧ Cont.ints
IntKind.u8 k = Cont.ints IntKind.u8 k ∧ List.length k = List.length k ∧ List.length k = List.length k ∧ 1 = 1 ∧ Cont.ints IntKind.i64 b = Cont.ints IntKind.i64 b ∧ List.length b = List.length b ∧
Cont.ints IntKind.u8 j = Cont.ints IntKind.u8 j ∧ List.length j = List.length j ∧ 0 = 0 ∧ 0 = 0 ∧ iI 0 = 0 ∧ (∃ (n : Nat), 0 = (↑n : Int) ∧ n ≤ List.length a ∧ eqB (List.drop n a) (List.drop n b) =
eqB a b) ∧ ∀ (b_1 : L26), (∃ (n : Nat), b_1.i = (↑n : Int) ∧ n ≤ List.length a ∧ eqB (List.drop n a) (List.drop n b) = eqB a b) → (ltb b_1.i (↑(List.length a) : Int) = true → leb 0 b_1.i = true ∧ ltb
b_1.i (↑(List.length a) : Int) = true ∧ ltn 0 (Cont.size (Cont.ints IntKind.i64 a)) = true ∧ ltn 0 (Cont.size (Cont.ints IntKind.i64 (List.drop (Int.toNat b_1.i) a))) = true ∧ leb 0 b_1.i = true ∧ ltb
b_1.i (↑(List.length b) : Int) = true ∧ ltn 0 (Cont.size (Cont.ints IntKind.i64 b)) = true ∧ ltn 0 (Cont.size (Cont.ints IntKind.i64 (List.drop (Int.toNat b_1.i) b))) = true ∧ ((List.getD (List.drop
(Int.toNat b_1.i) a) 0 0 != List.getD (List.drop (Int.toNat b_1.i) b) 0 0) = true → false = (eqB a b && eqB k j) ∧ True) ∧ ((List.getD (List.drop (Int.toNat b_1.i) a) 0 0 != List.getD (List.drop
(Int.toNat b_1.i) b) 0 0) = false → inR IntKind.i64 (b_1.i + 1) = true ∧ 1 = 1 ∧ Cont.ints IntKind.i64 a = Cont.ints IntKind.i64 a ∧ List.length a = List.length a ∧ List.length a = List.length a ∧
Cont.ints IntKind.u8 k = Cont.ints IntKind.u8 k ∧ List.length k = List.length k ∧ List.length k = List.length k ∧ 1 = 1 ∧ Cont.ints IntKind.i64 b = Cont.ints IntKind.i64 b ∧ List.length b =
List.length b ∧ Cont.ints IntKind.u8 j = Cont.ints IntKind.u8 j ∧ List.length j = List.length j ∧ 0 = 0 ∧ 0 = 0 ∧ b_1.i + 1 = b_1.i + 1 ∧ (∃ (n : Nat), b_1.i + 1 = (↑n : Int) ∧ n ≤ List.length a ∧ eqB
(List.drop n a) (List.drop n b) = eqB a b) ∧ List.length a - Int.toNat (b_1.i + 1) < List.length a - Int.toNat b_1.i ∧ True)) ∧ (ltb b_1.i (↑(List.length a) : Int) = false → 1 = 1 ∧ Cont.ints
IntKind.i64 a = Cont.ints IntKind.i64 a ∧ List.length a = List.length a ∧ List.length a = List.length a ∧ Cont.ints IntKind.u8 k = Cont.ints IntKind.u8 k ∧ List.length k = List.length k ∧ List.length
k = List.length k ∧ 1 = 1 ∧ Cont.ints IntKind.i64 b = Cont.ints IntKind.i64 b ∧ List.length b = List.length b ∧ Cont.ints IntKind.u8 j = Cont.ints IntKind.u8 j ∧ List.length j = List.length j ∧ 0 = 0
∧ 0 = 0 ∧ ltb b_1.i (↑(List.length a) : Int) = ltb b_1.i (↑(List.length a) : Int) ∧ iI 0 = 0 ∧ (∃ (n : Nat), 0 = (↑n : Int) ∧ n ≤ List.length k ∧ eqB a b = true ∧ eqB (List.drop n k) (List.drop n j) =
eqB k j) ∧ ∀ (b_2 : L26), (∃ (n : Nat), b_2.i = (↑n : Int) ∧ n ≤ List.length k ∧ eqB a b = true ∧ eqB (List.drop n k) (List.drop n j) = eqB k j) → (ltb b_2.i (↑(List.length k) : Int) = true → leb 0
b_2.i = true ∧ ltb b_2.i (↑(List.length k) : Int) = true ∧ ltn 0 (Cont.size (Cont.ints IntKind.u8 k)) = true ∧ ltn 0 (Cont.size (Cont.ints IntKind.u8 (List.drop (Int.toNat b_2.i) k))) = true ∧ leb 0
b_2.i = true ∧ ltb b_2.i (↑(List.length j) : Int) = true ∧ ltn 0 (Cont.size (Cont.ints IntKind.u8 j)) = true ∧ ltn 0 (Cont.size (Cont.ints IntKind.u8 (List.drop (Int.toNat b_2.i) j))) = true ∧
((List.getD (List.drop (Int.toNat b_2.i) k) 0 0 != List.getD (List.drop (Int.toNat b_2.i) j) 0 0) = true → false = (eqB a b && eqB k j) ∧ True) ∧ ((List.getD (List.drop (Int.toNat b_2.i) k) 0 0 !=
List.getD (List.drop (Int.toNat b_2.i) j) 0 0) = false → inR IntKind.i64 (b_2.i + 1) = true ∧ 1 = 1 ∧ Cont.ints IntKind.i64 a = Cont.ints IntKind.i64 a ∧ List.length a = List.length a ∧ List.length a
= List.length a ∧ Cont.ints IntKind.u8 k = Cont.ints IntKind.u8 k ∧ List.length k = List.length k ∧ List.length k = List.length k ∧ 1 = 1 ∧ Cont.ints IntKind.i64 b = Cont.ints IntKind.i64 b ∧
List.length b = List.length b ∧ Cont.ints IntKind.u8 j = Cont.ints IntKind.u8 j ∧ List.length j = List.length j ∧ 0 = 0 ∧ 0 = 0 ∧ ltb b_1.i (↑(List.length a) : Int) = ltb b_1.i (↑(List.length a) :
Int) ∧ b_2.i + 1 = b_2.i + 1 ∧ (∃ (n : Nat), b_2.i + 1 = (↑n : Int) ∧ n ≤ List.length k ∧ eqB a b = true ∧ eqB (List.drop n k) (List.drop n j) = eqB k j) ∧ List.length k - Int.toNat (b_2.i + 1) <
List.length k - Int.toNat b_2.i ∧ True)) ∧ (ltb b_2.i (↑(List.length k) : Int) = false → true = (eqB a b && eqB k j) ∧ True))) := by kernel_rfl

end Go.Proofs.YtfafinkgmhkdmaaDoor.X
