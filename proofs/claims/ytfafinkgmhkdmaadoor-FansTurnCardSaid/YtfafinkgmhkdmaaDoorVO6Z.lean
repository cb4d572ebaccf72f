/-
  What is to be shown of the functions (made by a program).
-/
import Derived.Test.YtfafinkgmhkdmaaDoorVD6Z
import Derived.KernelRfl
set_option maxRecDepth 1000000
set_option linter.unusedVariables false
namespace Go.Proofs.YtfafinkgmhkdmaaDoor.X
open Go Go.Ab

theorem ob_o26 (a k b j : List Int) : fnP (T0) G 10000 fe26 (.r [] 0 (.r [yL 136, yL 145, yL 154] 126843 (.ff (.r [] 0 (.lp (l26 a b) [] [] (fun b_1 => (.r [] 1 (.cnd (.r [] 33 (.cnd (.r [] 0 .nil) (.r [] 0 .nil))) (.r [] 0 (.lp (m26 a b k j) [] [] (fun b_2 => (.r [] 1 (.cnd (.r [] 33 (.cnd (.r [] 0 .nil) (.r [] 0 .nil))) (.r [] 0 .nil)))))))))))))) ([.agg [immL .i64 a, immL .u8 k], fanV b j]) ([.bool (eqB a b && eqB k j)]) ([]) = (
(!(↑(List.length a) : Int) != (↑(List.length b) : Int)) = true ∧ (!(↑(List.length k) : Int) != (↑(List.length j) : Int)) = true ∧ (!(↑(List.length a) : Int) != (↑(List.length a) : Int)) = true ∧
((↑(List.length k) : Int) != (↑(List.length k) : Int)) = false ∧ 1 = 1 ∧ Cont.ints IntKind.i64 a = Cont.ints IntKind.i64 a ∧ List.length a = List.length a ∧ List.length a = List.length a ∧ Cont.ints
IntKind.u8 k = Cont.ints IntKind.u8 k ∧ List.length k = List.length k ∧ List.length k = List.length k ∧ 1 = 1 ∧ Cont.ints IntKind.i64 b = Cont.ints IntKind.i64 b ∧ List.length b = List.length b ∧
Cont.ints IntKind.u8 j = Cont.ints IntKind.u8 j ∧ List.length j = List.length j ∧ 0 = 0 ∧ 0 = 0 ∧ iI 0 = 0 ∧ (∃ (n : Nat), 0 = (↑n : Int) ∧ n ≤ List.length a ∧ eqB (List.drop n a) (List.drop n b) =
eqB a b) ∧ ∀ (b_1 : L26), (∃ (n : Nat), b_1.i = (↑n : Int) ∧ n ≤ List.length a ∧ eqB (List.drop n a) (List.drop n b) = eqB a b) → (ltb b_1.i (↑(List.length a) : Int) = true → leb 0 b_1.i = true ∧ ltb
b_1.i (↑(List.length a) : Int) = true ∧ ltn 0 (Cont.size (Cont.ints IntKind.i64 a)) = true ∧ ltn 0 (Cont.size (Cont.ints IntKind.i64 (List.drop (Int.toNat b_1.i) a))) = true ∧ leb 0 b_1.i = true ∧ ltb
b_1.i (↑(List.length b) : Int) = true ∧ ltn 0 (Cont.size (Cont.ints IntKind.i64 b)) = true ∧ ltn 0 (Cont.size (Cont.ints IntKind.i64 (List.drop (Int.toNat b_1.i) b))) = true ∧ ((List.getD (List.drop
(Int.toNat b_1.i) a) 0 0 != List.getD (List.drop (Int.toNat b_1.i) b) 0 0) = true → false = (eqB a b && eqB k j) ∧ True) ∧ ((List.getD (List.drop (Int.toNat b_1.i) a) 0 0 != List.getD (List.drop
(Int.toNat b_1.i) b) 0 0) = false → inR IntKind.i64 (b_1.i + 1) = true ∧ 1 = 1 ∧ Cont.ints IntKind.i64 a = Cont.ints IntKind.i64 a ∧ List.length a = List.length a ∧ List.length a = List.length a ∧
Cont.ints IntKind.u8 k = Cont.ints IntKind.u8 k ∧ List.length k = List.length k ∧ List.length k = List.length k ∧ 1 = 1 ∧ Cont.ints IntKind.i64 b = Cont.ints IntKind.i64 b ∧ List.length b =
List.length b ∧ Cont.ints IntKind.u8 j = Cont.ints IntKind.u8 j ∧ List.length j = List.length j ∧ 0 = 0 ∧ 0 = 0 ∧ b_1.i + 1 = b_1.i + 1 ∧ (∃ (n : Nat), b_1.i + 1 = (↑n : Int) ∧ n ≤ List.length a ∧ eqB
(List.drop n a) (List.drop n b) = eqB a b) ∧ List.length a - Int.toNat (b_1.i + 1) < List.length a - Int.toNat b_1.i ∧ True)) ∧ (ltb b_1.i (↑(List.length a) : Int) = false → 1 = 1 ∧ Cont.ints
IntKind.i64 a = Cont.ints IntKind.i64 a ∧ List.length a = List.length a ∧ List.length a = List.length a ∧ Cont.ints IntKind.u8 k = Cont.ints IntKind.u8 k ∧ List.length k = List.length k ∧ List.length
k = List.length k ∧ 1 = 1 ∧ Cont.ints IntKind.i64 b = Cont.ints IntKind.i64 b ∧ List.length b = List.length b ∧ Cont.ints IntKind.u8 j = Cont.ints IntKind.u8 j ∧ List.length j = List.length j ∧ 0 = 0
∧ 0 = 0 ∧ ltb b_1.i (↑(List.length a) : Int) = ltb b_1.i (↑(List.length a) : Int) ∧ iI 0 = 0 ∧ (∃ (n : Nat), 0 = (↑n : Int) ∧ n ≤ List.length k ∧ eqB a b = true ∧ eqB (List.drop n k) (List.drop n j) =
eqB k j) ∧ ∀ (b_2 : L26), (∃ (n : Nat), b_2.i = (↑n : Int) ∧ n ≤ List.length k ∧ eqB a b = true ∧ eqB (List.drop n k) (List.drop n j) = eqB k j) → (ltb b_2.i (↑(List.length k) : Int) = true → leb 0
b_2.i = true ∧ ltb b_2.i (↑(List.length k) : Int) = true ∧ ltn 0 (Cont.size (Cont.ints IntKind.u8 k)) = true ∧ ltn 0 (Cont.size (Cont.ints IntKind.u8 (List.drop (Int.toNat b_2.i) k))) = true ∧ leb 0
b_2.i = true ∧ ltb b_2.i (↑(List.length j) : Int) = true ∧ ltn 0 (Cont.size (Cont.ints IntKind.u8 j)) = true ∧ ltn 0 (Cont.size (Cont.ints IntKind.u8 (List.drop (Int.toNat b_2.i) j))) = true ∧
((List.getD (List.drop (Int.toNat b_2.i) k) 0 0 != List.getD (List.drop (Int.toNat b_2.i) j) 0 0) = true → false = (eqB a b && eqB k j) ∧ True) ∧ ((List.getD (List.drop (Int.toNat b_2.i) k) 0 0 !=
List.getD (List.drop (Int.toNat b_2.i) j) 0 0) = false → inR IntKind.i64 (b_2.i + 1) = true ∧ 1 = 1 ∧ Cont.ints IntKind.i64 a = Cont.ints IntKind.i64 a ∧ List.length a = List.length a ∧ List.length a
= List.length a ∧ Cont.ints IntKind.u8 k = Cont.ints IntKind.u8 k ∧ List.length k = List.length k ∧ List.length k = List.length k ∧ 1 = 1 ∧ Cont.ints IntKind.i64 b = Cont.ints IntKind.i64 b ∧
List.length b = List.length b ∧ Cont.ints IntKind.u8 j = Cont.ints IntKind.u8 j ∧ List.length j = List.length j ∧ 0 = 0 ∧ 0 = 0 ∧ ltb b_1.i (↑(List.length a) : Int) = ltb b_1.i (↑(List.length a) :
Int) ∧ b_2.i + 1 = b_2.i + 1 ∧ (∃ (n : Nat), b_2.i + 1 = (↑n : Int) ∧ n ≤ List.length k ∧ eqB a b = true ∧ eqB (List.drop n k) (List.drop n j) = eqB k j) ∧ List.length k - Int.toNat (b_2.i + 1) <
List.length k - Int.toNat b_2.i ∧ True)) ∧ (ltb b_2.i (↑(List.length k) : Int) = false → true = (eqB a b && eqB k j) ∧ True))) := by kernel_rfl

theorem ob_o8 (c l : Int) (ks : List Int) : fnP (VL) G 10000 fe8 (.r [] 0 (.r [] 5 (.r [] 1 (.r [] 785 (.r [yM 326, yM 327, yM 328, yM 329, yM 330, yM 333, yM 334, yM 335, yM 336, yM 337, yM 340, yM 341, yM 342, yM 343, yM 344, yM 345, yM 346, yM 347, yM 350, yM 351, yM 352, yM 353, yM 354, yM 357, yM 358, yM 359, yM 360, yM 361, yM 364, yM 365, yM 366, yM 367, yM 368] 4626332890182623813 (.ff (.r [] 0 (.lp (l8 (ofA c l ks)) [] [] (fun b => (.r [] 0 (.cnd (.r [] 1 (.r [yM 719, yM 720, yM 721, yM 722, yM 723, yM 724, yM 725] 16793633 (.ff (.r [] 0 (.jn (jI 8 IntKind.u8 (oKd (ofK c ks) (List.length (ofA c l ks)) b.i)) [106] [] (.cnd (.r [] 0 .nil) .nil) (fun b_1 => (.r [] 1 (.ff (.r [] 0 .nil))))))))) (.r [] 1 .nil)))))))))))) ([fV c l ks]) ([.bool true]) ([]) = (
(List.length ks = List.length ks ∧ okK ks) ∧ List.length (ofA c l ks) = List.length (ofA c l ks) ∧ List.length (ofA c l ks) = List.length (ofA c l ks) ∧ List.length (ofK c ks) = List.length (ofK c ks)
∧ (List.length (ofA c l ks) = List.length (ofA c l ks) ∧ List.length (ofK c ks) = List.length (ofK c ks) ∧ List.length (ofA c l ks) < 100000000000 ∧ List.length (ofK c ks) < 100000000000) ∧
List.length (ofA c l ks) = List.length (ofA c l ks) ∧ List.length (ofK c ks) = List.length (ofK c ks) ∧ (List.length (ofA c l ks) = List.length (ofA c l ks) ∧ List.length (ofK c ks) = List.length (ofK
c ks) ∧ List.length (ofA c l ks) < 100000000000 ∧ List.length (ofK c ks) < 100000000000) ∧ ((!(↑(List.length (List.reverse (ofA c l ks))) : Int) != (↑(List.length (ofA c l ks)) : Int)) = true →
(!(↑(List.length (List.reverse (ofA c l ks))) : Int) != (↑(List.length (ofA c l ks)) : Int)) = true) ∧ ((!(↑(List.length (List.reverse (ofA c l ks))) : Int) != (↑(List.length (ofA c l ks)) : Int)) =
true → (!(↑(List.length (List.reverse (ofA c l ks))) : Int) != (↑(List.length (ofA c l ks)) : Int)) = true) ∧ ((!(↑(List.length (List.reverse (ofA c l ks))) : Int) != (↑(List.length (ofA c l ks)) :
Int)) = true → (!(↑(List.length (List.reverse (ofA c l ks))) : Int) != (↑(List.length (ofA c l ks)) : Int)) = true) ∧ ((!(↑(List.length (List.reverse (ofA c l ks))) : Int) != (↑(List.length (ofA c l
ks)) : Int)) = true → (!(↑(List.length (List.reverse (ofA c l ks))) : Int) != (↑(List.length (ofA c l ks)) : Int)) = true) ∧ (bif (↑(List.length (List.reverse (ofA c l ks))) : Int) != (↑(List.length
(ofA c l ks)) : Int) then true else !(↑(List.length (List.reverse (ofA c l ks))) : Int) != (↑(List.length (ofA c l ks)) : Int) && true) = true ∧ ((!bif (↑(List.length (List.reverse (ofA c l ks))) :
Int) != (↑(List.length (ofA c l ks)) : Int) then true else (↑(List.length (mirK' (ofK c ks))) : Int) != (↑(List.length (ofA c l ks)) : Int)) = true → (!bif (↑(List.length (List.reverse (ofA c l ks)))
: Int) != (↑(List.length (ofA c l ks)) : Int) then true else (↑(List.length (mirK' (ofK c ks))) : Int) != (↑(List.length (ofA c l ks)) : Int)) = true) ∧ ((!bif (↑(List.length (List.reverse (ofA c l
ks))) : Int) != (↑(List.length (ofA c l ks)) : Int) then true else (↑(List.length (mirK' (ofK c ks))) : Int) != (↑(List.length (ofA c l ks)) : Int)) = true → (!bif (↑(List.length (List.reverse (ofA c
l ks))) : Int) != (↑(List.length (ofA c l ks)) : Int) then true else (↑(List.length (mirK' (ofK c ks))) : Int) != (↑(List.length (ofA c l ks)) : Int)) = true) ∧ ((!bif (↑(List.length (List.reverse
(ofA c l ks))) : Int) != (↑(List.length (ofA c l ks)) : Int) then true else (↑(List.length (mirK' (ofK c ks))) : Int) != (↑(List.length (ofA c l ks)) : Int)) = true → (!bif (↑(List.length
(List.reverse (ofA c l ks))) : Int) != (↑(List.length (ofA c l ks)) : Int) then true else (↑(List.length (mirK' (ofK c ks))) : Int) != (↑(List.length (ofA c l ks)) : Int)) = true) ∧ ((!bif
(↑(List.length (List.reverse (ofA c l ks))) : Int) != (↑(List.length (ofA c l ks)) : Int) then true else (↑(List.length (mirK' (ofK c ks))) : Int) != (↑(List.length (ofA c l ks)) : Int)) = true →
(!bif (↑(List.length (List.reverse (ofA c l ks))) : Int) != (↑(List.length (ofA c l ks)) : Int) then true else (↑(List.length (mirK' (ofK c ks))) : Int) != (↑(List.length (ofA c l ks)) : Int)) = true)
∧ (bif bif (↑(List.length (List.reverse (ofA c l ks))) : Int) != (↑(List.length (ofA c l ks)) : Int) then true else (↑(List.length (mirK' (ofK c ks))) : Int) != (↑(List.length (ofA c l ks)) : Int)
then true else (!bif (↑(List.length (List.reverse (ofA c l ks))) : Int) != (↑(List.length (ofA c l ks)) : Int) then true else (↑(List.length (mirK' (ofK c ks))) : Int) != (↑(List.length (ofA c l ks))
: Int)) && true) = true ∧ ((!bif bif (↑(List.length (List.reverse (ofA c l ks))) : Int) != (↑(List.length (ofA c l ks)) : Int) then true else (↑(List.length (mirK' (ofK c ks))) : Int) !=
(↑(List.length (ofA c l ks)) : Int) then true else (↑(List.length (ovK' (mirK' (ofK c ks)))) : Int) != (↑(List.length (ofA c l ks)) : Int)) = true → (!bif bif (↑(List.length (List.reverse (ofA c l
ks))) : Int) != (↑(List.length (ofA c l ks)) : Int) then true else (↑(List.length (mirK' (ofK c ks))) : Int) != (↑(List.length (ofA c l ks)) : Int) then true else (↑(List.length (ovK' (mirK' (ofK c
ks)))) : Int) != (↑(List.length (ofA c l ks)) : Int)) = true) ∧ ((!bif bif (↑(List.length (List.reverse (ofA c l ks))) : Int) != (↑(List.length (ofA c l ks)) : Int) then true else (↑(List.length
(mirK' (ofK c ks))) : Int) != (↑(List.length (ofA c l ks)) : Int) then true else (↑(List.length (ovK' (mirK' (ofK c ks)))) : Int) != (↑(List.length (ofA c l ks)) : Int)) = true → (!bif bif
(↑(List.length (List.reverse (ofA c l ks))) : Int) != (↑(List.length (ofA c l ks)) : Int) then true else (↑(List.length (mirK' (ofK c ks))) : Int) != (↑(List.length (ofA c l ks)) : Int) then true else
(↑(List.length (ovK' (mirK' (ofK c ks)))) : Int) != (↑(List.length (ofA c l ks)) : Int)) = true) ∧ ((!bif bif (↑(List.length (List.reverse (ofA c l ks))) : Int) != (↑(List.length (ofA c l ks)) : Int)
then true else (↑(List.length (mirK' (ofK c ks))) : Int) != (↑(List.length (ofA c l ks)) : Int) then true else (↑(List.length (ovK' (mirK' (ofK c ks)))) : Int) != (↑(List.length (ofA c l ks)) : Int))
= true → (!bif bif (↑(List.length (List.reverse (ofA c l ks))) : Int) != (↑(List.length (ofA c l ks)) : Int) then true else (↑(List.length (mirK' (ofK c ks))) : Int) != (↑(List.length (ofA c l ks)) :
Int) then true else (↑(List.length (ovK' (mirK' (ofK c ks)))) : Int) != (↑(List.length (ofA c l ks)) : Int)) = true) ∧ ((!bif bif (↑(List.length (List.reverse (ofA c l ks))) : Int) != (↑(List.length
(ofA c l ks)) : Int) then true else (↑(List.length (mirK' (ofK c ks))) : Int) != (↑(List.length (ofA c l ks)) : Int) then true else (↑(List.length (ovK' (mirK' (ofK c ks)))) : Int) != (↑(List.length
(ofA c l ks)) : Int)) = true → (!bif bif (↑(List.length (List.reverse (ofA c l ks))) : Int) != (↑(List.length (ofA c l ks)) : Int) then true else (↑(List.length (mirK' (ofK c ks))) : Int) !=
(↑(List.length (ofA c l ks)) : Int) then true else (↑(List.length (ovK' (mirK' (ofK c ks)))) : Int) != (↑(List.length (ofA c l ks)) : Int)) = true) ∧ ((!bif bif (↑(List.length (List.reverse (ofA c l
ks))) : Int) != (↑(List.length (ofA c l ks)) : Int) then true else (↑(List.length (mirK' (ofK c ks))) : Int) != (↑(List.length (ofA c l ks)) : Int) then true else (↑(List.length (ovK' (mirK' (ofK c
ks)))) : Int) != (↑(List.length (ofA c l ks)) : Int)) = true → (!bif bif (↑(List.length (List.reverse (ofA c l ks))) : Int) != (↑(List.length (ofA c l ks)) : Int) then true else (↑(List.length (mirK'
(ofK c ks))) : Int) != (↑(List.length (ofA c l ks)) : Int) then true else (↑(List.length (ovK' (mirK' (ofK c ks)))) : Int) != (↑(List.length (ofA c l ks)) : Int)) = true) ∧ ((!bif bif (↑(List.length
(List.reverse (ofA c l ks))) : Int) != (↑(List.length (ofA c l ks)) : Int) then true else (↑(List.length (mirK' (ofK c ks))) : Int) != (↑(List.length (ofA c l ks)) : Int) then true else (↑(List.length
(ovK' (mirK' (ofK c ks)))) : Int) != (↑(List.length (ofA c l ks)) : Int)) = true → (!bif bif (↑(List.length (List.reverse (ofA c l ks))) : Int) != (↑(List.length (ofA c l ks)) : Int) then true else
(↑(List.length (mirK' (ofK c ks))) : Int) != (↑(List.length (ofA c l ks)) : Int) then true else (↑(List.length (ovK' (mirK' (ofK c ks)))) : Int) != (↑(List.length (ofA c l ks)) : Int)) = true) ∧
((!bif bif (↑(List.length (List.reverse (ofA c l ks))) : Int) != (↑(List.length (ofA c l ks)) : Int) then true else (↑(List.length (mirK' (ofK c ks))) : Int) != (↑(List.length (ofA c l ks)) : Int)
then true else (↑(List.length (ovK' (mirK' (ofK c ks)))) : Int) != (↑(List.length (ofA c l ks)) : Int)) = true → List.length (List.reverse (ofA c l ks)) = List.length (List.reverse (ofA c l ks)) ∧
List.length (ovK' (mirK' (ofK c ks))) = List.length (ovK' (mirK' (ofK c ks))) ∧ List.length (List.reverse (ofA c l ks)) = List.length (List.reverse (ofA c l ks)) ∧ List.length (ovK' (mirK' (ofK c
ks))) = List.length (ovK' (mirK' (ofK c ks))) ∧ List.length (List.reverse (ofA c l ks)) = List.length (List.reverse (ofA c l ks)) ∧ List.length (ovK' (mirK' (ofK c ks))) = List.length (ovK' (mirK'
(ofK c ks))) ∧ List.length (List.reverse (ofA c l ks)) = List.length (List.reverse (ofA c l ks)) ∧ List.length (ovK' (mirK' (ofK c ks))) = List.length (ovK' (mirK' (ofK c ks))) ∧ List.length
(List.reverse (ofA c l ks)) < 1000000000000 ∧ List.length (ovK' (mirK' (ofK c ks))) < 1000000000000) ∧ ((!bif bif (↑(List.length (List.reverse (ofA c l ks))) : Int) != (↑(List.length (ofA c l ks)) :
Int) then true else (↑(List.length (mirK' (ofK c ks))) : Int) != (↑(List.length (ofA c l ks)) : Int) then true else (↑(List.length (ovK' (mirK' (ofK c ks)))) : Int) != (↑(List.length (ofA c l ks)) :
Int)) = true → (!bif bif (↑(List.length (List.reverse (ofA c l ks))) : Int) != (↑(List.length (ofA c l ks)) : Int) then true else (↑(List.length (mirK' (ofK c ks))) : Int) != (↑(List.length (ofA c l
ks)) : Int) then true else (↑(List.length (ovK' (mirK' (ofK c ks)))) : Int) != (↑(List.length (ofA c l ks)) : Int)) = true) ∧ (bif bif bif (↑(List.length (List.reverse (ofA c l ks))) : Int) !=
(↑(List.length (ofA c l ks)) : Int) then true else (↑(List.length (mirK' (ofK c ks))) : Int) != (↑(List.length (ofA c l ks)) : Int) then true else (↑(List.length (ovK' (mirK' (ofK c ks)))) : Int) !=
(↑(List.length (ofA c l ks)) : Int) then true else (!bif bif (↑(List.length (List.reverse (ofA c l ks))) : Int) != (↑(List.length (ofA c l ks)) : Int) then true else (↑(List.length (mirK' (ofK c ks)))
: Int) != (↑(List.length (ofA c l ks)) : Int) then true else (↑(List.length (ovK' (mirK' (ofK c ks)))) : Int) != (↑(List.length (ofA c l ks)) : Int)) && true) = true ∧ ((!bif bif bif (↑(List.length
(List.reverse (ofA c l ks))) : Int) != (↑(List.length (ofA c l ks)) : Int) then true else (↑(List.length (mirK' (ofK c ks))) : Int) != (↑(List.length (ofA c l ks)) : Int) then true else (↑(List.length
(ovK' (mirK' (ofK c ks)))) : Int) != (↑(List.length (ofA c l ks)) : Int) then true else !(eqB (List.reverse (ofA c l ks)) (List.reverse (ofA c l ks)) && eqB (ovK' (mirK' (ofK c ks))) (ovK' (mirK' (ofK
c ks))))) = true → (!bif bif bif (↑(List.length (List.reverse (ofA c l ks))) : Int) != (↑(List.length (ofA c l ks)) : Int) then true else (↑(List.length (mirK' (ofK c ks))) : Int) != (↑(List.length
(ofA c l ks)) : Int) then true else (↑(List.length (ovK' (mirK' (ofK c ks)))) : Int) != (↑(List.length (ofA c l ks)) : Int) then true else !(eqB (List.reverse (ofA c l ks)) (List.reverse (ofA c l ks))
&& eqB (ovK' (mirK' (ofK c ks))) (ovK' (mirK' (ofK c ks))))) = true) ∧ ((!bif bif bif (↑(List.length (List.reverse (ofA c l ks))) : Int) != (↑(List.length (ofA c l ks)) : Int) then true else
(↑(List.length (mirK' (ofK c ks))) : Int) != (↑(List.length (ofA c l ks)) : Int) then true else (↑(List.length (ovK' (mirK' (ofK c ks)))) : Int) != (↑(List.length (ofA c l ks)) : Int) then true else
!(eqB (List.reverse (ofA c l ks)) (List.reverse (ofA c l ks)) && eqB (ovK' (mirK' (ofK c ks))) (ovK' (mirK' (ofK c ks))))) = true → List.length (List.reverse (ofA c l ks)) = List.length (List.reverse
(ofA c l ks)) ∧ List.length (mirK' (ofK c ks)) = List.length (mirK' (ofK c ks)) ∧ List.length (List.reverse (ofA c l ks)) < 100000000000 ∧ List.length (mirK' (ofK c ks)) < 100000000000) ∧ ((!bif bif
bif (↑(List.length (List.reverse (ofA c l ks))) : Int) != (↑(List.length (ofA c l ks)) : Int) then true else (↑(List.length (mirK' (ofK c ks))) : Int) != (↑(List.length (ofA c l ks)) : Int) then true
else (↑(List.length (ovK' (mirK' (ofK c ks)))) : Int) != (↑(List.length (ofA c l ks)) : Int) then true else !(eqB (List.reverse (ofA c l ks)) (List.reverse (ofA c l ks)) && eqB (ovK' (mirK' (ofK c
ks))) (ovK' (mirK' (ofK c ks))))) = true → (!bif bif bif (↑(List.length (List.reverse (ofA c l ks))) : Int) != (↑(List.length (ofA c l ks)) : Int) then true else (↑(List.length (mirK' (ofK c ks))) :
Int) != (↑(List.length (ofA c l ks)) : Int) then true else (↑(List.length (ovK' (mirK' (ofK c ks)))) : Int) != (↑(List.length (ofA c l ks)) : Int) then true else !(eqB (List.reverse (ofA c l ks))
(List.reverse (ofA c l ks)) && eqB (ovK' (mirK' (ofK c ks))) (ovK' (mirK' (ofK c ks))))) = true) ∧ ((!bif bif bif (↑(List.length (List.reverse (ofA c l ks))) : Int) != (↑(List.length (ofA c l ks)) :
Int) then true else (↑(List.length (mirK' (ofK c ks))) : Int) != (↑(List.length (ofA c l ks)) : Int) then true else (↑(List.length (ovK' (mirK' (ofK c ks)))) : Int) != (↑(List.length (ofA c l ks)) :
Int) then true else !(eqB (List.reverse (ofA c l ks)) (List.reverse (ofA c l ks)) && eqB (ovK' (mirK' (ofK c ks))) (ovK' (mirK' (ofK c ks))))) = true → (!bif bif bif (↑(List.length (List.reverse (ofA
c l ks))) : Int) != (↑(List.length (ofA c l ks)) : Int) then true else (↑(List.length (mirK' (ofK c ks))) : Int) != (↑(List.length (ofA c l ks)) : Int) then true else (↑(List.length (ovK' (mirK' (ofK
c ks)))) : Int) != (↑(List.length (ofA c l ks)) : Int) then true else !(eqB (List.reverse (ofA c l ks)) (List.reverse (ofA c l ks)) && eqB (ovK' (mirK' (ofK c ks))) (ovK' (mirK' (ofK c ks))))) = true)
∧ ((!bif bif bif (↑(List.length (List.reverse (ofA c l ks))) : Int) != (↑(List.length (ofA c l ks)) : Int) then true else (↑(List.length (mirK' (ofK c ks))) : Int) != (↑(List.length (ofA c l ks)) :
Int) then true else (↑(List.length (ovK' (mirK' (ofK c ks)))) : Int) != (↑(List.length (ofA c l ks)) : Int) then true else !(eqB (List.reverse (ofA c l ks)) (List.reverse (ofA c l ks)) && eqB (ovK'
(mirK' (ofK c ks))) (ovK' (mirK' (ofK c ks))))) = true → List.length (ofA c l ks) = List.length (ofA c l ks)) ∧ ((!bif bif bif (↑(List.length (List.reverse (ofA c l ks))) : Int) != (↑(List.length (ofA
c l ks)) : Int) then true else (↑(List.length (mirK' (ofK c ks))) : Int) != (↑(List.length (ofA c l ks)) : Int) then true else (↑(List.length (ovK' (mirK' (ofK c ks)))) : Int) != (↑(List.length (ofA c
l ks)) : Int) then true else !(eqB (List.reverse (ofA c l ks)) (List.reverse (ofA c l ks)) && eqB (ovK' (mirK' (ofK c ks))) (ovK' (mirK' (ofK c ks))))) = true → List.length (ofK c ks) = List.length
(ofK c ks)) ∧ ((!bif bif bif (↑(List.length (List.reverse (ofA c l ks))) : Int) != (↑(List.length (ofA c l ks)) : Int) then true else (↑(List.length (mirK' (ofK c ks))) : Int) != (↑(List.length (ofA c
l ks)) : Int) then true else (↑(List.length (ovK' (mirK' (ofK c ks)))) : Int) != (↑(List.length (ofA c l ks)) : Int) then true else !(eqB (List.reverse (ofA c l ks)) (List.reverse (ofA c l ks)) && eqB
(ovK' (mirK' (ofK c ks))) (ovK' (mirK' (ofK c ks))))) = true → List.length (List.reverse (List.reverse (ofA c l ks))) = List.length (List.reverse (List.reverse (ofA c l ks))) ∧ List.length (mirK'
(mirK' (ofK c ks))) = List.length (mirK' (mirK' (ofK c ks))) ∧ List.length (ofA c l ks) = List.length (ofA c l ks) ∧ List.length (ofK c ks) = List.length (ofK c ks) ∧ List.length (List.reverse
(List.reverse (ofA c l ks))) = List.length (List.reverse (List.reverse (ofA c l ks))) ∧ List.length (mirK' (mirK' (ofK c ks))) = List.length (mirK' (mirK' (ofK c ks))) ∧ List.length (List.reverse
(List.reverse (ofA c l ks))) = List.length (ofA c l ks) ∧ List.length (mirK' (mirK' (ofK c ks))) = List.length (ofK c ks) ∧ List.length (List.reverse (List.reverse (ofA c l ks))) < 1000000000000 ∧
List.length (mirK' (mirK' (ofK c ks))) < 1000000000000) ∧ ((!bif bif bif (↑(List.length (List.reverse (ofA c l ks))) : Int) != (↑(List.length (ofA c l ks)) : Int) then true else (↑(List.length (mirK'
(ofK c ks))) : Int) != (↑(List.length (ofA c l ks)) : Int) then true else (↑(List.length (ovK' (mirK' (ofK c ks)))) : Int) != (↑(List.length (ofA c l ks)) : Int) then true else !(eqB (List.reverse
(ofA c l ks)) (List.reverse (ofA c l ks)) && eqB (ovK' (mirK' (ofK c ks))) (ovK' (mirK' (ofK c ks))))) = true → (!bif bif bif (↑(List.length (List.reverse (ofA c l ks))) : Int) != (↑(List.length (ofA
c l ks)) : Int) then true else (↑(List.length (mirK' (ofK c ks))) : Int) != (↑(List.length (ofA c l ks)) : Int) then true else (↑(List.length (ovK' (mirK' (ofK c ks)))) : Int) != (↑(List.length (ofA c
l ks)) : Int) then true else !(eqB (List.reverse (ofA c l ks)) (List.reverse (ofA c l ks)) && eqB (ovK' (mirK' (ofK c ks))) (ovK' (mirK' (ofK c ks))))) = true) ∧ (bif bif bif bif (↑(List.length
(List.reverse (ofA c l ks))) : Int) != (↑(List.length (ofA c l ks)) : Int) then true else (↑(List.length (mirK' (ofK c ks))) : Int) != (↑(List.length (ofA c l ks)) : Int) then true else (↑(List.length
(ovK' (mirK' (ofK c ks)))) : Int) != (↑(List.length (ofA c l ks)) : Int) then true else !(eqB (List.reverse (ofA c l ks)) (List.reverse (ofA c l ks)) && eqB (ovK' (mirK' (ofK c ks))) (ovK' (mirK' (ofK
c ks)))) then true else (!bif bif bif (↑(List.length (List.reverse (ofA c l ks))) : Int) != (↑(List.length (ofA c l ks)) : Int) then true else (↑(List.length (mirK' (ofK c ks))) : Int) !=
(↑(List.length (ofA c l ks)) : Int) then true else (↑(List.length (ovK' (mirK' (ofK c ks)))) : Int) != (↑(List.length (ofA c l ks)) : Int) then true else !(eqB (List.reverse (ofA c l ks))
(List.reverse (ofA c l ks)) && eqB (ovK' (mirK' (ofK c ks))) (ovK' (mirK' (ofK c ks))))) && true) = true ∧ ((!bif bif bif bif (↑(List.length (List.reverse (ofA c l ks))) : Int) != (↑(List.length (ofA
c l ks)) : Int) then true else (↑(List.length (mirK' (ofK c ks))) : Int) != (↑(List.length (ofA c l ks)) : Int) then true else (↑(List.length (ovK' (mirK' (ofK c ks)))) : Int) != (↑(List.length (ofA c
l ks)) : Int) then true else !(eqB (List.reverse (ofA c l ks)) (List.reverse (ofA c l ks)) && eqB (ovK' (mirK' (ofK c ks))) (ovK' (mirK' (ofK c ks)))) then true else !(eqB (List.reverse (List.reverse
(ofA c l ks))) (ofA c l ks) && eqB (mirK' (mirK' (ofK c ks))) (ofK c ks))) = true → (!bif bif bif bif (↑(List.length (List.reverse (ofA c l ks))) : Int) != (↑(List.length (ofA c l ks)) : Int) then
true else (↑(List.length (mirK' (ofK c ks))) : Int) != (↑(List.length (ofA c l ks)) : Int) then true else (↑(List.length (ovK' (mirK' (ofK c ks)))) : Int) != (↑(List.length (ofA c l ks)) : Int) then
true else !(eqB (List.reverse (ofA c l ks)) (List.reverse (ofA c l ks)) && eqB (ovK' (mirK' (ofK c ks))) (ovK' (mirK' (ofK c ks)))) then true else !(eqB (List.reverse (List.reverse (ofA c l ks))) (ofA
c l ks) && eqB (mirK' (mirK' (ofK c ks))) (ofK c ks))) = true) ∧ ((!bif bif bif bif (↑(List.length (List.reverse (ofA c l ks))) : Int) != (↑(List.length (ofA c l ks)) : Int) then true else
(↑(List.length (mirK' (ofK c ks))) : Int) != (↑(List.length (ofA c l ks)) : Int) then true else (↑(List.length (ovK' (mirK' (ofK c ks)))) : Int) != (↑(List.length (ofA c l ks)) : Int) then true else
!(eqB (List.reverse (ofA c l ks)) (List.reverse (ofA c l ks)) && eqB (ovK' (mirK' (ofK c ks))) (ovK' (mirK' (ofK c ks)))) then true else !(eqB (List.reverse (List.reverse (ofA c l ks))) (ofA c l ks)
&& eqB (mirK' (mirK' (ofK c ks))) (ofK c ks))) = true → List.length (List.reverse (ofA c l ks)) = List.length (List.reverse (ofA c l ks)) ∧ List.length (ovK' (mirK' (ofK c ks))) = List.length (ovK'
(mirK' (ofK c ks))) ∧ List.length (List.reverse (ofA c l ks)) < 100000000000 ∧ List.length (ovK' (mirK' (ofK c ks))) < 100000000000) ∧ ((!bif bif bif bif (↑(List.length (List.reverse (ofA c l ks))) :
Int) != (↑(List.length (ofA c l ks)) : Int) then true else (↑(List.length (mirK' (ofK c ks))) : Int) != (↑(List.length (ofA c l ks)) : Int) then true else (↑(List.length (ovK' (mirK' (ofK c ks)))) :
Int) != (↑(List.length (ofA c l ks)) : Int) then true else !(eqB (List.reverse (ofA c l ks)) (List.reverse (ofA c l ks)) && eqB (ovK' (mirK' (ofK c ks))) (ovK' (mirK' (ofK c ks)))) then true else
!(eqB (List.reverse (List.reverse (ofA c l ks))) (ofA c l ks) && eqB (mirK' (mirK' (ofK c ks))) (ofK c ks))) = true → (!bif bif bif bif (↑(List.length (List.reverse (ofA c l ks))) : Int) !=
(↑(List.length (ofA c l ks)) : Int) then true else (↑(List.length (mirK' (ofK c ks))) : Int) != (↑(List.length (ofA c l ks)) : Int) then true else (↑(List.length (ovK' (mirK' (ofK c ks)))) : Int) !=
(↑(List.length (ofA c l ks)) : Int) then true else !(eqB (List.reverse (ofA c l ks)) (List.reverse (ofA c l ks)) && eqB (ovK' (mirK' (ofK c ks))) (ovK' (mirK' (ofK c ks)))) then true else !(eqB
(List.reverse (List.reverse (ofA c l ks))) (ofA c l ks) && eqB (mirK' (mirK' (ofK c ks))) (ofK c ks))) = true) ∧ ((!bif bif bif bif (↑(List.length (List.reverse (ofA c l ks))) : Int) != (↑(List.length
(ofA c l ks)) : Int) then true else (↑(List.length (mirK' (ofK c ks))) : Int) != (↑(List.length (ofA c l ks)) : Int) then true else (↑(List.length (ovK' (mirK' (ofK c ks)))) : Int) != (↑(List.length
(ofA c l ks)) : Int) then true else !(eqB (List.reverse (ofA c l ks)) (List.reverse (ofA c l ks)) && eqB (ovK' (mirK' (ofK c ks))) (ovK' (mirK' (ofK c ks)))) then true else !(eqB (List.reverse
(List.reverse (ofA c l ks))) (ofA c l ks) && eqB (mirK' (mirK' (ofK c ks))) (ofK c ks))) = true → (!bif bif bif bif (↑(List.length (List.reverse (ofA c l ks))) : Int) != (↑(List.length (ofA c l ks)) :
Int) then true else (↑(List.length (mirK' (ofK c ks))) : Int) != (↑(List.length (ofA c l ks)) : Int) then true else (↑(List.length (ovK' (mirK' (ofK c ks)))) : Int) != (↑(List.length (ofA c l ks)) :
Int) then true else !(eqB (List.reverse (ofA c l ks)) (List.reverse (ofA c l ks)) && eqB (ovK' (mirK' (ofK c ks))) (ovK' (mirK' (ofK c ks)))) then true else !(eqB (List.reverse (List.reverse (ofA c l
ks))) (ofA c l ks) && eqB (mirK' (mirK' (ofK c ks))) (ofK c ks))) = true) ∧ ((!bif bif bif bif (↑(List.length (List.reverse (ofA c l ks))) : Int) != (↑(List.length (ofA c l ks)) : Int) then true else
(↑(List.length (mirK' (ofK c ks))) : Int) != (↑(List.length (ofA c l ks)) : Int) then true else (↑(List.length (ovK' (mirK' (ofK c ks)))) : Int) != (↑(List.length (ofA c l ks)) : Int) then true else
!(eqB (List.reverse (ofA c l ks)) (List.reverse (ofA c l ks)) && eqB (ovK' (mirK' (ofK c ks))) (ovK' (mirK' (ofK c ks)))) then true else !(eqB (List.reverse (List.reverse (ofA c l ks))) (ofA c l ks)
&& eqB (mirK' (mirK' (ofK c ks))) (ofK c ks))) = true → List.length (ofA c l ks) = List.length (ofA c l ks)) ∧ ((!bif bif bif bif (↑(List.length (List.reverse (ofA c l ks))) : Int) != (↑(List.length
(ofA c l ks)) : Int) then true else (↑(List.length (mirK' (ofK c ks))) : Int) != (↑(List.length (ofA c l ks)) : Int) then true else (↑(List.length (ovK' (mirK' (ofK c ks)))) : Int) != (↑(List.length
(ofA c l ks)) : Int) then true else !(eqB (List.reverse (ofA c l ks)) (List.reverse (ofA c l ks)) && eqB (ovK' (mirK' (ofK c ks))) (ovK' (mirK' (ofK c ks)))) then true else !(eqB (List.reverse
(List.reverse (ofA c l ks))) (ofA c l ks) && eqB (mirK' (mirK' (ofK c ks))) (ofK c ks))) = true → List.length (ofK c ks) = List.length (ofK c ks)) ∧ ((!bif bif bif bif (↑(List.length (List.reverse
(ofA c l ks))) : Int) != (↑(List.length (ofA c l ks)) : Int) then true else (↑(List.length (mirK' (ofK c ks))) : Int) != (↑(List.length (ofA c l ks)) : Int) then true else (↑(List.length (ovK' (mirK'
(ofK c ks)))) : Int) != (↑(List.length (ofA c l ks)) : Int) then true else !(eqB (List.reverse (ofA c l ks)) (List.reverse (ofA c l ks)) && eqB (ovK' (mirK' (ofK c ks))) (ovK' (mirK' (ofK c ks))))
then true else !(eqB (List.reverse (List.reverse (ofA c l ks))) (ofA c l ks) && eqB (mirK' (mirK' (ofK c ks))) (ofK c ks))) = true → List.length (List.reverse (List.reverse (ofA c l ks))) =
List.length (List.reverse (List.reverse (ofA c l ks))) ∧ List.length (ovK' (mirK' (ovK' (mirK' (ofK c ks))))) = List.length (ovK' (mirK' (ovK' (mirK' (ofK c ks))))) ∧ List.length (ofA c l ks) =
List.length (ofA c l ks) ∧ List.length (ofK c ks) = List.length (ofK c ks) ∧ List.length (List.reverse (List.reverse (ofA c l ks))) = List.length (List.reverse (List.reverse (ofA c l ks))) ∧
List.length (ovK' (mirK' (ovK' (mirK' (ofK c ks))))) = List.length (ovK' (mirK' (ovK' (mirK' (ofK c ks))))) ∧ List.length (List.reverse (List.reverse (ofA c l ks))) = List.length (ofA c l ks) ∧
List.length (ovK' (mirK' (ovK' (mirK' (ofK c ks))))) = List.length (ofK c ks) ∧ List.length (List.reverse (List.reverse (ofA c l ks))) < 1000000000000 ∧ List.length (ovK' (mirK' (ovK' (mirK' (ofK c
ks))))) < 1000000000000) ∧ ((!bif bif bif bif (↑(List.length (List.reverse (ofA c l ks))) : Int) != (↑(List.length (ofA c l ks)) : Int) then true else (↑(List.length (mirK' (ofK c ks))) : Int) !=
(↑(List.length (ofA c l ks)) : Int) then true else (↑(List.length (ovK' (mirK' (ofK c ks)))) : Int) != (↑(List.length (ofA c l ks)) : Int) then true else !(eqB (List.reverse (ofA c l ks))
(List.reverse (ofA c l ks)) && eqB (ovK' (mirK' (ofK c ks))) (ovK' (mirK' (ofK c ks)))) then true else !(eqB (List.reverse (List.reverse (ofA c l ks))) (ofA c l ks) && eqB (mirK' (mirK' (ofK c ks)))
(ofK c ks))) = true → (!bif bif bif bif (↑(List.length (List.reverse (ofA c l ks))) : Int) != (↑(List.length (ofA c l ks)) : Int) then true else (↑(List.length (mirK' (ofK c ks))) : Int) !=
(↑(List.length (ofA c l ks)) : Int) then true else (↑(List.length (ovK' (mirK' (ofK c ks)))) : Int) != (↑(List.length (ofA c l ks)) : Int) then true else !(eqB (List.reverse (ofA c l ks))
(List.reverse (ofA c l ks)) && eqB (ovK' (mirK' (ofK c ks))) (ovK' (mirK' (ofK c ks)))) then true else !(eqB (List.reverse (List.reverse (ofA c l ks))) (ofA c l ks) && eqB (mirK' (mirK' (ofK c ks)))
(ofK c ks))) = true) ∧ (bif bif bif bif bif (↑(List.length (List.reverse (ofA c l ks))) : Int) != (↑(List.length (ofA c l ks)) : Int) then true else (↑(List.length (mirK' (ofK c ks))) : Int) !=
(↑(List.length (ofA c l ks)) : Int) then true else (↑(List.length (ovK' (mirK' (ofK c ks)))) : Int) != (↑(List.length (ofA c l ks)) : Int) then true else !(eqB (List.reverse (ofA c l ks))
(List.reverse (ofA c l ks)) && eqB (ovK' (mirK' (ofK c ks))) (ovK' (mirK' (ofK c ks)))) then true else !(eqB (List.reverse (List.reverse (ofA c l ks))) (ofA c l ks) && eqB (mirK' (mirK' (ofK c ks)))
(ofK c ks)) then true else (!bif bif bif bif (↑(List.length (List.reverse (ofA c l ks))) : Int) != (↑(List.length (ofA c l ks)) : Int) then true else (↑(List.length (mirK' (ofK c ks))) : Int) !=
(↑(List.length (ofA c l ks)) : Int) then true else (↑(List.length (ovK' (mirK' (ofK c ks)))) : Int) != (↑(List.length (ofA c l ks)) : Int) then true else !(eqB (List.reverse (ofA c l ks))
(List.reverse (ofA c l ks)) && eqB (ovK' (mirK' (ofK c ks))) (ovK' (mirK' (ofK c ks)))) then true else !(eqB (List.reverse (List.reverse (ofA c l ks))) (ofA c l ks) && eqB (mirK' (mirK' (ofK c ks)))
(ofK c ks))) && true) = true ∧ ((!bif bif bif bif bif (↑(List.length (List.reverse (ofA c l ks))) : Int) != (↑(List.length (ofA c l ks)) : Int) then true else (↑(List.length (mirK' (ofK c ks))) : Int)
!= (↑(List.length (ofA c l ks)) : Int) then true else (↑(List.length (ovK' (mirK' (ofK c ks)))) : Int) != (↑(List.length (ofA c l ks)) : Int) then true else !(eqB (List.reverse (ofA c l ks))
(List.reverse (ofA c l ks)) && eqB (ovK' (mirK' (ofK c ks))) (ovK' (mirK' (ofK c ks)))) then true else !(eqB (List.reverse (List.reverse (ofA c l ks))) (ofA c l ks) && eqB (mirK' (mirK' (ofK c ks)))
(ofK c ks)) then true else !(eqB (List.reverse (List.reverse (ofA c l ks))) (ofA c l ks) && eqB (ovK' (mirK' (ovK' (mirK' (ofK c ks))))) (ofK c ks))) = true → (!bif bif bif bif bif (↑(List.length
(List.reverse (ofA c l ks))) : Int) != (↑(List.length (ofA c l ks)) : Int) then true else (↑(List.length (mirK' (ofK c ks))) : Int) != (↑(List.length (ofA c l ks)) : Int) then true else (↑(List.length
(ovK' (mirK' (ofK c ks)))) : Int) != (↑(List.length (ofA c l ks)) : Int) then true else !(eqB (List.reverse (ofA c l ks)) (List.reverse (ofA c l ks)) && eqB (ovK' (mirK' (ofK c ks))) (ovK' (mirK' (ofK
c ks)))) then true else !(eqB (List.reverse (List.reverse (ofA c l ks))) (ofA c l ks) && eqB (mirK' (mirK' (ofK c ks))) (ofK c ks)) then true else !(eqB (List.reverse (List.reverse (ofA c l ks))) (ofA
c l ks) && eqB (ovK' (mirK' (ovK' (mirK' (ofK c ks))))) (ofK c ks))) = true) ∧ ((!bif bif bif bif bif (↑(List.length (List.reverse (ofA c l ks))) : Int) != (↑(List.length (ofA c l ks)) : Int) then
true else (↑(List.length (mirK' (ofK c ks))) : Int) != (↑(List.length (ofA c l ks)) : Int) then true else (↑(List.length (ovK' (mirK' (ofK c ks)))) : Int) != (↑(List.length (ofA c l ks)) : Int) then
true else !(eqB (List.reverse (ofA c l ks)) (List.reverse (ofA c l ks)) && eqB (ovK' (mirK' (ofK c ks))) (ovK' (mirK' (ofK c ks)))) then true else !(eqB (List.reverse (List.reverse (ofA c l ks))) (ofA
c l ks) && eqB (mirK' (mirK' (ofK c ks))) (ofK c ks)) then true else !(eqB (List.reverse (List.reverse (ofA c l ks))) (ofA c l ks) && eqB (ovK' (mirK' (ovK' (mirK' (ofK c ks))))) (ofK c ks))) = true →
List.length (ofA c l ks) = List.length (ofA c l ks)) ∧ ((!bif bif bif bif bif (↑(List.length (List.reverse (ofA c l ks))) : Int) != (↑(List.length (ofA c l ks)) : Int) then true else (↑(List.length
(mirK' (ofK c ks))) : Int) != (↑(List.length (ofA c l ks)) : Int) then true else (↑(List.length (ovK' (mirK' (ofK c ks)))) : Int) != (↑(List.length (ofA c l ks)) : Int) then true else !(eqB
(List.reverse (ofA c l ks)) (List.reverse (ofA c l ks)) && eqB (ovK' (mirK' (ofK c ks))) (ovK' (mirK' (ofK c ks)))) then true else !(eqB (List.reverse (List.reverse (ofA c l ks))) (ofA c l ks) && eqB
(mirK' (mirK' (ofK c ks))) (ofK c ks)) then true else !(eqB (List.reverse (List.reverse (ofA c l ks))) (ofA c l ks) && eqB (ovK' (mirK' (ovK' (mirK' (ofK c ks))))) (ofK c ks))) = true → List.length
(ofK c ks) = List.length (ofK c ks)) ∧ ((!bif bif bif bif bif (↑(List.length (List.reverse (ofA c l ks))) : Int) != (↑(List.length (ofA c l ks)) : Int) then true else (↑(List.length (mirK' (ofK c
ks))) : Int) != (↑(List.length (ofA c l ks)) : Int) then true else (↑(List.length (ovK' (mirK' (ofK c ks)))) : Int) != (↑(List.length (ofA c l ks)) : Int) then true else !(eqB (List.reverse (ofA c l
ks)) (List.reverse (ofA c l ks)) && eqB (ovK' (mirK' (ofK c ks))) (ovK' (mirK' (ofK c ks)))) then true else !(eqB (List.reverse (List.reverse (ofA c l ks))) (ofA c l ks) && eqB (mirK' (mirK' (ofK c
ks))) (ofK c ks)) then true else !(eqB (List.reverse (List.reverse (ofA c l ks))) (ofA c l ks) && eqB (ovK' (mirK' (ovK' (mirK' (ofK c ks))))) (ofK c ks))) = true → List.length (ofA c l ks) =
List.length (ofA c l ks) ∧ List.length (ofK c ks) = List.length (ofK c ks) ∧ List.length (ofA c l ks) < 100000000000 ∧ List.length (ofK c ks) < 100000000000) ∧ ((!bif bif bif bif bif (↑(List.length
(List.reverse (ofA c l ks))) : Int) != (↑(List.length (ofA c l ks)) : Int) then true else (↑(List.length (mirK' (ofK c ks))) : Int) != (↑(List.length (ofA c l ks)) : Int) then true else (↑(List.length
(ovK' (mirK' (ofK c ks)))) : Int) != (↑(List.length (ofA c l ks)) : Int) then true else !(eqB (List.reverse (ofA c l ks)) (List.reverse (ofA c l ks)) && eqB (ovK' (mirK' (ofK c ks))) (ovK' (mirK' (ofK
c ks)))) then true else !(eqB (List.reverse (List.reverse (ofA c l ks))) (ofA c l ks) && eqB (mirK' (mirK' (ofK c ks))) (ofK c ks)) then true else !(eqB (List.reverse (List.reverse (ofA c l ks))) (ofA
c l ks) && eqB (ovK' (mirK' (ovK' (mirK' (ofK c ks))))) (ofK c ks))) = true → (!bif bif bif bif bif (↑(List.length (List.reverse (ofA c l ks))) : Int) != (↑(List.length (ofA c l ks)) : Int) then true
else (↑(List.length (mirK' (ofK c ks))) : Int) != (↑(List.length (ofA c l ks)) : Int) then true else (↑(List.length (ovK' (mirK' (ofK c ks)))) : Int) != (↑(List.length (ofA c l ks)) : Int) then true
else !(eqB (List.reverse (ofA c l ks)) (List.reverse (ofA c l ks)) && eqB (ovK' (mirK' (ofK c ks))) (ovK' (mirK' (ofK c ks)))) then true else !(eqB (List.reverse (List.reverse (ofA c l ks))) (ofA c l
ks) && eqB (mirK' (mirK' (ofK c ks))) (ofK c ks)) then true else !(eqB (List.reverse (List.reverse (ofA c l ks))) (ofA c l ks) && eqB (ovK' (mirK' (ovK' (mirK' (ofK c ks))))) (ofK c ks))) = true) ∧
((!bif bif bif bif bif (↑(List.length (List.reverse (ofA c l ks))) : Int) != (↑(List.length (ofA c l ks)) : Int) then true else (↑(List.length (mirK' (ofK c ks))) : Int) != (↑(List.length (ofA c l
ks)) : Int) then true else (↑(List.length (ovK' (mirK' (ofK c ks)))) : Int) != (↑(List.length (ofA c l ks)) : Int) then true else !(eqB (List.reverse (ofA c l ks)) (List.reverse (ofA c l ks)) && eqB
(ovK' (mirK' (ofK c ks))) (ovK' (mirK' (ofK c ks)))) then true else !(eqB (List.reverse (List.reverse (ofA c l ks))) (ofA c l ks) && eqB (mirK' (mirK' (ofK c ks))) (ofK c ks)) then true else !(eqB
(List.reverse (List.reverse (ofA c l ks))) (ofA c l ks) && eqB (ovK' (mirK' (ovK' (mirK' (ofK c ks))))) (ofK c ks))) = true → (!bif bif bif bif bif (↑(List.length (List.reverse (ofA c l ks))) : Int)
!= (↑(List.length (ofA c l ks)) : Int) then true else (↑(List.length (mirK' (ofK c ks))) : Int) != (↑(List.length (ofA c l ks)) : Int) then true else (↑(List.length (ovK' (mirK' (ofK c ks)))) : Int)
!= (↑(List.length (ofA c l ks)) : Int) then true else !(eqB (List.reverse (ofA c l ks)) (List.reverse (ofA c l ks)) && eqB (ovK' (mirK' (ofK c ks))) (ovK' (mirK' (ofK c ks)))) then true else !(eqB
(List.reverse (List.reverse (ofA c l ks))) (ofA c l ks) && eqB (mirK' (mirK' (ofK c ks))) (ofK c ks)) then true else !(eqB (List.reverse (List.reverse (ofA c l ks))) (ofA c l ks) && eqB (ovK' (mirK'
(ovK' (mirK' (ofK c ks))))) (ofK c ks))) = true) ∧ ((!bif bif bif bif bif (↑(List.length (List.reverse (ofA c l ks))) : Int) != (↑(List.length (ofA c l ks)) : Int) then true else (↑(List.length (mirK'
(ofK c ks))) : Int) != (↑(List.length (ofA c l ks)) : Int) then true else (↑(List.length (ovK' (mirK' (ofK c ks)))) : Int) != (↑(List.length (ofA c l ks)) : Int) then true else !(eqB (List.reverse
(ofA c l ks)) (List.reverse (ofA c l ks)) && eqB (ovK' (mirK' (ofK c ks))) (ovK' (mirK' (ofK c ks)))) then true else !(eqB (List.reverse (List.reverse (ofA c l ks))) (ofA c l ks) && eqB (mirK' (mirK'
(ofK c ks))) (ofK c ks)) then true else !(eqB (List.reverse (List.reverse (ofA c l ks))) (ofA c l ks) && eqB (ovK' (mirK' (ovK' (mirK' (ofK c ks))))) (ofK c ks))) = true → List.length (List.reverse
(ofA c l ks)) = List.length (List.reverse (ofA c l ks)) ∧ List.length (mirK' (ofK c ks)) = List.length (mirK' (ofK c ks)) ∧ List.length (List.reverse (ofA c l ks)) = List.length (List.reverse (ofA c l
ks)) ∧ List.length (mirK' (ofK c ks)) = List.length (mirK' (ofK c ks)) ∧ List.length (List.reverse (ofA c l ks)) = List.length (List.reverse (ofA c l ks)) ∧ List.length (mirK' (ofK c ks)) =
List.length (mirK' (ofK c ks)) ∧ List.length (List.reverse (ofA c l ks)) = List.length (List.reverse (ofA c l ks)) ∧ List.length (mirK' (ofK c ks)) = List.length (mirK' (ofK c ks)) ∧ List.length
(List.reverse (ofA c l ks)) < 1000000000000 ∧ List.length (mirK' (ofK c ks)) < 1000000000000) ∧ ((!bif bif bif bif bif (↑(List.length (List.reverse (ofA c l ks))) : Int) != (↑(List.length (ofA c l
ks)) : Int) then true else (↑(List.length (mirK' (ofK c ks))) : Int) != (↑(List.length (ofA c l ks)) : Int) then true else (↑(List.length (ovK' (mirK' (ofK c ks)))) : Int) != (↑(List.length (ofA c l
ks)) : Int) then true else !(eqB (List.reverse (ofA c l ks)) (List.reverse (ofA c l ks)) && eqB (ovK' (mirK' (ofK c ks))) (ovK' (mirK' (ofK c ks)))) then true else !(eqB (List.reverse (List.reverse
(ofA c l ks))) (ofA c l ks) && eqB (mirK' (mirK' (ofK c ks))) (ofK c ks)) then true else !(eqB (List.reverse (List.reverse (ofA c l ks))) (ofA c l ks) && eqB (ovK' (mirK' (ovK' (mirK' (ofK c ks)))))
(ofK c ks))) = true → (!bif bif bif bif bif (↑(List.length (List.reverse (ofA c l ks))) : Int) != (↑(List.length (ofA c l ks)) : Int) then true else (↑(List.length (mirK' (ofK c ks))) : Int) !=
(↑(List.length (ofA c l ks)) : Int) then true else (↑(List.length (ovK' (mirK' (ofK c ks)))) : Int) != (↑(List.length (ofA c l ks)) : Int) then true else !(eqB (List.reverse (ofA c l ks))
(List.reverse (ofA c l ks)) && eqB (ovK' (mirK' (ofK c ks))) (ovK' (mirK' (ofK c ks)))) then true else !(eqB (List.reverse (List.reverse (ofA c l ks))) (ofA c l ks) && eqB (mirK' (mirK' (ofK c ks)))
(ofK c ks)) then true else !(eqB (List.reverse (List.reverse (ofA c l ks))) (ofA c l ks) && eqB (ovK' (mirK' (ovK' (mirK' (ofK c ks))))) (ofK c ks))) = true) ∧ (bif bif bif bif bif bif (↑(List.length
(List.reverse (ofA c l ks))) : Int) != (↑(List.length (ofA c l ks)) : Int) then true else (↑(List.length (mirK' (ofK c ks))) : Int) != (↑(List.length (ofA c l ks)) : Int) then true else (↑(List.length
(ovK' (mirK' (ofK c ks)))) : Int) != (↑(List.length (ofA c l ks)) : Int) then true else !(eqB (List.reverse (ofA c l ks)) (List.reverse (ofA c l ks)) && eqB (ovK' (mirK' (ofK c ks))) (ovK' (mirK' (ofK
c ks)))) then true else !(eqB (List.reverse (List.reverse (ofA c l ks))) (ofA c l ks) && eqB (mirK' (mirK' (ofK c ks))) (ofK c ks)) then true else !(eqB (List.reverse (List.reverse (ofA c l ks))) (ofA
c l ks) && eqB (ovK' (mirK' (ovK' (mirK' (ofK c ks))))) (ofK c ks)) then true else (!bif bif bif bif bif (↑(List.length (List.reverse (ofA c l ks))) : Int) != (↑(List.length (ofA c l ks)) : Int) then
true else (↑(List.length (mirK' (ofK c ks))) : Int) != (↑(List.length (ofA c l ks)) : Int) then true else (↑(List.length (ovK' (mirK' (ofK c ks)))) : Int) != (↑(List.length (ofA c l ks)) : Int) then
true else !(eqB (List.reverse (ofA c l ks)) (List.reverse (ofA c l ks)) && eqB (ovK' (mirK' (ofK c ks))) (ovK' (mirK' (ofK c ks)))) then true else !(eqB (List.reverse (List.reverse (ofA c l ks))) (ofA
c l ks) && eqB (mirK' (mirK' (ofK c ks))) (ofK c ks)) then true else !(eqB (List.reverse (List.reverse (ofA c l ks))) (ofA c l ks) && eqB (ovK' (mirK' (ovK' (mirK' (ofK c ks))))) (ofK c ks))) && true)
= true ∧ (bif bif bif bif bif bif (↑(List.length (List.reverse (ofA c l ks))) : Int) != (↑(List.length (ofA c l ks)) : Int) then true else (↑(List.length (mirK' (ofK c ks))) : Int) != (↑(List.length
(ofA c l ks)) : Int) then true else (↑(List.length (ovK' (mirK' (ofK c ks)))) : Int) != (↑(List.length (ofA c l ks)) : Int) then true else !(eqB (List.reverse (ofA c l ks)) (List.reverse (ofA c l ks))
&& eqB (ovK' (mirK' (ofK c ks))) (ovK' (mirK' (ofK c ks)))) then true else !(eqB (List.reverse (List.reverse (ofA c l ks))) (ofA c l ks) && eqB (mirK' (mirK' (ofK c ks))) (ofK c ks)) then true else
!(eqB (List.reverse (List.reverse (ofA c l ks))) (ofA c l ks) && eqB (ovK' (mirK' (ovK' (mirK' (ofK c ks))))) (ofK c ks)) then true else !(eqB (List.reverse (ofA c l ks)) (List.reverse (ofA c l ks))
&& eqB (mirK' (ofK c ks)) (mirK' (ofK c ks)))) = false ∧ 1 = 1 ∧ c = c ∧ l = l ∧ Cont.ints IntKind.u8 ks = Cont.ints IntKind.u8 ks ∧ List.length ks = List.length ks ∧ List.length (ofA c l ks) =
List.length (ofA c l ks) ∧ ofA c l ks = ofA c l ks ∧ List.length (ofK c ks) = List.length (ofK c ks) ∧ ofK c ks = ofK c ks ∧ 1 = 1 ∧ List.length (ofA c l ks) = List.length (ofA c l ks) ∧ List.length
(ofK c ks) = List.length (ofK c ks) ∧ 1 = 1 ∧ Cont.ints IntKind.i64 (List.reverse (ofA c l ks)) = Cont.ints IntKind.i64 (List.reverse (ofA c l ks)) ∧ List.length (List.reverse (ofA c l ks)) =
List.length (List.reverse (ofA c l ks)) ∧ List.length (List.reverse (ofA c l ks)) = List.length (List.reverse (ofA c l ks)) ∧ Cont.ints IntKind.u8 (mirK' (ofK c ks)) = Cont.ints IntKind.u8 (mirK' (ofK
c ks)) ∧ List.length (mirK' (ofK c ks)) = List.length (mirK' (ofK c ks)) ∧ List.length (mirK' (ofK c ks)) = List.length (mirK' (ofK c ks)) ∧ 1 = 1 ∧ Cont.ints IntKind.i64 (List.reverse (ofA c l ks)) =
Cont.ints IntKind.i64 (List.reverse (ofA c l ks)) ∧ List.length (List.reverse (ofA c l ks)) = List.length (List.reverse (ofA c l ks)) ∧ List.length (List.reverse (ofA c l ks)) = List.length
(List.reverse (ofA c l ks)) ∧ Cont.ints IntKind.u8 (ovK' (mirK' (ofK c ks))) = Cont.ints IntKind.u8 (ovK' (mirK' (ofK c ks))) ∧ List.length (ovK' (mirK' (ofK c ks))) = List.length (ovK' (mirK' (ofK c
ks))) ∧ List.length (ovK' (mirK' (ofK c ks))) = List.length (ovK' (mirK' (ofK c ks))) ∧ 0 = 0 ∧ (↑(List.length (ofA c l ks)) : Int) = (↑(List.length (ofA c l ks)) : Int) ∧ 0 = 0 ∧ 0 = 0 ∧ iI 0 = 0 ∧
(∃ (n : Nat), 0 = (↑n : Int) ∧ n ≤ List.length (ofA c l ks)) ∧ ∀ (b : L8), (∃ (n : Nat), b.i = (↑n : Int) ∧ n ≤ List.length (ofA c l ks)) → (ltb b.i (↑(List.length (ofA c l ks)) : Int) = true → inR
IntKind.i64 ((↑(List.length (ofA c l ks)) : Int) - b.i) = true ∧ (!(↑(List.length (ofA c l ks)) : Int) == 0) = true ∧ leb 0 (Int.tmod ((↑(List.length (ofA c l ks)) : Int) - b.i) (↑(List.length (ofA c
l ks)) : Int)) = true ∧ ltb (Int.tmod ((↑(List.length (ofA c l ks)) : Int) - b.i) (↑(List.length (ofA c l ks)) : Int)) (↑(List.length (ofK c ks)) : Int) = true ∧ List.length (ofK c ks) = List.length
(ofK c ks) ∧ List.length (ofK c ks) = List.length (ofK c ks) ∧ ltn (Int.toNat (Int.tmod ((↑(List.length (ofA c l ks)) : Int) - b.i) (↑(List.length (ofA c l ks)) : Int))) (Cont.size (Cont.ints
IntKind.u8 (ofK c ks))) = true ∧ leb 0 b.i = true ∧ ltb b.i (↑(List.length (List.reverse (ofA c l ks))) : Int) = true ∧ ltn 0 (Cont.size (Cont.ints IntKind.i64 (List.reverse (ofA c l ks)))) = true ∧
ltn 0 (Cont.size (Cont.ints IntKind.i64 (List.drop (Int.toNat b.i) (List.reverse (ofA c l ks))))) = true ∧ inR IntKind.i64 ((↑(List.length (ofA c l ks)) : Int) - 1) = true ∧ inR IntKind.i64
((↑(List.length (ofA c l ks)) : Int) - 1 - b.i) = true ∧ leb 0 ((↑(List.length (ofA c l ks)) : Int) - 1 - b.i) = true ∧ ltb ((↑(List.length (ofA c l ks)) : Int) - 1 - b.i) (↑(List.length (ofA c l ks))
: Int) = true ∧ List.length (ofA c l ks) = List.length (ofA c l ks) ∧ List.length (ofA c l ks) = List.length (ofA c l ks) ∧ ltn (Int.toNat ((↑(List.length (ofA c l ks)) : Int) - 1 - b.i)) (Cont.size
(Cont.ints IntKind.i64 (ofA c l ks))) = true ∧ ((!List.getD (List.drop (Int.toNat b.i) (List.reverse (ofA c l ks))) 0 0 != List.getD (ofA c l ks) (Int.toNat ((↑(List.length (ofA c l ks)) : Int) - 1 -
b.i)) 0) = true → (!List.getD (List.drop (Int.toNat b.i) (List.reverse (ofA c l ks))) 0 0 != List.getD (ofA c l ks) (Int.toNat ((↑(List.length (ofA c l ks)) : Int) - 1 - b.i)) 0) = true) ∧
((!List.getD (List.drop (Int.toNat b.i) (List.reverse (ofA c l ks))) 0 0 != List.getD (ofA c l ks) (Int.toNat ((↑(List.length (ofA c l ks)) : Int) - 1 - b.i)) 0) = true → (!List.getD (List.drop
(Int.toNat b.i) (List.reverse (ofA c l ks))) 0 0 != List.getD (ofA c l ks) (Int.toNat ((↑(List.length (ofA c l ks)) : Int) - 1 - b.i)) 0) = true) ∧ ((!List.getD (List.drop (Int.toNat b.i)
(List.reverse (ofA c l ks))) 0 0 != List.getD (ofA c l ks) (Int.toNat ((↑(List.length (ofA c l ks)) : Int) - 1 - b.i)) 0) = true → (!List.getD (List.drop (Int.toNat b.i) (List.reverse (ofA c l ks))) 0
0 != List.getD (ofA c l ks) (Int.toNat ((↑(List.length (ofA c l ks)) : Int) - 1 - b.i)) 0) = true) ∧ ((!List.getD (List.drop (Int.toNat b.i) (List.reverse (ofA c l ks))) 0 0 != List.getD (ofA c l ks)
(Int.toNat ((↑(List.length (ofA c l ks)) : Int) - 1 - b.i)) 0) = true → leb 0 b.i = true) ∧ ((!List.getD (List.drop (Int.toNat b.i) (List.reverse (ofA c l ks))) 0 0 != List.getD (ofA c l ks)
(Int.toNat ((↑(List.length (ofA c l ks)) : Int) - 1 - b.i)) 0) = true → ltb b.i (↑(List.length (mirK' (ofK c ks))) : Int) = true) ∧ ((!List.getD (List.drop (Int.toNat b.i) (List.reverse (ofA c l ks)))
0 0 != List.getD (ofA c l ks) (Int.toNat ((↑(List.length (ofA c l ks)) : Int) - 1 - b.i)) 0) = true → ltn 0 (Cont.size (Cont.ints IntKind.u8 (mirK' (ofK c ks)))) = true) ∧ ((!List.getD (List.drop
(Int.toNat b.i) (List.reverse (ofA c l ks))) 0 0 != List.getD (ofA c l ks) (Int.toNat ((↑(List.length (ofA c l ks)) : Int) - 1 - b.i)) 0) = true → (!List.getD (List.drop (Int.toNat b.i) (List.reverse
(ofA c l ks))) 0 0 != List.getD (ofA c l ks) (Int.toNat ((↑(List.length (ofA c l ks)) : Int) - 1 - b.i)) 0) = true) ∧ ((!List.getD (List.drop (Int.toNat b.i) (List.reverse (ofA c l ks))) 0 0 !=
List.getD (ofA c l ks) (Int.toNat ((↑(List.length (ofA c l ks)) : Int) - 1 - b.i)) 0) = true → ltn 0 (Cont.size (Cont.ints IntKind.u8 (List.drop (Int.toNat b.i) (mirK' (ofK c ks))))) = true) ∧
((!List.getD (List.drop (Int.toNat b.i) (List.reverse (ofA c l ks))) 0 0 != List.getD (ofA c l ks) (Int.toNat ((↑(List.length (ofA c l ks)) : Int) - 1 - b.i)) 0) = true → (!List.getD (List.drop
(Int.toNat b.i) (List.reverse (ofA c l ks))) 0 0 != List.getD (ofA c l ks) (Int.toNat ((↑(List.length (ofA c l ks)) : Int) - 1 - b.i)) 0) = true) ∧ ((!List.getD (List.drop (Int.toNat b.i)
(List.reverse (ofA c l ks))) 0 0 != List.getD (ofA c l ks) (Int.toNat ((↑(List.length (ofA c l ks)) : Int) - 1 - b.i)) 0) = true → (!List.getD (List.drop (Int.toNat b.i) (List.reverse (ofA c l ks))) 0
0 != List.getD (ofA c l ks) (Int.toNat ((↑(List.length (ofA c l ks)) : Int) - 1 - b.i)) 0) = true) ∧ (bif List.getD (List.drop (Int.toNat b.i) (List.reverse (ofA c l ks))) 0 0 != List.getD (ofA c l
ks) (Int.toNat ((↑(List.length (ofA c l ks)) : Int) - 1 - b.i)) 0 then true else !List.getD (List.drop (Int.toNat b.i) (List.reverse (ofA c l ks))) 0 0 != List.getD (ofA c l ks) (Int.toNat
((↑(List.length (ofA c l ks)) : Int) - 1 - b.i)) 0 && true) = true ∧ (bif List.getD (List.drop (Int.toNat b.i) (List.reverse (ofA c l ks))) 0 0 != List.getD (ofA c l ks) (Int.toNat ((↑(List.length
(ofA c l ks)) : Int) - 1 - b.i)) 0 then true else List.getD (List.drop (Int.toNat b.i) (mirK' (ofK c ks))) 0 0 != List.getD (ofK c ks) (Int.toNat (Int.tmod ((↑(List.length (ofA c l ks)) : Int) - b.i)
(↑(List.length (ofA c l ks)) : Int))) 0) = false ∧ (((List.getD (ofK c ks) (Int.toNat (Int.tmod ((↑(List.length (ofA c l ks)) : Int) - b.i) (↑(List.length (ofA c l ks)) : Int))) 0 != 3) = true → inR
IntKind.u8 (3 - List.getD (ofK c ks) (Int.toNat (Int.tmod ((↑(List.length (ofA c l ks)) : Int) - b.i) (↑(List.length (ofA c l ks)) : Int))) 0) = true ∧ 1 = 1 ∧ c = c ∧ l = l ∧ Cont.ints IntKind.u8 ks
= Cont.ints IntKind.u8 ks ∧ List.length ks = List.length ks ∧ List.length (ofA c l ks) = List.length (ofA c l ks) ∧ ofA c l ks = ofA c l ks ∧ List.length (ofK c ks) = List.length (ofK c ks) ∧ ofK c ks
= ofK c ks ∧ 1 = 1 ∧ List.length (ofA c l ks) = List.length (ofA c l ks) ∧ List.length (ofK c ks) = List.length (ofK c ks) ∧ 1 = 1 ∧ Cont.ints IntKind.i64 (List.reverse (ofA c l ks)) = Cont.ints
IntKind.i64 (List.reverse (ofA c l ks)) ∧ List.length (List.reverse (ofA c l ks)) = List.length (List.reverse (ofA c l ks)) ∧ List.length (List.reverse (ofA c l ks)) = List.length (List.reverse (ofA c
l ks)) ∧ Cont.ints IntKind.u8 (mirK' (ofK c ks)) = Cont.ints IntKind.u8 (mirK' (ofK c ks)) ∧ List.length (mirK' (ofK c ks)) = List.length (mirK' (ofK c ks)) ∧ List.length (mirK' (ofK c ks)) =
List.length (mirK' (ofK c ks)) ∧ 1 = 1 ∧ Cont.ints IntKind.i64 (List.reverse (ofA c l ks)) = Cont.ints IntKind.i64 (List.reverse (ofA c l ks)) ∧ List.length (List.reverse (ofA c l ks)) = List.length
(List.reverse (ofA c l ks)) ∧ List.length (List.reverse (ofA c l ks)) = List.length (List.reverse (ofA c l ks)) ∧ Cont.ints IntKind.u8 (ovK' (mirK' (ofK c ks))) = Cont.ints IntKind.u8 (ovK' (mirK'
(ofK c ks))) ∧ List.length (ovK' (mirK' (ofK c ks))) = List.length (ovK' (mirK' (ofK c ks))) ∧ List.length (ovK' (mirK' (ofK c ks))) = List.length (ovK' (mirK' (ofK c ks))) ∧ 0 = 0 ∧ (↑(List.length
(ofA c l ks)) : Int) = (↑(List.length (ofA c l ks)) : Int) ∧ 0 = 0 ∧ 0 = 0 ∧ b.i = b.i ∧ 3 - List.getD (ofK c ks) (Int.toNat (Int.tmod ((↑(List.length (ofA c l ks)) : Int) - b.i) (↑(List.length (ofA c
l ks)) : Int))) 0 = 3 - List.getD (ofK c ks) (Int.toNat (Int.tmod ((↑(List.length (ofA c l ks)) : Int) - b.i) (↑(List.length (ofA c l ks)) : Int))) 0 ∧ (!List.getD (List.drop (Int.toNat b.i)
(List.reverse (ofA c l ks))) 0 0 != List.getD (ofA c l ks) (Int.toNat ((↑(List.length (ofA c l ks)) : Int) - 1 - b.i)) 0) = !List.getD (List.drop (Int.toNat b.i) (List.reverse (ofA c l ks))) 0 0 !=
List.getD (ofA c l ks) (Int.toNat ((↑(List.length (ofA c l ks)) : Int) - 1 - b.i)) 0 ∧ 1 = 1 ∧ (!List.getD (List.drop (Int.toNat b.i) (List.reverse (ofA c l ks))) 0 0 != List.getD (ofA c l ks)
(Int.toNat ((↑(List.length (ofA c l ks)) : Int) - 1 - b.i)) 0) = !List.getD (List.drop (Int.toNat b.i) (List.reverse (ofA c l ks))) 0 0 != List.getD (ofA c l ks) (Int.toNat ((↑(List.length (ofA c l
ks)) : Int) - 1 - b.i)) 0 ∧ Cont.ints IntKind.u8 (mirK' (ofK c ks)) = Cont.ints IntKind.u8 (mirK' (ofK c ks)) ∧ List.length (mirK' (ofK c ks)) = List.length (mirK' (ofK c ks)) ∧ List.length (mirK'
(ofK c ks)) = List.length (mirK' (ofK c ks)) ∧ (!List.getD (List.drop (Int.toNat b.i) (List.reverse (ofA c l ks))) 0 0 != List.getD (ofA c l ks) (Int.toNat ((↑(List.length (ofA c l ks)) : Int) - 1 -
b.i)) 0) = !List.getD (List.drop (Int.toNat b.i) (List.reverse (ofA c l ks))) 0 0 != List.getD (ofA c l ks) (Int.toNat ((↑(List.length (ofA c l ks)) : Int) - 1 - b.i)) 0 ∧ b.i = b.i ∧ (!List.getD
(List.drop (Int.toNat b.i) (List.reverse (ofA c l ks))) 0 0 != List.getD (ofA c l ks) (Int.toNat ((↑(List.length (ofA c l ks)) : Int) - 1 - b.i)) 0) = !List.getD (List.drop (Int.toNat b.i)
(List.reverse (ofA c l ks))) 0 0 != List.getD (ofA c l ks) (Int.toNat ((↑(List.length (ofA c l ks)) : Int) - 1 - b.i)) 0 ∧ Cont.ints IntKind.u8 (List.drop (Int.toNat b.i) (mirK' (ofK c ks))) =
Cont.ints IntKind.u8 (List.drop (Int.toNat b.i) (mirK' (ofK c ks))) ∧ (!List.getD (List.drop (Int.toNat b.i) (List.reverse (ofA c l ks))) 0 0 != List.getD (ofA c l ks) (Int.toNat ((↑(List.length (ofA
c l ks)) : Int) - 1 - b.i)) 0) = !List.getD (List.drop (Int.toNat b.i) (List.reverse (ofA c l ks))) 0 0 != List.getD (ofA c l ks) (Int.toNat ((↑(List.length (ofA c l ks)) : Int) - 1 - b.i)) 0 ∧
List.getD (List.drop (Int.toNat b.i) (mirK' (ofK c ks))) 0 0 = List.getD (List.drop (Int.toNat b.i) (mirK' (ofK c ks))) 0 0 ∧ (!List.getD (List.drop (Int.toNat b.i) (List.reverse (ofA c l ks))) 0 0 !=
List.getD (ofA c l ks) (Int.toNat ((↑(List.length (ofA c l ks)) : Int) - 1 - b.i)) 0) = !List.getD (List.drop (Int.toNat b.i) (List.reverse (ofA c l ks))) 0 0 != List.getD (ofA c l ks) (Int.toNat
((↑(List.length (ofA c l ks)) : Int) - 1 - b.i)) 0 ∧ List.getD (ofK c ks) (Int.toNat (Int.tmod ((↑(List.length (ofA c l ks)) : Int) - b.i) (↑(List.length (ofA c l ks)) : Int))) 0 = List.getD (ofK c
ks) (Int.toNat (Int.tmod ((↑(List.length (ofA c l ks)) : Int) - b.i) (↑(List.length (ofA c l ks)) : Int))) 0 ∧ (!List.getD (List.drop (Int.toNat b.i) (List.reverse (ofA c l ks))) 0 0 != List.getD (ofA
c l ks) (Int.toNat ((↑(List.length (ofA c l ks)) : Int) - 1 - b.i)) 0) = !List.getD (List.drop (Int.toNat b.i) (List.reverse (ofA c l ks))) 0 0 != List.getD (ofA c l ks) (Int.toNat ((↑(List.length
(ofA c l ks)) : Int) - 1 - b.i)) 0 ∧ (List.getD (List.drop (Int.toNat b.i) (mirK' (ofK c ks))) 0 0 != List.getD (ofK c ks) (Int.toNat (Int.tmod ((↑(List.length (ofA c l ks)) : Int) - b.i)
(↑(List.length (ofA c l ks)) : Int))) 0) = (List.getD (List.drop (Int.toNat b.i) (mirK' (ofK c ks))) 0 0 != List.getD (ofK c ks) (Int.toNat (Int.tmod ((↑(List.length (ofA c l ks)) : Int) - b.i)
(↑(List.length (ofA c l ks)) : Int))) 0) ∧ 3 - List.getD (ofK c ks) (Int.toNat (Int.tmod ((↑(List.length (ofA c l ks)) : Int) - b.i) (↑(List.length (ofA c l ks)) : Int))) 0 = oKd (ofK c ks)
(List.length (ofA c l ks)) b.i ∧ True) ∧ ((List.getD (ofK c ks) (Int.toNat (Int.tmod ((↑(List.length (ofA c l ks)) : Int) - b.i) (↑(List.length (ofA c l ks)) : Int))) 0 != 3) = false → 1 = 1 ∧ c = c ∧
l = l ∧ Cont.ints IntKind.u8 ks = Cont.ints IntKind.u8 ks ∧ List.length ks = List.length ks ∧ List.length (ofA c l ks) = List.length (ofA c l ks) ∧ ofA c l ks = ofA c l ks ∧ List.length (ofK c ks) =
List.length (ofK c ks) ∧ ofK c ks = ofK c ks ∧ 1 = 1 ∧ List.length (ofA c l ks) = List.length (ofA c l ks) ∧ List.length (ofK c ks) = List.length (ofK c ks) ∧ 1 = 1 ∧ Cont.ints IntKind.i64
(List.reverse (ofA c l ks)) = Cont.ints IntKind.i64 (List.reverse (ofA c l ks)) ∧ List.length (List.reverse (ofA c l ks)) = List.length (List.reverse (ofA c l ks)) ∧ List.length (List.reverse (ofA c l
ks)) = List.length (List.reverse (ofA c l ks)) ∧ Cont.ints IntKind.u8 (mirK' (ofK c ks)) = Cont.ints IntKind.u8 (mirK' (ofK c ks)) ∧ List.length (mirK' (ofK c ks)) = List.length (mirK' (ofK c ks)) ∧
List.length (mirK' (ofK c ks)) = List.length (mirK' (ofK c ks)) ∧ 1 = 1 ∧ Cont.ints IntKind.i64 (List.reverse (ofA c l ks)) = Cont.ints IntKind.i64 (List.reverse (ofA c l ks)) ∧ List.length
(List.reverse (ofA c l ks)) = List.length (List.reverse (ofA c l ks)) ∧ List.length (List.reverse (ofA c l ks)) = List.length (List.reverse (ofA c l ks)) ∧ Cont.ints IntKind.u8 (ovK' (mirK' (ofK c
ks))) = Cont.ints IntKind.u8 (ovK' (mirK' (ofK c ks))) ∧ List.length (ovK' (mirK' (ofK c ks))) = List.length (ovK' (mirK' (ofK c ks))) ∧ List.length (ovK' (mirK' (ofK c ks))) = List.length (ovK'
(mirK' (ofK c ks))) ∧ 0 = 0 ∧ (↑(List.length (ofA c l ks)) : Int) = (↑(List.length (ofA c l ks)) : Int) ∧ 0 = 0 ∧ 0 = 0 ∧ b.i = b.i ∧ List.getD (ofK c ks) (Int.toNat (Int.tmod ((↑(List.length (ofA c l
ks)) : Int) - b.i) (↑(List.length (ofA c l ks)) : Int))) 0 = List.getD (ofK c ks) (Int.toNat (Int.tmod ((↑(List.length (ofA c l ks)) : Int) - b.i) (↑(List.length (ofA c l ks)) : Int))) 0 ∧ (!List.getD
(List.drop (Int.toNat b.i) (List.reverse (ofA c l ks))) 0 0 != List.getD (ofA c l ks) (Int.toNat ((↑(List.length (ofA c l ks)) : Int) - 1 - b.i)) 0) = !List.getD (List.drop (Int.toNat b.i)
(List.reverse (ofA c l ks))) 0 0 != List.getD (ofA c l ks) (Int.toNat ((↑(List.length (ofA c l ks)) : Int) - 1 - b.i)) 0 ∧ 1 = 1 ∧ (!List.getD (List.drop (Int.toNat b.i) (List.reverse (ofA c l ks))) 0
0 != List.getD (ofA c l ks) (Int.toNat ((↑(List.length (ofA c l ks)) : Int) - 1 - b.i)) 0) = !List.getD (List.drop (Int.toNat b.i) (List.reverse (ofA c l ks))) 0 0 != List.getD (ofA c l ks) (Int.toNat
((↑(List.length (ofA c l ks)) : Int) - 1 - b.i)) 0 ∧ Cont.ints IntKind.u8 (mirK' (ofK c ks)) = Cont.ints IntKind.u8 (mirK' (ofK c ks)) ∧ List.length (mirK' (ofK c ks)) = List.length (mirK' (ofK c ks))
∧ List.length (mirK' (ofK c ks)) = List.length (mirK' (ofK c ks)) ∧ (!List.getD (List.drop (Int.toNat b.i) (List.reverse (ofA c l ks))) 0 0 != List.getD (ofA c l ks) (Int.toNat ((↑(List.length (ofA c
l ks)) : Int) - 1 - b.i)) 0) = !List.getD (List.drop (Int.toNat b.i) (List.reverse (ofA c l ks))) 0 0 != List.getD (ofA c l ks) (Int.toNat ((↑(List.length (ofA c l ks)) : Int) - 1 - b.i)) 0 ∧ b.i =
b.i ∧ (!List.getD (List.drop (Int.toNat b.i) (List.reverse (ofA c l ks))) 0 0 != List.getD (ofA c l ks) (Int.toNat ((↑(List.length (ofA c l ks)) : Int) - 1 - b.i)) 0) = !List.getD (List.drop
(Int.toNat b.i) (List.reverse (ofA c l ks))) 0 0 != List.getD (ofA c l ks) (Int.toNat ((↑(List.length (ofA c l ks)) : Int) - 1 - b.i)) 0 ∧ Cont.ints IntKind.u8 (List.drop (Int.toNat b.i) (mirK' (ofK c
ks))) = Cont.ints IntKind.u8 (List.drop (Int.toNat b.i) (mirK' (ofK c ks))) ∧ (!List.getD (List.drop (Int.toNat b.i) (List.reverse (ofA c l ks))) 0 0 != List.getD (ofA c l ks) (Int.toNat
((↑(List.length (ofA c l ks)) : Int) - 1 - b.i)) 0) = !List.getD (List.drop (Int.toNat b.i) (List.reverse (ofA c l ks))) 0 0 != List.getD (ofA c l ks) (Int.toNat ((↑(List.length (ofA c l ks)) : Int) -
1 - b.i)) 0 ∧ List.getD (List.drop (Int.toNat b.i) (mirK' (ofK c ks))) 0 0 = List.getD (List.drop (Int.toNat b.i) (mirK' (ofK c ks))) 0 0 ∧ (!List.getD (List.drop (Int.toNat b.i) (List.reverse (ofA c
l ks))) 0 0 != List.getD (ofA c l ks) (Int.toNat ((↑(List.length (ofA c l ks)) : Int) - 1 - b.i)) 0) = !List.getD (List.drop (Int.toNat b.i) (List.reverse (ofA c l ks))) 0 0 != List.getD (ofA c l ks)
(Int.toNat ((↑(List.length (ofA c l ks)) : Int) - 1 - b.i)) 0 ∧ List.getD (ofK c ks) (Int.toNat (Int.tmod ((↑(List.length (ofA c l ks)) : Int) - b.i) (↑(List.length (ofA c l ks)) : Int))) 0 =
List.getD (ofK c ks) (Int.toNat (Int.tmod ((↑(List.length (ofA c l ks)) : Int) - b.i) (↑(List.length (ofA c l ks)) : Int))) 0 ∧ (!List.getD (List.drop (Int.toNat b.i) (List.reverse (ofA c l ks))) 0 0
!= List.getD (ofA c l ks) (Int.toNat ((↑(List.length (ofA c l ks)) : Int) - 1 - b.i)) 0) = !List.getD (List.drop (Int.toNat b.i) (List.reverse (ofA c l ks))) 0 0 != List.getD (ofA c l ks) (Int.toNat
((↑(List.length (ofA c l ks)) : Int) - 1 - b.i)) 0 ∧ (List.getD (List.drop (Int.toNat b.i) (mirK' (ofK c ks))) 0 0 != List.getD (ofK c ks) (Int.toNat (Int.tmod ((↑(List.length (ofA c l ks)) : Int) -
b.i) (↑(List.length (ofA c l ks)) : Int))) 0) = (List.getD (List.drop (Int.toNat b.i) (mirK' (ofK c ks))) 0 0 != List.getD (ofK c ks) (Int.toNat (Int.tmod ((↑(List.length (ofA c l ks)) : Int) - b.i)
(↑(List.length (ofA c l ks)) : Int))) 0) ∧ List.getD (ofK c ks) (Int.toNat (Int.tmod ((↑(List.length (ofA c l ks)) : Int) - b.i) (↑(List.length (ofA c l ks)) : Int))) 0 = oKd (ofK c ks) (List.length
(ofA c l ks)) b.i ∧ True)) ∧ ∀ (b_1 : VI), b_1.v = oKd (ofK c ks) (List.length (ofA c l ks)) b.i → leb 0 b.i = true ∧ ltb b.i (↑(List.length (ovK' (mirK' (ofK c ks)))) : Int) = true ∧ ltn 0 (Cont.size
(Cont.ints IntKind.u8 (ovK' (mirK' (ofK c ks))))) = true ∧ ltn 0 (Cont.size (Cont.ints IntKind.u8 (List.drop (Int.toNat b.i) (ovK' (mirK' (ofK c ks)))))) = true ∧ (List.getD (List.drop (Int.toNat b.i)
(ovK' (mirK' (ofK c ks)))) 0 0 != b_1.v) = false ∧ inR IntKind.i64 (b.i + 1) = true ∧ 1 = 1 ∧ c = c ∧ l = l ∧ Cont.ints IntKind.u8 ks = Cont.ints IntKind.u8 ks ∧ List.length ks = List.length ks ∧
List.length (ofA c l ks) = List.length (ofA c l ks) ∧ ofA c l ks = ofA c l ks ∧ List.length (ofK c ks) = List.length (ofK c ks) ∧ ofK c ks = ofK c ks ∧ 1 = 1 ∧ List.length (ofA c l ks) = List.length
(ofA c l ks) ∧ List.length (ofK c ks) = List.length (ofK c ks) ∧ 1 = 1 ∧ Cont.ints IntKind.i64 (List.reverse (ofA c l ks)) = Cont.ints IntKind.i64 (List.reverse (ofA c l ks)) ∧ List.length
(List.reverse (ofA c l ks)) = List.length (List.reverse (ofA c l ks)) ∧ List.length (List.reverse (ofA c l ks)) = List.length (List.reverse (ofA c l ks)) ∧ Cont.ints IntKind.u8 (mirK' (ofK c ks)) =
Cont.ints IntKind.u8 (mirK' (ofK c ks)) ∧ List.length (mirK' (ofK c ks)) = List.length (mirK' (ofK c ks)) ∧ List.length (mirK' (ofK c ks)) = List.length (mirK' (ofK c ks)) ∧ 1 = 1 ∧ Cont.ints
IntKind.i64 (List.reverse (ofA c l ks)) = Cont.ints IntKind.i64 (List.reverse (ofA c l ks)) ∧ List.length (List.reverse (ofA c l ks)) = List.length (List.reverse (ofA c l ks)) ∧ List.length
(List.reverse (ofA c l ks)) = List.length (List.reverse (ofA c l ks)) ∧ Cont.ints IntKind.u8 (ovK' (mirK' (ofK c ks))) = Cont.ints IntKind.u8 (ovK' (mirK' (ofK c ks))) ∧ List.length (ovK' (mirK' (ofK
c ks))) = List.length (ovK' (mirK' (ofK c ks))) ∧ List.length (ovK' (mirK' (ofK c ks))) = List.length (ovK' (mirK' (ofK c ks))) ∧ 0 = 0 ∧ (↑(List.length (ofA c l ks)) : Int) = (↑(List.length (ofA c l
ks)) : Int) ∧ 0 = 0 ∧ 0 = 0 ∧ b.i + 1 = b.i + 1 ∧ (∃ (n : Nat), b.i + 1 = (↑n : Int) ∧ n ≤ List.length (ofA c l ks)) ∧ List.length (ofA c l ks) - Int.toNat (b.i + 1) < List.length (ofA c l ks) -
Int.toNat b.i ∧ True) ∧ (ltb b.i (↑(List.length (ofA c l ks)) : Int) = false → true = true ∧ True)) := by kernel_rfl

end Go.Proofs.YtfafinkgmhkdmaaDoor.X
