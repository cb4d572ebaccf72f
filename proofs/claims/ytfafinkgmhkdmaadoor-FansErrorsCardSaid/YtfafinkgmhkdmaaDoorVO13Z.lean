/-
 What is to be shown of the functions (made by a program).
-/
import Derived.Test.YtfafinkgmhkdmaaDoorVD11Z
import Derived.KernelRfl
set_option maxRecDepth 1000000
set_option linter.unusedVariables false
namespace Go.Proofs.YtfafinkgmhkdmaaDoor.X
open Go Go.Ab

theorem ob_o10 (a k b j : List Int) (f : Int) : fnP (ZE) G 10000 fe10 (.r [] 0 (.rs 5 [] 1 27 (.r [] 63 (.lit (.r [] 1 .nil))) (.rs 6 [] 7 33 (.r [] 15 (.lit (.r [] 1 .nil))) (.rs 6 [] 7 39 (.r [] 3 (.lit (.r [] 1 .nil))) (.r [] 7 (.cnd (.r [] 1 .nil) (.r [] 0 (.r [] 0 (.r [] 0 (.lp (l10a a) [] [] (fun b_1 => (.r [] 1 (.cnd (.rs 7 [] 1 59 (.r [] 3 (.lit (.r [] 0 (.r [] 0 .nil)))) (.r [] 97 (.cnd (.r [] 0 (.r [] 0 .nil)) (.r [] 1 (.r [] 0 .nil))))) (.r [] 0 (.lp (m10 (wA' a) k) [] [] (fun b_2 => (.r [] 1 (.cnd (.rs 7 [] 1 87 (.r [] 3 (.lit (.r [] 0 (.r [] 0 .nil)))) (.r [] 97 (.cnd (.r [] 0 (.r [] 0 .nil)) (.r [] 0 .nil)))) (.r [] 0 (.jn (jI 7 IntKind.i64 (w2' a k)) [96] [] (.cnd (.r [] 0 .nil) .nil) (fun b_3 => (.r [] 3 (.jn (jI 7 IntKind.i64 (chk a k)) [103] [] (.cnd (.r [] 0 .nil) .nil) (fun b_4 => (.jn (jB 11 (fl2 a k)) [8] [] (.rs 3 [] 0 106 (.rs 3 [] 0 109 (.r [] 15 .nil) (.r [] 31 .nil)) (.r [] 3 .nil)) (fun b_5 => (.r [] 0 (.jn (jI 12 IntKind.i64 (patE a k f)) [] [] (.rs 3 [] 0 119 (.r [] 3 (.cnd (.r [] 0 .nil) (.rs 3 [] 0 125 (.rs 3 [] 0 128 (.r [] 15 (.lit (.r [] 0 .nil))) (.r [] 15 (.cnd (.r [] 0 .nil) .nil))) (.r [] 3 (.lit .nil))))) (.r [] 3 (.lit (.rs 3 [] 0 125 (.rs 3 [] 0 128 (.r [] 15 (.lit (.r [] 0 .nil))) (.r [] 15 (.cnd (.r [] 0 .nil) .nil))) (.r [] 3 (.lit .nil)))))) (fun b_6 => (.r [] 29 (.r [] 29 (.r [] 29 (.jn (jB 19 (lenE a k b j)) [] [] (.rs 8 [] 3 156 (.r [] 15 .nil) (.r [] 3 .nil)) (fun b_7 => (.r [] 0 (.jn (jB 19 (lenE a k b j && eqB a b)) [20] [] (.lp (n10 20 (lenE a k b j) a b) [] [] (fun b_8 => (.rs 6 [] 1 170 (.r [] 3 (.cnd (.r [] 33 (.r [] 0 .nil)) .nil)) (.r [] 3 (.lit .nil))))) (fun b_8 => (.r [] 0 (.jn (jB 19 (eqB a b && eqB k j)) [21] [] (.lp (n10 21 (lenE a k b j && eqB a b) k j) [] [] (fun b_9 => (.rs 6 [] 1 191 (.r [] 3 (.cnd (.r [] 33 (.r [] 0 .nil)) .nil)) (.r [] 3 (.lit .nil))))) (fun b_9 => (.r [yL 2501, yL 2502, yL 2503, yL 2504, yL 2505, yL 2506, yL 2507, yL 2508, yL 2509, yL 2510, yL 2511, yL 2512, yL 2513, yL 2514, yL 2515, yL 2516, yL 2517, yL 2518, yL 2519, yL 2520, yL 2521, yL 2522, yL 2523, yL 2524, yL 2525, yL 2526, yL 2527, yL 2528, yL 2529, yL 2530, yL 2531, yL 2532, yL 2533, yL 2534, yL 2535, yL 2536, yL 2537, yL 2538, yL 2539, yL 2540, yL 2541] 17854933855337433 (.ff (.r [] 9 (.rs 7 [yL 2692] 3 262 (.rs 10 [] 15 272 (.r [] 127 .nil) (.r [yL 2724] 30635 .nil)) (.rs 10 [yL 2702] 31 272 (.r [] 127 .nil) (.r [yL 2724] 30635 .nil)))))))))))))))))))))))))))))))))))))))))))))) ([fanV a k, fanV b j, .int .i64 f]) ([.bool true]) ([]) = (
(ltb 12 (↑(List.length a) : Int) = true → true = true ∧ True) ∧ (ltb 12 (↑(List.length a) : Int) = false → (ltb 12 (↑(List.length k) : Int) = true → true = true ∧ True) ∧ (ltb 12 (↑(List.length k) :
Int) = false → (ltb 12 (↑(List.length b) : Int) = true → true = true ∧ True) ∧ (ltb 12 (↑(List.length b) : Int) = false → (ltb 12 (↑(List.length j) : Int) = true → true = true ∧ True) ∧ (ltb 12
(↑(List.length j) : Int) = false → 1 = 1 ∧ Cont.ints IntKind.i64 a = Cont.ints IntKind.i64 a ∧ List.length a = List.length a ∧ Cont.ints IntKind.u8 k = Cont.ints IntKind.u8 k ∧ List.length k =
List.length k ∧ 1 = 1 ∧ Cont.ints IntKind.i64 b = Cont.ints IntKind.i64 b ∧ List.length b = List.length b ∧ Cont.ints IntKind.u8 j = Cont.ints IntKind.u8 j ∧ List.length j = List.length j ∧ f = f ∧ 0
= 0 ∧ 0 = 0 ∧ iI 0 = 0 ∧ iI 0 = 0 ∧ iI 0 = 0 ∧ (∃ (n : Nat), 0 = (↑n : Int) ∧ n ≤ List.length a ∧ 0 = wA' (List.take n a) ∧ 0 = sA1 (List.take n a)) ∧ ∀ (b_1 : L10), (∃ (n : Nat), b_1.i = (↑n : Int) ∧
n ≤ List.length a ∧ b_1.w = wA' (List.take n a) ∧ b_1.s = sA1 (List.take n a)) → (ltb b_1.i (↑(List.length a) : Int) = true → leb 0 b_1.i = true ∧ ltb b_1.i (↑(List.length a) : Int) = true ∧ ltn 0
(Cont.size (Cont.ints IntKind.i64 a)) = true ∧ ltn 0 (Cont.size (Cont.ints IntKind.i64 (List.drop (Int.toNat b_1.i) a))) = true ∧ (ltb (List.getD (List.drop (Int.toNat b_1.i) a) 0 0) 1 = true → inR
IntKind.i64 (b_1.i + 1) = true ∧ 1 = 1 ∧ Cont.ints IntKind.i64 a = Cont.ints IntKind.i64 a ∧ List.length a = List.length a ∧ Cont.ints IntKind.u8 k = Cont.ints IntKind.u8 k ∧ List.length k =
List.length k ∧ 1 = 1 ∧ Cont.ints IntKind.i64 b = Cont.ints IntKind.i64 b ∧ List.length b = List.length b ∧ Cont.ints IntKind.u8 j = Cont.ints IntKind.u8 j ∧ List.length j = List.length j ∧ f = f ∧ 0
= 0 ∧ 0 = 0 ∧ iI 1 = 1 ∧ b_1.s = b_1.s ∧ b_1.i + 1 = b_1.i + 1 ∧ (∃ (n : Nat), b_1.i + 1 = (↑n : Int) ∧ n ≤ List.length a ∧ 1 = wA' (List.take n a) ∧ b_1.s = sA1 (List.take n a)) ∧ List.length a -
Int.toNat (b_1.i + 1) < List.length a - Int.toNat b_1.i ∧ True) ∧ (ltb (List.getD (List.drop (Int.toNat b_1.i) a) 0 0) 1 = false → leb 0 b_1.i = true ∧ ltb b_1.i (↑(List.length a) : Int) = true ∧ ltn
0 (Cont.size (Cont.ints IntKind.i64 a)) = true ∧ ltn 0 (Cont.size (Cont.ints IntKind.i64 (List.drop (Int.toNat b_1.i) a))) = true ∧ (ltb 8 (List.getD (List.drop (Int.toNat b_1.i) a) 0 0) = true → inR
IntKind.i64 (b_1.i + 1) = true ∧ 1 = 1 ∧ Cont.ints IntKind.i64 a = Cont.ints IntKind.i64 a ∧ List.length a = List.length a ∧ Cont.ints IntKind.u8 k = Cont.ints IntKind.u8 k ∧ List.length k =
List.length k ∧ 1 = 1 ∧ Cont.ints IntKind.i64 b = Cont.ints IntKind.i64 b ∧ List.length b = List.length b ∧ Cont.ints IntKind.u8 j = Cont.ints IntKind.u8 j ∧ List.length j = List.length j ∧ f = f ∧ 0
= 0 ∧ 0 = 0 ∧ iI 1 = 1 ∧ b_1.s = b_1.s ∧ b_1.i + 1 = b_1.i + 1 ∧ (∃ (n : Nat), b_1.i + 1 = (↑n : Int) ∧ n ≤ List.length a ∧ 1 = wA' (List.take n a) ∧ b_1.s = sA1 (List.take n a)) ∧ List.length a -
Int.toNat (b_1.i + 1) < List.length a - Int.toNat b_1.i ∧ True) ∧ (ltb 8 (List.getD (List.drop (Int.toNat b_1.i) a) 0 0) = false → leb 0 b_1.i = true ∧ ltb b_1.i (↑(List.length a) : Int) = true ∧ ltn
0 (Cont.size (Cont.ints IntKind.i64 a)) = true ∧ ltn 0 (Cont.size (Cont.ints IntKind.i64 (List.drop (Int.toNat b_1.i) a))) = true ∧ inR IntKind.i64 (b_1.s + List.getD (List.drop (Int.toNat b_1.i) a) 0
0) = true ∧ inR IntKind.i64 (b_1.i + 1) = true ∧ 1 = 1 ∧ Cont.ints IntKind.i64 a = Cont.ints IntKind.i64 a ∧ List.length a = List.length a ∧ Cont.ints IntKind.u8 k = Cont.ints IntKind.u8 k ∧
List.length k = List.length k ∧ 1 = 1 ∧ Cont.ints IntKind.i64 b = Cont.ints IntKind.i64 b ∧ List.length b = List.length b ∧ Cont.ints IntKind.u8 j = Cont.ints IntKind.u8 j ∧ List.length j =
List.length j ∧ f = f ∧ 0 = 0 ∧ 0 = 0 ∧ b_1.w = b_1.w ∧ b_1.s + List.getD (List.drop (Int.toNat b_1.i) a) 0 0 = b_1.s + List.getD (List.drop (Int.toNat b_1.i) a) 0 0 ∧ b_1.i + 1 = b_1.i + 1 ∧ (∃ (n :
Nat), b_1.i + 1 = (↑n : Int) ∧ n ≤ List.length a ∧ b_1.w = wA' (List.take n a) ∧ b_1.s + List.getD (List.drop (Int.toNat b_1.i) a) 0 0 = sA1 (List.take n a)) ∧ List.length a - Int.toNat (b_1.i + 1) <
List.length a - Int.toNat b_1.i ∧ True))) ∧ (ltb b_1.i (↑(List.length a) : Int) = false → 1 = 1 ∧ Cont.ints IntKind.i64 a = Cont.ints IntKind.i64 a ∧ List.length a = List.length a ∧ Cont.ints
IntKind.u8 k = Cont.ints IntKind.u8 k ∧ List.length k = List.length k ∧ 1 = 1 ∧ Cont.ints IntKind.i64 b = Cont.ints IntKind.i64 b ∧ List.length b = List.length b ∧ Cont.ints IntKind.u8 j = Cont.ints
IntKind.u8 j ∧ List.length j = List.length j ∧ f = f ∧ 0 = 0 ∧ 0 = 0 ∧ b_1.w = b_1.w ∧ b_1.s = b_1.s ∧ ltb b_1.i (↑(List.length a) : Int) = ltb b_1.i (↑(List.length a) : Int) ∧ iI 0 = 0 ∧ (∃ (n :
Nat), 0 = (↑n : Int) ∧ n ≤ List.length k ∧ b_1.w = wK' (wA' a) (List.take n k)) ∧ ∀ (b_2 : M10), (∃ (n : Nat), b_2.i = (↑n : Int) ∧ n ≤ List.length k ∧ b_2.w = wK' (wA' a) (List.take n k)) → (ltb
b_2.i (↑(List.length k) : Int) = true → leb 0 b_2.i = true ∧ ltb b_2.i (↑(List.length k) : Int) = true ∧ ltn 0 (Cont.size (Cont.ints IntKind.u8 k)) = true ∧ ltn 0 (Cont.size (Cont.ints IntKind.u8
(List.drop (Int.toNat b_2.i) k))) = true ∧ (ltb (List.getD (List.drop (Int.toNat b_2.i) k) 0 0) 1 = true → inR IntKind.i64 (b_2.i + 1) = true ∧ 1 = 1 ∧ Cont.ints IntKind.i64 a = Cont.ints IntKind.i64
a ∧ List.length a = List.length a ∧ Cont.ints IntKind.u8 k = Cont.ints IntKind.u8 k ∧ List.length k = List.length k ∧ 1 = 1 ∧ Cont.ints IntKind.i64 b = Cont.ints IntKind.i64 b ∧ List.length b =
List.length b ∧ Cont.ints IntKind.u8 j = Cont.ints IntKind.u8 j ∧ List.length j = List.length j ∧ f = f ∧ 0 = 0 ∧ 0 = 0 ∧ iI 1 = 1 ∧ b_1.s = b_1.s ∧ ltb b_1.i (↑(List.length a) : Int) = ltb b_1.i
(↑(List.length a) : Int) ∧ b_2.i + 1 = b_2.i + 1 ∧ (∃ (n : Nat), b_2.i + 1 = (↑n : Int) ∧ n ≤ List.length k ∧ 1 = wK' (wA' a) (List.take n k)) ∧ List.length k - Int.toNat (b_2.i + 1) < List.length k -
Int.toNat b_2.i ∧ True) ∧ (ltb (List.getD (List.drop (Int.toNat b_2.i) k) 0 0) 1 = false → leb 0 b_2.i = true ∧ ltb b_2.i (↑(List.length k) : Int) = true ∧ ltn 0 (Cont.size (Cont.ints IntKind.u8 k)) =
true ∧ ltn 0 (Cont.size (Cont.ints IntKind.u8 (List.drop (Int.toNat b_2.i) k))) = true ∧ (ltb 3 (List.getD (List.drop (Int.toNat b_2.i) k) 0 0) = true → inR IntKind.i64 (b_2.i + 1) = true ∧ 1 = 1 ∧
Cont.ints IntKind.i64 a = Cont.ints IntKind.i64 a ∧ List.length a = List.length a ∧ Cont.ints IntKind.u8 k = Cont.ints IntKind.u8 k ∧ List.length k = List.length k ∧ 1 = 1 ∧ Cont.ints IntKind.i64 b =
Cont.ints IntKind.i64 b ∧ List.length b = List.length b ∧ Cont.ints IntKind.u8 j = Cont.ints IntKind.u8 j ∧ List.length j = List.length j ∧ f = f ∧ 0 = 0 ∧ 0 = 0 ∧ iI 1 = 1 ∧ b_1.s = b_1.s ∧ ltb b_1.i
(↑(List.length a) : Int) = ltb b_1.i (↑(List.length a) : Int) ∧ b_2.i + 1 = b_2.i + 1 ∧ (∃ (n : Nat), b_2.i + 1 = (↑n : Int) ∧ n ≤ List.length k ∧ 1 = wK' (wA' a) (List.take n k)) ∧ List.length k -
Int.toNat (b_2.i + 1) < List.length k - Int.toNat b_2.i ∧ True) ∧ (ltb 3 (List.getD (List.drop (Int.toNat b_2.i) k) 0 0) = false → inR IntKind.i64 (b_2.i + 1) = true ∧ 1 = 1 ∧ Cont.ints IntKind.i64 a
= Cont.ints IntKind.i64 a ∧ List.length a = List.length a ∧ Cont.ints IntKind.u8 k = Cont.ints IntKind.u8 k ∧ List.length k = List.length k ∧ 1 = 1 ∧ Cont.ints IntKind.i64 b = Cont.ints IntKind.i64 b
∧ List.length b = List.length b ∧ Cont.ints IntKind.u8 j = Cont.ints IntKind.u8 j ∧ List.length j = List.length j ∧ f = f ∧ 0 = 0 ∧ 0 = 0 ∧ b_2.w = b_2.w ∧ b_1.s = b_1.s ∧ ltb b_1.i (↑(List.length a)
: Int) = ltb b_1.i (↑(List.length a) : Int) ∧ b_2.i + 1 = b_2.i + 1 ∧ (∃ (n : Nat), b_2.i + 1 = (↑n : Int) ∧ n ≤ List.length k ∧ b_2.w = wK' (wA' a) (List.take n k)) ∧ List.length k - Int.toNat (b_2.i
+ 1) < List.length k - Int.toNat b_2.i ∧ True))) ∧ (ltb b_2.i (↑(List.length k) : Int) = false → ((ltb 8 b_1.s = true → 1 = 1 ∧ Cont.ints IntKind.i64 a = Cont.ints IntKind.i64 a ∧ List.length a =
List.length a ∧ Cont.ints IntKind.u8 k = Cont.ints IntKind.u8 k ∧ List.length k = List.length k ∧ 1 = 1 ∧ Cont.ints IntKind.i64 b = Cont.ints IntKind.i64 b ∧ List.length b = List.length b ∧ Cont.ints
IntKind.u8 j = Cont.ints IntKind.u8 j ∧ List.length j = List.length j ∧ f = f ∧ 0 = 0 ∧ 0 = 0 ∧ iI 1 = 1 ∧ b_1.s = b_1.s ∧ ltb b_1.i (↑(List.length a) : Int) = ltb b_1.i (↑(List.length a) : Int) ∧ ltb
b_2.i (↑(List.length k) : Int) = ltb b_2.i (↑(List.length k) : Int) ∧ 1 = w2' a k ∧ True) ∧ (ltb 8 b_1.s = false → 1 = 1 ∧ Cont.ints IntKind.i64 a = Cont.ints IntKind.i64 a ∧ List.length a =
List.length a ∧ Cont.ints IntKind.u8 k = Cont.ints IntKind.u8 k ∧ List.length k = List.length k ∧ 1 = 1 ∧ Cont.ints IntKind.i64 b = Cont.ints IntKind.i64 b ∧ List.length b = List.length b ∧ Cont.ints
IntKind.u8 j = Cont.ints IntKind.u8 j ∧ List.length j = List.length j ∧ f = f ∧ 0 = 0 ∧ 0 = 0 ∧ b_2.w = b_2.w ∧ b_1.s = b_1.s ∧ ltb b_1.i (↑(List.length a) : Int) = ltb b_1.i (↑(List.length a) : Int)
∧ ltb b_2.i (↑(List.length k) : Int) = ltb b_2.i (↑(List.length k) : Int) ∧ b_2.w = w2' a k ∧ True)) ∧ ∀ (b_3 : VI), b_3.v = w2' a k → ((((↑(List.length a) : Int) != (↑(List.length k) : Int)) = true →
1 = 1 ∧ Cont.ints IntKind.i64 a = Cont.ints IntKind.i64 a ∧ List.length a = List.length a ∧ Cont.ints IntKind.u8 k = Cont.ints IntKind.u8 k ∧ List.length k = List.length k ∧ 1 = 1 ∧ Cont.ints
IntKind.i64 b = Cont.ints IntKind.i64 b ∧ List.length b = List.length b ∧ Cont.ints IntKind.u8 j = Cont.ints IntKind.u8 j ∧ List.length j = List.length j ∧ f = f ∧ 0 = 0 ∧ 0 = 0 ∧ iI 5 = 5 ∧ b_1.s =
b_1.s ∧ ltb b_1.i (↑(List.length a) : Int) = ltb b_1.i (↑(List.length a) : Int) ∧ ltb b_2.i (↑(List.length k) : Int) = ltb b_2.i (↑(List.length k) : Int) ∧ 5 = chk a k ∧ True) ∧ (((↑(List.length a) :
Int) != (↑(List.length k) : Int)) = false → 1 = 1 ∧ Cont.ints IntKind.i64 a = Cont.ints IntKind.i64 a ∧ List.length a = List.length a ∧ Cont.ints IntKind.u8 k = Cont.ints IntKind.u8 k ∧ List.length k
= List.length k ∧ 1 = 1 ∧ Cont.ints IntKind.i64 b = Cont.ints IntKind.i64 b ∧ List.length b = List.length b ∧ Cont.ints IntKind.u8 j = Cont.ints IntKind.u8 j ∧ List.length j = List.length j ∧ f = f ∧
0 = 0 ∧ 0 = 0 ∧ b_3.v = b_3.v ∧ b_1.s = b_1.s ∧ ltb b_1.i (↑(List.length a) : Int) = ltb b_1.i (↑(List.length a) : Int) ∧ ltb b_2.i (↑(List.length k) : Int) = ltb b_2.i (↑(List.length k) : Int) ∧
b_3.v = chk a k ∧ True)) ∧ ∀ (b_4 : VI), b_4.v = chk a k → (((b_4.v == 0) = true → ((b_1.s == 8) = true → 1 = 1 ∧ Cont.ints IntKind.i64 a = Cont.ints IntKind.i64 a ∧ List.length a = List.length a ∧
Cont.ints IntKind.u8 k = Cont.ints IntKind.u8 k ∧ List.length k = List.length k ∧ 1 = 1 ∧ Cont.ints IntKind.i64 b = Cont.ints IntKind.i64 b ∧ List.length b = List.length b ∧ Cont.ints IntKind.u8 j =
Cont.ints IntKind.u8 j ∧ List.length j = List.length j ∧ f = f ∧ 0 = 0 ∧ 0 = 0 ∧ b_4.v = b_4.v ∧ ltb b_1.i (↑(List.length a) : Int) = ltb b_1.i (↑(List.length a) : Int) ∧ ltb b_2.i (↑(List.length k) :
Int) = ltb b_2.i (↑(List.length k) : Int) ∧ true = true ∧ true = fl2 a k ∧ True) ∧ ((b_1.s == 8) = false → 1 = 1 ∧ Cont.ints IntKind.i64 a = Cont.ints IntKind.i64 a ∧ List.length a = List.length a ∧
Cont.ints IntKind.u8 k = Cont.ints IntKind.u8 k ∧ List.length k = List.length k ∧ 1 = 1 ∧ Cont.ints IntKind.i64 b = Cont.ints IntKind.i64 b ∧ List.length b = List.length b ∧ Cont.ints IntKind.u8 j =
Cont.ints IntKind.u8 j ∧ List.length j = List.length j ∧ f = f ∧ 0 = 0 ∧ 0 = 0 ∧ b_4.v = b_4.v ∧ ltb b_1.i (↑(List.length a) : Int) = ltb b_1.i (↑(List.length a) : Int) ∧ ltb b_2.i (↑(List.length k) :
Int) = ltb b_2.i (↑(List.length k) : Int) ∧ ((↑(List.length a) : Int) == 0) = ((↑(List.length a) : Int) == 0) ∧ ((↑(List.length a) : Int) == 0) = fl2 a k ∧ True)) ∧ ((b_4.v == 0) = false → 1 = 1 ∧
Cont.ints IntKind.i64 a = Cont.ints IntKind.i64 a ∧ List.length a = List.length a ∧ Cont.ints IntKind.u8 k = Cont.ints IntKind.u8 k ∧ List.length k = List.length k ∧ 1 = 1 ∧ Cont.ints IntKind.i64 b =
Cont.ints IntKind.i64 b ∧ List.length b = List.length b ∧ Cont.ints IntKind.u8 j = Cont.ints IntKind.u8 j ∧ List.length j = List.length j ∧ f = f ∧ 0 = 0 ∧ 0 = 0 ∧ b_4.v = b_4.v ∧ ltb b_1.i
(↑(List.length a) : Int) = ltb b_1.i (↑(List.length a) : Int) ∧ ltb b_2.i (↑(List.length k) : Int) = ltb b_2.i (↑(List.length k) : Int) ∧ false = false ∧ false = fl2 a k ∧ True)) ∧ ∀ (b_5 : VB), b_5.v
= fl2 a k → (((b_4.v == 0) = true → ((!b_5.v) = true → 1 = 1 ∧ Cont.ints IntKind.i64 a = Cont.ints IntKind.i64 a ∧ List.length a = List.length a ∧ Cont.ints IntKind.u8 k = Cont.ints IntKind.u8 k ∧
List.length k = List.length k ∧ 1 = 1 ∧ Cont.ints IntKind.i64 b = Cont.ints IntKind.i64 b ∧ List.length b = List.length b ∧ Cont.ints IntKind.u8 j = Cont.ints IntKind.u8 j ∧ List.length j =
List.length j ∧ f = f ∧ 0 = 0 ∧ 0 = 0 ∧ b_4.v = b_4.v ∧ ltb b_1.i (↑(List.length a) : Int) = ltb b_1.i (↑(List.length a) : Int) ∧ ltb b_2.i (↑(List.length k) : Int) = ltb b_2.i (↑(List.length k) :
Int) ∧ b_5.v = b_5.v ∧ iI 14 = 14 ∧ 14 = patE a k f ∧ True) ∧ ((!b_5.v) = false → ((b_4.v == 0) = true → (ltb f 0 = true → 1 = 1 ∧ Cont.ints IntKind.i64 a = Cont.ints IntKind.i64 a ∧ List.length a =
List.length a ∧ Cont.ints IntKind.u8 k = Cont.ints IntKind.u8 k ∧ List.length k = List.length k ∧ 1 = 1 ∧ Cont.ints IntKind.i64 b = Cont.ints IntKind.i64 b ∧ List.length b = List.length b ∧ Cont.ints
IntKind.u8 j = Cont.ints IntKind.u8 j ∧ List.length j = List.length j ∧ f = f ∧ 0 = 0 ∧ 0 = 0 ∧ b_4.v = b_4.v ∧ ltb b_1.i (↑(List.length a) : Int) = ltb b_1.i (↑(List.length a) : Int) ∧ ltb b_2.i
(↑(List.length k) : Int) = ltb b_2.i (↑(List.length k) : Int) ∧ b_5.v = b_5.v ∧ iI 1 = 1 ∧ 1 = patE a k f ∧ True) ∧ (ltb f 0 = false → (ltb 7 f = true → 1 = 1 ∧ Cont.ints IntKind.i64 a = Cont.ints
IntKind.i64 a ∧ List.length a = List.length a ∧ Cont.ints IntKind.u8 k = Cont.ints IntKind.u8 k ∧ List.length k = List.length k ∧ 1 = 1 ∧ Cont.ints IntKind.i64 b = Cont.ints IntKind.i64 b ∧
List.length b = List.length b ∧ Cont.ints IntKind.u8 j = Cont.ints IntKind.u8 j ∧ List.length j = List.length j ∧ f = f ∧ 0 = 0 ∧ 0 = 0 ∧ b_4.v = b_4.v ∧ ltb b_1.i (↑(List.length a) : Int) = ltb b_1.i
(↑(List.length a) : Int) ∧ ltb b_2.i (↑(List.length k) : Int) = ltb b_2.i (↑(List.length k) : Int) ∧ b_5.v = b_5.v ∧ iI 1 = 1 ∧ 1 = patE a k f ∧ True) ∧ (ltb 7 f = false → 1 = 1 ∧ Cont.ints
IntKind.i64 a = Cont.ints IntKind.i64 a ∧ List.length a = List.length a ∧ Cont.ints IntKind.u8 k = Cont.ints IntKind.u8 k ∧ List.length k = List.length k ∧ 1 = 1 ∧ Cont.ints IntKind.i64 b = Cont.ints
IntKind.i64 b ∧ List.length b = List.length b ∧ Cont.ints IntKind.u8 j = Cont.ints IntKind.u8 j ∧ List.length j = List.length j ∧ f = f ∧ 0 = 0 ∧ 0 = 0 ∧ b_4.v = b_4.v ∧ ltb b_1.i (↑(List.length a) :
Int) = ltb b_1.i (↑(List.length a) : Int) ∧ ltb b_2.i (↑(List.length k) : Int) = ltb b_2.i (↑(List.length k) : Int) ∧ b_5.v = b_5.v ∧ b_4.v = b_4.v ∧ b_4.v = patE a k f ∧ True))) ∧ ((b_4.v == 0) =
false → 1 = 1 ∧ Cont.ints IntKind.i64 a = Cont.ints IntKind.i64 a ∧ List.length a = List.length a ∧ Cont.ints IntKind.u8 k = Cont.ints IntKind.u8 k ∧ List.length k = List.length k ∧ 1 = 1 ∧ Cont.ints
IntKind.i64 b = Cont.ints IntKind.i64 b ∧ List.length b = List.length b ∧ Cont.ints IntKind.u8 j = Cont.ints IntKind.u8 j ∧ List.length j = List.length j ∧ f = f ∧ 0 = 0 ∧ 0 = 0 ∧ b_4.v = b_4.v ∧ ltb
b_1.i (↑(List.length a) : Int) = ltb b_1.i (↑(List.length a) : Int) ∧ ltb b_2.i (↑(List.length k) : Int) = ltb b_2.i (↑(List.length k) : Int) ∧ b_5.v = b_5.v ∧ b_4.v = b_4.v ∧ b_4.v = patE a k f ∧
True))) ∧ ((b_4.v == 0) = false → ((b_4.v == 0) = true → (ltb f 0 = true → 1 = 1 ∧ Cont.ints IntKind.i64 a = Cont.ints IntKind.i64 a ∧ List.length a = List.length a ∧ Cont.ints IntKind.u8 k =
Cont.ints IntKind.u8 k ∧ List.length k = List.length k ∧ 1 = 1 ∧ Cont.ints IntKind.i64 b = Cont.ints IntKind.i64 b ∧ List.length b = List.length b ∧ Cont.ints IntKind.u8 j = Cont.ints IntKind.u8 j ∧
List.length j = List.length j ∧ f = f ∧ 0 = 0 ∧ 0 = 0 ∧ b_4.v = b_4.v ∧ ltb b_1.i (↑(List.length a) : Int) = ltb b_1.i (↑(List.length a) : Int) ∧ ltb b_2.i (↑(List.length k) : Int) = ltb b_2.i
(↑(List.length k) : Int) ∧ b_5.v = b_5.v ∧ iI 1 = 1 ∧ 1 = patE a k f ∧ True) ∧ (ltb f 0 = false → (ltb 7 f = true → 1 = 1 ∧ Cont.ints IntKind.i64 a = Cont.ints IntKind.i64 a ∧ List.length a =
List.length a ∧ Cont.ints IntKind.u8 k = Cont.ints IntKind.u8 k ∧ List.length k = List.length k ∧ 1 = 1 ∧ Cont.ints IntKind.i64 b = Cont.ints IntKind.i64 b ∧ List.length b = List.length b ∧ Cont.ints
IntKind.u8 j = Cont.ints IntKind.u8 j ∧ List.length j = List.length j ∧ f = f ∧ 0 = 0 ∧ 0 = 0 ∧ b_4.v = b_4.v ∧ ltb b_1.i (↑(List.length a) : Int) = ltb b_1.i (↑(List.length a) : Int) ∧ ltb b_2.i
(↑(List.length k) : Int) = ltb b_2.i (↑(List.length k) : Int) ∧ b_5.v = b_5.v ∧ iI 1 = 1 ∧ 1 = patE a k f ∧ True) ∧ (ltb 7 f = false → 1 = 1 ∧ Cont.ints IntKind.i64 a = Cont.ints IntKind.i64 a ∧
List.length a = List.length a ∧ Cont.ints IntKind.u8 k = Cont.ints IntKind.u8 k ∧ List.length k = List.length k ∧ 1 = 1 ∧ Cont.ints IntKind.i64 b = Cont.ints IntKind.i64 b ∧ List.length b =
List.length b ∧ Cont.ints IntKind.u8 j = Cont.ints IntKind.u8 j ∧ List.length j = List.length j ∧ f = f ∧ 0 = 0 ∧ 0 = 0 ∧ b_4.v = b_4.v ∧ ltb b_1.i (↑(List.length a) : Int) = ltb b_1.i (↑(List.length
a) : Int) ∧ ltb b_2.i (↑(List.length k) : Int) = ltb b_2.i (↑(List.length k) : Int) ∧ b_5.v = b_5.v ∧ b_4.v = b_4.v ∧ b_4.v = patE a k f ∧ True))) ∧ ((b_4.v == 0) = false → 1 = 1 ∧ Cont.ints
IntKind.i64 a = Cont.ints IntKind.i64 a ∧ List.length a = List.length a ∧ Cont.ints IntKind.u8 k = Cont.ints IntKind.u8 k ∧ List.length k = List.length k ∧ 1 = 1 ∧ Cont.ints IntKind.i64 b = Cont.ints
IntKind.i64 b ∧ List.length b = List.length b ∧ Cont.ints IntKind.u8 j = Cont.ints IntKind.u8 j ∧ List.length j = List.length j ∧ f = f ∧ 0 = 0 ∧ 0 = 0 ∧ b_4.v = b_4.v ∧ ltb b_1.i (↑(List.length a) :
Int) = ltb b_1.i (↑(List.length a) : Int) ∧ ltb b_2.i (↑(List.length k) : Int) = ltb b_2.i (↑(List.length k) : Int) ∧ b_5.v = b_5.v ∧ b_4.v = b_4.v ∧ b_4.v = patE a k f ∧ True))) ∧ ∀ (b_6 : VI), b_6.v
= patE a k f → (List.length a = List.length a ∧ List.length k = List.length k ∧ List.length a < 1000000000) ∧ (List.length a = List.length a ∧ List.length k = List.length k ∧ List.length a <
1000000000) ∧ (List.length a = List.length a ∧ List.length k = List.length k ∧ List.length a < 1000000000) ∧ ((((↑(List.length a) : Int) == (↑(List.length b) : Int)) = true → 1 = 1 ∧ Cont.ints
IntKind.i64 a = Cont.ints IntKind.i64 a ∧ List.length a = List.length a ∧ Cont.ints IntKind.u8 k = Cont.ints IntKind.u8 k ∧ List.length k = List.length k ∧ 1 = 1 ∧ Cont.ints IntKind.i64 b = Cont.ints
IntKind.i64 b ∧ List.length b = List.length b ∧ Cont.ints IntKind.u8 j = Cont.ints IntKind.u8 j ∧ List.length j = List.length j ∧ 1 = 1 ∧ bI (patE a k f == 0) 2 0 = bI (patE a k f == 0) 2 0 ∧ bI (patE
a k f == 0) 2 0 = bI (patE a k f == 0) 2 0 ∧ Cont.vals (flatC (patL a k f)) = Cont.vals (flatC (patL a k f)) ∧ List.length (patL a k f) = List.length (patL a k f) ∧ List.length (patL a k f) =
List.length (patL a k f) ∧ 1 = 1 ∧ Cont.ints IntKind.i64 (bLt (okC a k) (rotL' a 0)) = Cont.ints IntKind.i64 (bLt (okC a k) (rotL' a 0)) ∧ List.length (bLt (okC a k) (rotL' a 0)) = List.length (bLt
(okC a k) (rotL' a 0)) ∧ List.length (bLt (okC a k) (rotL' a 0)) = List.length (bLt (okC a k) (rotL' a 0)) ∧ Cont.ints IntKind.u8 (bLt (okC a k) (rotL' k 0)) = Cont.ints IntKind.u8 (bLt (okC a k)
(rotL' k 0)) ∧ List.length (bLt (okC a k) (rotL' k 0)) = List.length (bLt (okC a k) (rotL' k 0)) ∧ List.length (bLt (okC a k) (rotL' k 0)) = List.length (bLt (okC a k) (rotL' k 0)) ∧ 1 = 1 ∧ Cont.ints
IntKind.i64 (bLt (okC a k) (lsA a k)) = Cont.ints IntKind.i64 (bLt (okC a k) (lsA a k)) ∧ List.length (bLt (okC a k) (lsA a k)) = List.length (bLt (okC a k) (lsA a k)) ∧ List.length (bLt (okC a k)
(lsA a k)) = List.length (bLt (okC a k) (lsA a k)) ∧ Cont.ints IntKind.u8 (bLt (okC a k) (lsK a k)) = Cont.ints IntKind.u8 (bLt (okC a k) (lsK a k)) ∧ List.length (bLt (okC a k) (lsK a k)) =
List.length (bLt (okC a k) (lsK a k)) ∧ List.length (bLt (okC a k) (lsK a k)) = List.length (bLt (okC a k) (lsK a k)) ∧ 0 = 0 ∧ 0 = 0 ∧ b_4.v = b_4.v ∧ ltb b_1.i (↑(List.length a) : Int) = ltb b_1.i
(↑(List.length a) : Int) ∧ ltb b_2.i (↑(List.length k) : Int) = ltb b_2.i (↑(List.length k) : Int) ∧ b_5.v = b_5.v ∧ b_6.v = b_6.v ∧ 0 = 0 ∧ patE a k f = patE a k f ∧ 0 = 0 ∧ chk a k = chk a k ∧ 0 = 0
∧ chk a k = chk a k ∧ ((↑(List.length k) : Int) == (↑(List.length j) : Int)) = ((↑(List.length k) : Int) == (↑(List.length j) : Int)) ∧ ((↑(List.length k) : Int) == (↑(List.length j) : Int)) = lenE a
k b j ∧ True) ∧ (((↑(List.length a) : Int) == (↑(List.length b) : Int)) = false → 1 = 1 ∧ Cont.ints IntKind.i64 a = Cont.ints IntKind.i64 a ∧ List.length a = List.length a ∧ Cont.ints IntKind.u8 k =
Cont.ints IntKind.u8 k ∧ List.length k = List.length k ∧ 1 = 1 ∧ Cont.ints IntKind.i64 b = Cont.ints IntKind.i64 b ∧ List.length b = List.length b ∧ Cont.ints IntKind.u8 j = Cont.ints IntKind.u8 j ∧
List.length j = List.length j ∧ 1 = 1 ∧ bI (patE a k f == 0) 2 0 = bI (patE a k f == 0) 2 0 ∧ bI (patE a k f == 0) 2 0 = bI (patE a k f == 0) 2 0 ∧ Cont.vals (flatC (patL a k f)) = Cont.vals (flatC
(patL a k f)) ∧ List.length (patL a k f) = List.length (patL a k f) ∧ List.length (patL a k f) = List.length (patL a k f) ∧ 1 = 1 ∧ Cont.ints IntKind.i64 (bLt (okC a k) (rotL' a 0)) = Cont.ints
IntKind.i64 (bLt (okC a k) (rotL' a 0)) ∧ List.length (bLt (okC a k) (rotL' a 0)) = List.length (bLt (okC a k) (rotL' a 0)) ∧ List.length (bLt (okC a k) (rotL' a 0)) = List.length (bLt (okC a k)
(rotL' a 0)) ∧ Cont.ints IntKind.u8 (bLt (okC a k) (rotL' k 0)) = Cont.ints IntKind.u8 (bLt (okC a k) (rotL' k 0)) ∧ List.length (bLt (okC a k) (rotL' k 0)) = List.length (bLt (okC a k) (rotL' k 0)) ∧
List.length (bLt (okC a k) (rotL' k 0)) = List.length (bLt (okC a k) (rotL' k 0)) ∧ 1 = 1 ∧ Cont.ints IntKind.i64 (bLt (okC a k) (lsA a k)) = Cont.ints IntKind.i64 (bLt (okC a k) (lsA a k)) ∧
List.length (bLt (okC a k) (lsA a k)) = List.length (bLt (okC a k) (lsA a k)) ∧ List.length (bLt (okC a k) (lsA a k)) = List.length (bLt (okC a k) (lsA a k)) ∧ Cont.ints IntKind.u8 (bLt (okC a k) (lsK
a k)) = Cont.ints IntKind.u8 (bLt (okC a k) (lsK a k)) ∧ List.length (bLt (okC a k) (lsK a k)) = List.length (bLt (okC a k) (lsK a k)) ∧ List.length (bLt (okC a k) (lsK a k)) = List.length (bLt (okC a
k) (lsK a k)) ∧ 0 = 0 ∧ 0 = 0 ∧ b_4.v = b_4.v ∧ ltb b_1.i (↑(List.length a) : Int) = ltb b_1.i (↑(List.length a) : Int) ∧ ltb b_2.i (↑(List.length k) : Int) = ltb b_2.i (↑(List.length k) : Int) ∧
b_5.v = b_5.v ∧ b_6.v = b_6.v ∧ 0 = 0 ∧ patE a k f = patE a k f ∧ 0 = 0 ∧ chk a k = chk a k ∧ 0 = 0 ∧ chk a k = chk a k ∧ false = false ∧ false = lenE a k b j ∧ True)) ∧ ∀ (b_7 : VB), b_7.v = lenE a k
b j → (1 = 1 ∧ Cont.ints IntKind.i64 a = Cont.ints IntKind.i64 a ∧ List.length a = List.length a ∧ Cont.ints IntKind.u8 k = Cont.ints IntKind.u8 k ∧ List.length k = List.length k ∧ 1 = 1 ∧ Cont.ints
IntKind.i64 b = Cont.ints IntKind.i64 b ∧ List.length b = List.length b ∧ Cont.ints IntKind.u8 j = Cont.ints IntKind.u8 j ∧ List.length j = List.length j ∧ 1 = 1 ∧ bI (patE a k f == 0) 2 0 = bI (patE
a k f == 0) 2 0 ∧ bI (patE a k f == 0) 2 0 = bI (patE a k f == 0) 2 0 ∧ Cont.vals (flatC (patL a k f)) = Cont.vals (flatC (patL a k f)) ∧ List.length (patL a k f) = List.length (patL a k f) ∧
List.length (patL a k f) = List.length (patL a k f) ∧ 1 = 1 ∧ Cont.ints IntKind.i64 (bLt (okC a k) (rotL' a 0)) = Cont.ints IntKind.i64 (bLt (okC a k) (rotL' a 0)) ∧ List.length (bLt (okC a k) (rotL'
a 0)) = List.length (bLt (okC a k) (rotL' a 0)) ∧ List.length (bLt (okC a k) (rotL' a 0)) = List.length (bLt (okC a k) (rotL' a 0)) ∧ Cont.ints IntKind.u8 (bLt (okC a k) (rotL' k 0)) = Cont.ints
IntKind.u8 (bLt (okC a k) (rotL' k 0)) ∧ List.length (bLt (okC a k) (rotL' k 0)) = List.length (bLt (okC a k) (rotL' k 0)) ∧ List.length (bLt (okC a k) (rotL' k 0)) = List.length (bLt (okC a k) (rotL'
k 0)) ∧ 1 = 1 ∧ Cont.ints IntKind.i64 (bLt (okC a k) (lsA a k)) = Cont.ints IntKind.i64 (bLt (okC a k) (lsA a k)) ∧ List.length (bLt (okC a k) (lsA a k)) = List.length (bLt (okC a k) (lsA a k)) ∧
List.length (bLt (okC a k) (lsA a k)) = List.length (bLt (okC a k) (lsA a k)) ∧ Cont.ints IntKind.u8 (bLt (okC a k) (lsK a k)) = Cont.ints IntKind.u8 (bLt (okC a k) (lsK a k)) ∧ List.length (bLt (okC
a k) (lsK a k)) = List.length (bLt (okC a k) (lsK a k)) ∧ List.length (bLt (okC a k) (lsK a k)) = List.length (bLt (okC a k) (lsK a k)) ∧ 0 = 0 ∧ 0 = 0 ∧ b_4.v = b_4.v ∧ ltb b_1.i (↑(List.length a) :
Int) = ltb b_1.i (↑(List.length a) : Int) ∧ ltb b_2.i (↑(List.length k) : Int) = ltb b_2.i (↑(List.length k) : Int) ∧ b_5.v = b_5.v ∧ b_6.v = b_6.v ∧ 0 = 0 ∧ patE a k f = patE a k f ∧ 0 = 0 ∧ chk a k
= chk a k ∧ 0 = 0 ∧ chk a k = chk a k ∧ b_7.v = b_7.v ∧ iI 0 = 0 ∧ (∃ (n : Nat), 0 = (↑n : Int) ∧ n ≤ List.length a ∧ b_7.v = (lenE a k b j && decide (List.take n a = List.take n b))) ∧ ∀ (b_8 : E10),
(∃ (n : Nat), b_8.i = (↑n : Int) ∧ n ≤ List.length a ∧ b_8.e = (lenE a k b j && decide (List.take n a = List.take n b))) → (ltb b_8.i (↑(List.length a) : Int) = true → (b_8.e = true → leb 0 b_8.i =
true ∧ ltb b_8.i (↑(List.length a) : Int) = true ∧ ltn 0 (Cont.size (Cont.ints IntKind.i64 a)) = true ∧ ltn 0 (Cont.size (Cont.ints IntKind.i64 (List.drop (Int.toNat b_8.i) a))) = true ∧ leb 0 b_8.i =
true ∧ ltb b_8.i (↑(List.length b) : Int) = true ∧ ltn 0 (Cont.size (Cont.ints IntKind.i64 b)) = true ∧ ltn 0 (Cont.size (Cont.ints IntKind.i64 (List.drop (Int.toNat b_8.i) b))) = true ∧ inR
IntKind.i64 (b_8.i + 1) = true ∧ 1 = 1 ∧ Cont.ints IntKind.i64 a = Cont.ints IntKind.i64 a ∧ List.length a = List.length a ∧ Cont.ints IntKind.u8 k = Cont.ints IntKind.u8 k ∧ List.length k =
List.length k ∧ 1 = 1 ∧ Cont.ints IntKind.i64 b = Cont.ints IntKind.i64 b ∧ List.length b = List.length b ∧ Cont.ints IntKind.u8 j = Cont.ints IntKind.u8 j ∧ List.length j = List.length j ∧ 1 = 1 ∧ bI
(patE a k f == 0) 2 0 = bI (patE a k f == 0) 2 0 ∧ bI (patE a k f == 0) 2 0 = bI (patE a k f == 0) 2 0 ∧ Cont.vals (flatC (patL a k f)) = Cont.vals (flatC (patL a k f)) ∧ List.length (patL a k f) =
List.length (patL a k f) ∧ List.length (patL a k f) = List.length (patL a k f) ∧ 1 = 1 ∧ Cont.ints IntKind.i64 (bLt (okC a k) (rotL' a 0)) = Cont.ints IntKind.i64 (bLt (okC a k) (rotL' a 0)) ∧
List.length (bLt (okC a k) (rotL' a 0)) = List.length (bLt (okC a k) (rotL' a 0)) ∧ List.length (bLt (okC a k) (rotL' a 0)) = List.length (bLt (okC a k) (rotL' a 0)) ∧ Cont.ints IntKind.u8 (bLt (okC a
k) (rotL' k 0)) = Cont.ints IntKind.u8 (bLt (okC a k) (rotL' k 0)) ∧ List.length (bLt (okC a k) (rotL' k 0)) = List.length (bLt (okC a k) (rotL' k 0)) ∧ List.length (bLt (okC a k) (rotL' k 0)) =
List.length (bLt (okC a k) (rotL' k 0)) ∧ 1 = 1 ∧ Cont.ints IntKind.i64 (bLt (okC a k) (lsA a k)) = Cont.ints IntKind.i64 (bLt (okC a k) (lsA a k)) ∧ List.length (bLt (okC a k) (lsA a k)) =
List.length (bLt (okC a k) (lsA a k)) ∧ List.length (bLt (okC a k) (lsA a k)) = List.length (bLt (okC a k) (lsA a k)) ∧ Cont.ints IntKind.u8 (bLt (okC a k) (lsK a k)) = Cont.ints IntKind.u8 (bLt (okC
a k) (lsK a k)) ∧ List.length (bLt (okC a k) (lsK a k)) = List.length (bLt (okC a k) (lsK a k)) ∧ List.length (bLt (okC a k) (lsK a k)) = List.length (bLt (okC a k) (lsK a k)) ∧ 0 = 0 ∧ 0 = 0 ∧ b_4.v
= b_4.v ∧ ltb b_1.i (↑(List.length a) : Int) = ltb b_1.i (↑(List.length a) : Int) ∧ ltb b_2.i (↑(List.length k) : Int) = ltb b_2.i (↑(List.length k) : Int) ∧ b_5.v = b_5.v ∧ b_6.v = b_6.v ∧ 0 = 0 ∧
patE a k f = patE a k f ∧ 0 = 0 ∧ chk a k = chk a k ∧ 0 = 0 ∧ chk a k = chk a k ∧ (List.getD (List.drop (Int.toNat b_8.i) a) 0 0 == List.getD (List.drop (Int.toNat b_8.i) b) 0 0) = (List.getD
(List.drop (Int.toNat b_8.i) a) 0 0 == List.getD (List.drop (Int.toNat b_8.i) b) 0 0) ∧ b_8.i + 1 = b_8.i + 1 ∧ (∃ (n : Nat), b_8.i + 1 = (↑n : Int) ∧ n ≤ List.length a ∧ (List.getD (List.drop
(Int.toNat b_8.i) a) 0 0 == List.getD (List.drop (Int.toNat b_8.i) b) 0 0) = (lenE a k b j && decide (List.take n a = List.take n b))) ∧ List.length a - Int.toNat (b_8.i + 1) < List.length a -
Int.toNat b_8.i ∧ True) ∧ (b_8.e = false → 1 = 1 ∧ Cont.ints IntKind.i64 a = Cont.ints IntKind.i64 a ∧ List.length a = List.length a ∧ Cont.ints IntKind.u8 k = Cont.ints IntKind.u8 k ∧ List.length k =
List.length k ∧ 1 = 1 ∧ Cont.ints IntKind.i64 b = Cont.ints IntKind.i64 b ∧ List.length b = List.length b ∧ Cont.ints IntKind.u8 j = Cont.ints IntKind.u8 j ∧ List.length j = List.length j ∧ 1 = 1 ∧ bI
(patE a k f == 0) 2 0 = bI (patE a k f == 0) 2 0 ∧ bI (patE a k f == 0) 2 0 = bI (patE a k f == 0) 2 0 ∧ Cont.vals (flatC (patL a k f)) = Cont.vals (flatC (patL a k f)) ∧ List.length (patL a k f) =
List.length (patL a k f) ∧ List.length (patL a k f) = List.length (patL a k f) ∧ 1 = 1 ∧ Cont.ints IntKind.i64 (bLt (okC a k) (rotL' a 0)) = Cont.ints IntKind.i64 (bLt (okC a k) (rotL' a 0)) ∧
List.length (bLt (okC a k) (rotL' a 0)) = List.length (bLt (okC a k) (rotL' a 0)) ∧ List.length (bLt (okC a k) (rotL' a 0)) = List.length (bLt (okC a k) (rotL' a 0)) ∧ Cont.ints IntKind.u8 (bLt (okC a
k) (rotL' k 0)) = Cont.ints IntKind.u8 (bLt (okC a k) (rotL' k 0)) ∧ List.length (bLt (okC a k) (rotL' k 0)) = List.length (bLt (okC a k) (rotL' k 0)) ∧ List.length (bLt (okC a k) (rotL' k 0)) =
List.length (bLt (okC a k) (rotL' k 0)) ∧ 1 = 1 ∧ Cont.ints IntKind.i64 (bLt (okC a k) (lsA a k)) = Cont.ints IntKind.i64 (bLt (okC a k) (lsA a k)) ∧ List.length (bLt (okC a k) (lsA a k)) =
List.length (bLt (okC a k) (lsA a k)) ∧ List.length (bLt (okC a k) (lsA a k)) = List.length (bLt (okC a k) (lsA a k)) ∧ Cont.ints IntKind.u8 (bLt (okC a k) (lsK a k)) = Cont.ints IntKind.u8 (bLt (okC
a k) (lsK a k)) ∧ List.length (bLt (okC a k) (lsK a k)) = List.length (bLt (okC a k) (lsK a k)) ∧ List.length (bLt (okC a k) (lsK a k)) = List.length (bLt (okC a k) (lsK a k)) ∧ 0 = 0 ∧ 0 = 0 ∧ b_4.v
= b_4.v ∧ ltb b_1.i (↑(List.length a) : Int) = ltb b_1.i (↑(List.length a) : Int) ∧ ltb b_2.i (↑(List.length k) : Int) = ltb b_2.i (↑(List.length k) : Int) ∧ b_5.v = b_5.v ∧ b_6.v = b_6.v ∧ 0 = 0 ∧
patE a k f = patE a k f ∧ 0 = 0 ∧ chk a k = chk a k ∧ 0 = 0 ∧ chk a k = chk a k ∧ b_8.e = b_8.e ∧ b_8.e = (lenE a k b j && eqB a b) ∧ True)) ∧ (ltb b_8.i (↑(List.length a) : Int) = false → 1 = 1 ∧
Cont.ints IntKind.i64 a = Cont.ints IntKind.i64 a ∧ List.length a = List.length a ∧ Cont.ints IntKind.u8 k = Cont.ints IntKind.u8 k ∧ List.length k = List.length k ∧ 1 = 1 ∧ Cont.ints IntKind.i64 b =
Cont.ints IntKind.i64 b ∧ List.length b = List.length b ∧ Cont.ints IntKind.u8 j = Cont.ints IntKind.u8 j ∧ List.length j = List.length j ∧ 1 = 1 ∧ bI (patE a k f == 0) 2 0 = bI (patE a k f == 0) 2 0
∧ bI (patE a k f == 0) 2 0 = bI (patE a k f == 0) 2 0 ∧ Cont.vals (flatC (patL a k f)) = Cont.vals (flatC (patL a k f)) ∧ List.length (patL a k f) = List.length (patL a k f) ∧ List.length (patL a k f)
= List.length (patL a k f) ∧ 1 = 1 ∧ Cont.ints IntKind.i64 (bLt (okC a k) (rotL' a 0)) = Cont.ints IntKind.i64 (bLt (okC a k) (rotL' a 0)) ∧ List.length (bLt (okC a k) (rotL' a 0)) = List.length (bLt
(okC a k) (rotL' a 0)) ∧ List.length (bLt (okC a k) (rotL' a 0)) = List.length (bLt (okC a k) (rotL' a 0)) ∧ Cont.ints IntKind.u8 (bLt (okC a k) (rotL' k 0)) = Cont.ints IntKind.u8 (bLt (okC a k)
(rotL' k 0)) ∧ List.length (bLt (okC a k) (rotL' k 0)) = List.length (bLt (okC a k) (rotL' k 0)) ∧ List.length (bLt (okC a k) (rotL' k 0)) = List.length (bLt (okC a k) (rotL' k 0)) ∧ 1 = 1 ∧ Cont.ints
IntKind.i64 (bLt (okC a k) (lsA a k)) = Cont.ints IntKind.i64 (bLt (okC a k) (lsA a k)) ∧ List.length (bLt (okC a k) (lsA a k)) = List.length (bLt (okC a k) (lsA a k)) ∧ List.length (bLt (okC a k)
(lsA a k)) = List.length (bLt (okC a k) (lsA a k)) ∧ Cont.ints IntKind.u8 (bLt (okC a k) (lsK a k)) = Cont.ints IntKind.u8 (bLt (okC a k) (lsK a k)) ∧ List.length (bLt (okC a k) (lsK a k)) =
List.length (bLt (okC a k) (lsK a k)) ∧ List.length (bLt (okC a k) (lsK a k)) = List.length (bLt (okC a k) (lsK a k)) ∧ 0 = 0 ∧ 0 = 0 ∧ b_4.v = b_4.v ∧ ltb b_1.i (↑(List.length a) : Int) = ltb b_1.i
(↑(List.length a) : Int) ∧ ltb b_2.i (↑(List.length k) : Int) = ltb b_2.i (↑(List.length k) : Int) ∧ b_5.v = b_5.v ∧ b_6.v = b_6.v ∧ 0 = 0 ∧ patE a k f = patE a k f ∧ 0 = 0 ∧ chk a k = chk a k ∧ 0 = 0
∧ chk a k = chk a k ∧ b_8.e = b_8.e ∧ b_8.e = (lenE a k b j && eqB a b) ∧ True)) ∧ ∀ (b_8 : VB), b_8.v = (lenE a k b j && eqB a b) → (1 = 1 ∧ Cont.ints IntKind.i64 a = Cont.ints IntKind.i64 a ∧
List.length a = List.length a ∧ Cont.ints IntKind.u8 k = Cont.ints IntKind.u8 k ∧ List.length k = List.length k ∧ 1 = 1 ∧ Cont.ints IntKind.i64 b = Cont.ints IntKind.i64 b ∧ List.length b =
List.length b ∧ Cont.ints IntKind.u8 j = Cont.ints IntKind.u8 j ∧ List.length j = List.length j ∧ 1 = 1 ∧ bI (patE a k f == 0) 2 0 = bI (patE a k f == 0) 2 0 ∧ bI (patE a k f == 0) 2 0 = bI (patE a k
f == 0) 2 0 ∧ Cont.vals (flatC (patL a k f)) = Cont.vals (flatC (patL a k f)) ∧ List.length (patL a k f) = List.length (patL a k f) ∧ List.length (patL a k f) = List.length (patL a k f) ∧ 1 = 1 ∧
Cont.ints IntKind.i64 (bLt (okC a k) (rotL' a 0)) = Cont.ints IntKind.i64 (bLt (okC a k) (rotL' a 0)) ∧ List.length (bLt (okC a k) (rotL' a 0)) = List.length (bLt (okC a k) (rotL' a 0)) ∧ List.length
(bLt (okC a k) (rotL' a 0)) = List.length (bLt (okC a k) (rotL' a 0)) ∧ Cont.ints IntKind.u8 (bLt (okC a k) (rotL' k 0)) = Cont.ints IntKind.u8 (bLt (okC a k) (rotL' k 0)) ∧ List.length (bLt (okC a k)
(rotL' k 0)) = List.length (bLt (okC a k) (rotL' k 0)) ∧ List.length (bLt (okC a k) (rotL' k 0)) = List.length (bLt (okC a k) (rotL' k 0)) ∧ 1 = 1 ∧ Cont.ints IntKind.i64 (bLt (okC a k) (lsA a k)) =
Cont.ints IntKind.i64 (bLt (okC a k) (lsA a k)) ∧ List.length (bLt (okC a k) (lsA a k)) = List.length (bLt (okC a k) (lsA a k)) ∧ List.length (bLt (okC a k) (lsA a k)) = List.length (bLt (okC a k)
(lsA a k)) ∧ Cont.ints IntKind.u8 (bLt (okC a k) (lsK a k)) = Cont.ints IntKind.u8 (bLt (okC a k) (lsK a k)) ∧ List.length (bLt (okC a k) (lsK a k)) = List.length (bLt (okC a k) (lsK a k)) ∧
List.length (bLt (okC a k) (lsK a k)) = List.length (bLt (okC a k) (lsK a k)) ∧ 0 = 0 ∧ 0 = 0 ∧ b_4.v = b_4.v ∧ ltb b_1.i (↑(List.length a) : Int) = ltb b_1.i (↑(List.length a) : Int) ∧ ltb b_2.i
(↑(List.length k) : Int) = ltb b_2.i (↑(List.length k) : Int) ∧ b_5.v = b_5.v ∧ b_6.v = b_6.v ∧ 0 = 0 ∧ patE a k f = patE a k f ∧ 0 = 0 ∧ chk a k = chk a k ∧ 0 = 0 ∧ chk a k = chk a k ∧ b_8.v = b_8.v
∧ iI 0 = 0 ∧ (∃ (n : Nat), 0 = (↑n : Int) ∧ n ≤ List.length k ∧ b_8.v = (lenE a k b j && eqB a b && decide (List.take n k = List.take n j))) ∧ ∀ (b_9 : E10), (∃ (n : Nat), b_9.i = (↑n : Int) ∧ n ≤
List.length k ∧ b_9.e = (lenE a k b j && eqB a b && decide (List.take n k = List.take n j))) → (ltb b_9.i (↑(List.length k) : Int) = true → (b_9.e = true → leb 0 b_9.i = true ∧ ltb b_9.i
(↑(List.length k) : Int) = true ∧ ltn 0 (Cont.size (Cont.ints IntKind.u8 k)) = true ∧ ltn 0 (Cont.size (Cont.ints IntKind.u8 (List.drop (Int.toNat b_9.i) k))) = true ∧ leb 0 b_9.i = true ∧ ltb b_9.i
(↑(List.length j) : Int) = true ∧ ltn 0 (Cont.size (Cont.ints IntKind.u8 j)) = true ∧ ltn 0 (Cont.size (Cont.ints IntKind.u8 (List.drop (Int.toNat b_9.i) j))) = true ∧ inR IntKind.i64 (b_9.i + 1) =
true ∧ 1 = 1 ∧ Cont.ints IntKind.i64 a = Cont.ints IntKind.i64 a ∧ List.length a = List.length a ∧ Cont.ints IntKind.u8 k = Cont.ints IntKind.u8 k ∧ List.length k = List.length k ∧ 1 = 1 ∧ Cont.ints
IntKind.i64 b = Cont.ints IntKind.i64 b ∧ List.length b = List.length b ∧ Cont.ints IntKind.u8 j = Cont.ints IntKind.u8 j ∧ List.length j = List.length j ∧ 1 = 1 ∧ bI (patE a k f == 0) 2 0 = bI (patE
a k f == 0) 2 0 ∧ bI (patE a k f == 0) 2 0 = bI (patE a k f == 0) 2 0 ∧ Cont.vals (flatC (patL a k f)) = Cont.vals (flatC (patL a k f)) ∧ List.length (patL a k f) = List.length (patL a k f) ∧
List.length (patL a k f) = List.length (patL a k f) ∧ 1 = 1 ∧ Cont.ints IntKind.i64 (bLt (okC a k) (rotL' a 0)) = Cont.ints IntKind.i64 (bLt (okC a k) (rotL' a 0)) ∧ List.length (bLt (okC a k) (rotL'
a 0)) = List.length (bLt (okC a k) (rotL' a 0)) ∧ List.length (bLt (okC a k) (rotL' a 0)) = List.length (bLt (okC a k) (rotL' a 0)) ∧ Cont.ints IntKind.u8 (bLt (okC a k) (rotL' k 0)) = Cont.ints
IntKind.u8 (bLt (okC a k) (rotL' k 0)) ∧ List.length (bLt (okC a k) (rotL' k 0)) = List.length (bLt (okC a k) (rotL' k 0)) ∧ List.length (bLt (okC a k) (rotL' k 0)) = List.length (bLt (okC a k) (rotL'
k 0)) ∧ 1 = 1 ∧ Cont.ints IntKind.i64 (bLt (okC a k) (lsA a k)) = Cont.ints IntKind.i64 (bLt (okC a k) (lsA a k)) ∧ List.length (bLt (okC a k) (lsA a k)) = List.length (bLt (okC a k) (lsA a k)) ∧
List.length (bLt (okC a k) (lsA a k)) = List.length (bLt (okC a k) (lsA a k)) ∧ Cont.ints IntKind.u8 (bLt (okC a k) (lsK a k)) = Cont.ints IntKind.u8 (bLt (okC a k) (lsK a k)) ∧ List.length (bLt (okC
a k) (lsK a k)) = List.length (bLt (okC a k) (lsK a k)) ∧ List.length (bLt (okC a k) (lsK a k)) = List.length (bLt (okC a k) (lsK a k)) ∧ 0 = 0 ∧ 0 = 0 ∧ b_4.v = b_4.v ∧ ltb b_1.i (↑(List.length a) :
Int) = ltb b_1.i (↑(List.length a) : Int) ∧ ltb b_2.i (↑(List.length k) : Int) = ltb b_2.i (↑(List.length k) : Int) ∧ b_5.v = b_5.v ∧ b_6.v = b_6.v ∧ 0 = 0 ∧ patE a k f = patE a k f ∧ 0 = 0 ∧ chk a k
= chk a k ∧ 0 = 0 ∧ chk a k = chk a k ∧ (List.getD (List.drop (Int.toNat b_9.i) k) 0 0 == List.getD (List.drop (Int.toNat b_9.i) j) 0 0) = (List.getD (List.drop (Int.toNat b_9.i) k) 0 0 == List.getD
(List.drop (Int.toNat b_9.i) j) 0 0) ∧ b_9.i + 1 = b_9.i + 1 ∧ (∃ (n : Nat), b_9.i + 1 = (↑n : Int) ∧ n ≤ List.length k ∧ (List.getD (List.drop (Int.toNat b_9.i) k) 0 0 == List.getD (List.drop
(Int.toNat b_9.i) j) 0 0) = (lenE a k b j && eqB a b && decide (List.take n k = List.take n j))) ∧ List.length k - Int.toNat (b_9.i + 1) < List.length k - Int.toNat b_9.i ∧ True) ∧ (b_9.e = false → 1
= 1 ∧ Cont.ints IntKind.i64 a = Cont.ints IntKind.i64 a ∧ List.length a = List.length a ∧ Cont.ints IntKind.u8 k = Cont.ints IntKind.u8 k ∧ List.length k = List.length k ∧ 1 = 1 ∧ Cont.ints
IntKind.i64 b = Cont.ints IntKind.i64 b ∧ List.length b = List.length b ∧ Cont.ints IntKind.u8 j = Cont.ints IntKind.u8 j ∧ List.length j = List.length j ∧ 1 = 1 ∧ bI (patE a k f == 0) 2 0 = bI (patE
a k f == 0) 2 0 ∧ bI (patE a k f == 0) 2 0 = bI (patE a k f == 0) 2 0 ∧ Cont.vals (flatC (patL a k f)) = Cont.vals (flatC (patL a k f)) ∧ List.length (patL a k f) = List.length (patL a k f) ∧
List.length (patL a k f) = List.length (patL a k f) ∧ 1 = 1 ∧ Cont.ints IntKind.i64 (bLt (okC a k) (rotL' a 0)) = Cont.ints IntKind.i64 (bLt (okC a k) (rotL' a 0)) ∧ List.length (bLt (okC a k) (rotL'
a 0)) = List.length (bLt (okC a k) (rotL' a 0)) ∧ List.length (bLt (okC a k) (rotL' a 0)) = List.length (bLt (okC a k) (rotL' a 0)) ∧ Cont.ints IntKind.u8 (bLt (okC a k) (rotL' k 0)) = Cont.ints
IntKind.u8 (bLt (okC a k) (rotL' k 0)) ∧ List.length (bLt (okC a k) (rotL' k 0)) = List.length (bLt (okC a k) (rotL' k 0)) ∧ List.length (bLt (okC a k) (rotL' k 0)) = List.length (bLt (okC a k) (rotL'
k 0)) ∧ 1 = 1 ∧ Cont.ints IntKind.i64 (bLt (okC a k) (lsA a k)) = Cont.ints IntKind.i64 (bLt (okC a k) (lsA a k)) ∧ List.length (bLt (okC a k) (lsA a k)) = List.length (bLt (okC a k) (lsA a k)) ∧
List.length (bLt (okC a k) (lsA a k)) = List.length (bLt (okC a k) (lsA a k)) ∧ Cont.ints IntKind.u8 (bLt (okC a k) (lsK a k)) = Cont.ints IntKind.u8 (bLt (okC a k) (lsK a k)) ∧ List.length (bLt (okC
a k) (lsK a k)) = List.length (bLt (okC a k) (lsK a k)) ∧ List.length (bLt (okC a k) (lsK a k)) = List.length (bLt (okC a k) (lsK a k)) ∧ 0 = 0 ∧ 0 = 0 ∧ b_4.v = b_4.v ∧ ltb b_1.i (↑(List.length a) :
Int) = ltb b_1.i (↑(List.length a) : Int) ∧ ltb b_2.i (↑(List.length k) : Int) = ltb b_2.i (↑(List.length k) : Int) ∧ b_5.v = b_5.v ∧ b_6.v = b_6.v ∧ 0 = 0 ∧ patE a k f = patE a k f ∧ 0 = 0 ∧ chk a k
= chk a k ∧ 0 = 0 ∧ chk a k = chk a k ∧ b_9.e = b_9.e ∧ b_9.e = (eqB a b && eqB k j) ∧ True)) ∧ (ltb b_9.i (↑(List.length k) : Int) = false → 1 = 1 ∧ Cont.ints IntKind.i64 a = Cont.ints IntKind.i64 a
∧ List.length a = List.length a ∧ Cont.ints IntKind.u8 k = Cont.ints IntKind.u8 k ∧ List.length k = List.length k ∧ 1 = 1 ∧ Cont.ints IntKind.i64 b = Cont.ints IntKind.i64 b ∧ List.length b =
List.length b ∧ Cont.ints IntKind.u8 j = Cont.ints IntKind.u8 j ∧ List.length j = List.length j ∧ 1 = 1 ∧ bI (patE a k f == 0) 2 0 = bI (patE a k f == 0) 2 0 ∧ bI (patE a k f == 0) 2 0 = bI (patE a k
f == 0) 2 0 ∧ Cont.vals (flatC (patL a k f)) = Cont.vals (flatC (patL a k f)) ∧ List.length (patL a k f) = List.length (patL a k f) ∧ List.length (patL a k f) = List.length (patL a k f) ∧ 1 = 1 ∧
Cont.ints IntKind.i64 (bLt (okC a k) (rotL' a 0)) = Cont.ints IntKind.i64 (bLt (okC a k) (rotL' a 0)) ∧ List.length (bLt (okC a k) (rotL' a 0)) = List.length (bLt (okC a k) (rotL' a 0)) ∧ List.length
(bLt (okC a k) (rotL' a 0)) = List.length (bLt (okC a k) (rotL' a 0)) ∧ Cont.ints IntKind.u8 (bLt (okC a k) (rotL' k 0)) = Cont.ints IntKind.u8 (bLt (okC a k) (rotL' k 0)) ∧ List.length (bLt (okC a k)
(rotL' k 0)) = List.length (bLt (okC a k) (rotL' k 0)) ∧ List.length (bLt (okC a k) (rotL' k 0)) = List.length (bLt (okC a k) (rotL' k 0)) ∧ 1 = 1 ∧ Cont.ints IntKind.i64 (bLt (okC a k) (lsA a k)) =
Cont.ints IntKind.i64 (bLt (okC a k) (lsA a k)) ∧ List.length (bLt (okC a k) (lsA a k)) = List.length (bLt (okC a k) (lsA a k)) ∧ List.length (bLt (okC a k) (lsA a k)) = List.length (bLt (okC a k)
(lsA a k)) ∧ Cont.ints IntKind.u8 (bLt (okC a k) (lsK a k)) = Cont.ints IntKind.u8 (bLt (okC a k) (lsK a k)) ∧ List.length (bLt (okC a k) (lsK a k)) = List.length (bLt (okC a k) (lsK a k)) ∧
List.length (bLt (okC a k) (lsK a k)) = List.length (bLt (okC a k) (lsK a k)) ∧ 0 = 0 ∧ 0 = 0 ∧ b_4.v = b_4.v ∧ ltb b_1.i (↑(List.length a) : Int) = ltb b_1.i (↑(List.length a) : Int) ∧ ltb b_2.i
(↑(List.length k) : Int) = ltb b_2.i (↑(List.length k) : Int) ∧ b_5.v = b_5.v ∧ b_6.v = b_6.v ∧ 0 = 0 ∧ patE a k f = patE a k f ∧ 0 = 0 ∧ chk a k = chk a k ∧ 0 = 0 ∧ chk a k = chk a k ∧ b_9.e = b_9.e
∧ b_9.e = (eqB a b && eqB k j) ∧ True)) ∧ ∀ (b_9 : VB), b_9.v = (eqB a b && eqB k j) → (List.length a = List.length a ∧ List.length k = List.length k ∧ List.length a < 1000000000000) ∧ (!chk a k !=
b_4.v) = true ∧ (List.length a = List.length a ∧ List.length k = List.length k ∧ List.length a < 1000000000) ∧ (!!flB a k == b_5.v) = true ∧ (!patE a k f != b_6.v) = true ∧ (!chk a k != b_4.v) = true
∧ (!chk a k != b_4.v) = true ∧ (List.length a = List.length a ∧ List.length k = List.length k ∧ List.length b = List.length b ∧ List.length j = List.length j ∧ List.length a < 1000000000000 ∧
List.length k < 1000000000000) ∧ (!!(eqB a b && eqB k j) == b_9.v) = true ∧ (List.length a = List.length a ∧ List.length k = List.length k ∧ List.length a = List.length a ∧ List.length k = List.length
k ∧ List.length a < 1000000000000 ∧ List.length k < 1000000000000) ∧ (!!(eqB a a && eqB k k)) = true ∧ (List.length a = List.length a ∧ List.length k = List.length k ∧ List.length a < 1000000000) ∧
(!(txE a k == []) == (b_4.v != 0)) = false ∧ (List.length a = List.length a ∧ List.length k = List.length k ∧ List.length a < 100000000000 ∧ List.length k < 100000000000) ∧ (List.length (List.reverse
a) = List.length (List.reverse a) ∧ List.length (mirK' k) = List.length (mirK' k) ∧ List.length (List.reverse a) < 100000000000 ∧ List.length (mirK' k) < 100000000000) ∧ (List.length (List.reverse
(List.reverse a)) = List.length (List.reverse (List.reverse a)) ∧ List.length (mirK' (mirK' k)) = List.length (mirK' (mirK' k)) ∧ List.length a = List.length a ∧ List.length k = List.length k ∧
List.length (List.reverse (List.reverse a)) = List.length (List.reverse (List.reverse a)) ∧ List.length (mirK' (mirK' k)) = List.length (mirK' (mirK' k)) ∧ List.length (List.reverse (List.reverse a))
= List.length a ∧ List.length (mirK' (mirK' k)) = List.length k ∧ List.length (List.reverse (List.reverse a)) < 1000000000000 ∧ List.length (mirK' (mirK' k)) < 1000000000000) ∧ (eqB (List.reverse
(List.reverse a)) a && eqB (mirK' (mirK' k)) k) = true ∧ ((b_6.v == 0) = true → ((b_4.v == 0) = true → true = true ∧ True) ∧ ((b_4.v == 0) = false → inR IntKind.i64 ((↑(List.length (bLt (okC a k)
(rotL' a 0))) : Int) + (↑(List.length (bLt (okC a k) (lsA a k))) : Int)) = true ∧ inR IntKind.i64 ((↑(List.length (bLt (okC a k) (rotL' a 0))) : Int) + (↑(List.length (bLt (okC a k) (lsA a k))) : Int)
+ (↑(List.length (bLt (okC a k) (rotL' k 0))) : Int)) = true ∧ inR IntKind.i64 ((↑(List.length (bLt (okC a k) (rotL' a 0))) : Int) + (↑(List.length (bLt (okC a k) (lsA a k))) : Int) + (↑(List.length
(bLt (okC a k) (rotL' k 0))) : Int) + (↑(List.length (bLt (okC a k) (lsK a k))) : Int)) = true ∧ ((↑(List.length (bLt (okC a k) (rotL' a 0))) : Int) + (↑(List.length (bLt (okC a k) (lsA a k))) : Int)
+ (↑(List.length (bLt (okC a k) (rotL' k 0))) : Int) + (↑(List.length (bLt (okC a k) (lsK a k))) : Int) == 0) = true ∧ true = true ∧ True)) ∧ ((b_6.v == 0) = false → (bI (patE a k f == 0) 2 0 == 0) =
true ∧ ((b_4.v == 0) = true → true = true ∧ True) ∧ ((b_4.v == 0) = false → inR IntKind.i64 ((↑(List.length (bLt (okC a k) (rotL' a 0))) : Int) + (↑(List.length (bLt (okC a k) (lsA a k))) : Int)) =
true ∧ inR IntKind.i64 ((↑(List.length (bLt (okC a k) (rotL' a 0))) : Int) + (↑(List.length (bLt (okC a k) (lsA a k))) : Int) + (↑(List.length (bLt (okC a k) (rotL' k 0))) : Int)) = true ∧ inR
IntKind.i64 ((↑(List.length (bLt (okC a k) (rotL' a 0))) : Int) + (↑(List.length (bLt (okC a k) (lsA a k))) : Int) + (↑(List.length (bLt (okC a k) (rotL' k 0))) : Int) + (↑(List.length (bLt (okC a k)
(lsK a k))) : Int)) = true ∧ ((↑(List.length (bLt (okC a k) (rotL' a 0))) : Int) + (↑(List.length (bLt (okC a k) (lsA a k))) : Int) + (↑(List.length (bLt (okC a k) (rotL' k 0))) : Int) +
(↑(List.length (bLt (okC a k) (lsK a k))) : Int) == 0) = true ∧ true = true ∧ True))))))))) := by kernel_rfl

end Go.Proofs.YtfafinkgmhkdmaaDoor.X
