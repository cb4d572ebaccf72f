/-
  What is to be shown of the functions (made by a program).
-/
import Derived.Test.YtidpllnmghgomaaDoorD10Z
import Derived.KernelRfl
set_option maxRecDepth 1000000
set_option linter.unusedVariables false
namespace Go.Proofs.YtidpllnmghgomaaDoor.X
open Go Go.Ab
open List IntKind

theorem ob_o3 (c l : Int) (ks : List Int) : fnP (TE) G 10000 fe3 (.r [] 0 (.r [] 5 (.r [] 113 (.r [] 49 (.r [yL 323] 6 (.ff (.r [] 0 (.r [] 0 (.lp (l3a (ofK c ks)) [] [] (fun b => (.r [] 1 (.cnd (.r [] 1 (.cnd (.r [] 0 (.r [] 0 .nil)) (.r [] 0 .nil))) (.r [] 0 (.r [] 1 (.r [] 0 (.lp (l3b (ofK c ks) (decs (ofK c ks) (length (ofK c ks)))) [] [] (fun b_1 => (.r [] 0 (.cnd (.r [] 0 (.r [] 0 (.lp (l3c (gL (ofK c ks) b_1.i)) [] [] (fun b_2 => (.r [(1285, .auto, Dr.val [AV.imm (Cont.ints u8 (gL (ofK c ks) b_1.i)) (length (ofK c ks)) (capO (length (ofK c ks)))])] 0 (.cnd (.r [(1412, .auto, Dr.val [AV.imm (Cont.ints u8 (gL (ofK c ks) b_1.i)) (length (ofK c ks)) (capO (length (ofK c ks)))])] 0 (.cnd (.r [] 0 (.r [] 0 (.r [] 0 .nil))) (.r [] 0 (.r [] 0 .nil)))) (.r [yL 1668, yL 1673] 230 (.ff (.r [] 0 (.jn (j3 (cntK (ofK c ks) 1) (length (ofK c ks))
  (take (Int.toNat b_1.i + 1) (decs (ofK c ks) (length (ofK c ks))))) [15, 16] [] (.rs 3 [] 0 108 (.r [] 15 (.lit (.r [] 0 .nil))) (.rs 4 [] 3 112 (.r [] 3 (.lit (.r [] 0 .nil))) (.r [] 13 (.cnd (.r [] 0 .nil) .nil)))) (fun b_3 => (.r [] 0 .nil)))))))))))) (.r [] 0 (.lp (l3d (dif (ofK c ks) - cntK (ofK c ks) 3) (cntK (ofK c ks) 3)) [] [] (fun b_2 => (.r [] 0 (.cnd (.r [] 0 (.ff (.r [] 0 .nil))) (.r [] 0 (.r [] 0 (.gho 19 9001 1 (Cont.ints i64 []) (.lp (l3e (cntK (ofK c ks) 1) (length (ofK c ks)) (decs (ofK c ks) (length (ofK c ks)))) [] [] (fun b_3 => (.r [] 0 (.cnd (.r [] 0 (.cnd (.r [] 4 (.r [] 0 .nil)) (.r [] 0 .nil))) (.r [yL 2697] 7208 .nil)))))))))))))))))))))))))))))))) ([fV c l ks]) ([.bool true]) ([]) = ((fun (A K : List Int) =>
 (length ks = length ks ∧ okK ks) ∧ length A = length A ∧ length K = length K ∧ (length A = length A ∧ length K = length K ∧ length A < 1000000000000) ∧ length A = length A ∧ length K = length K ∧
 (length A = length A ∧ length K = length K ∧ length A < 1000000000000) ∧ (!chk A K != 0) = true ∧ (chk A K != 0) = false ∧ 1 = 1 ∧ c = c ∧ l = l ∧ Cont.ints u8 ks = Cont.ints u8 ks ∧ length ks =
 length ks ∧ length A = length A ∧ ofA c l ks = ofA c l ks ∧ length K = length K ∧ ofK c ks = ofK c ks ∧ 1 = 1 ∧ length A = length A ∧ length K = length K ∧ 0 = 0 ∧ bI (isOk A K) (dif K - cntK K 3) 0 =
 bI (isOk A K) (dif K - cntK K 3) 0 ∧ bI (isOk A K) (dif K + cntK K 3) 0 = bI (isOk A K) (dif K + cntK K 3) 0 ∧ Cont.ints i64 (bL (isOk A K) (chs A K)) = Cont.ints i64 (bL (isOk A K) (chs A K)) ∧
 length (bL (isOk A K) (chs A K)) = length (bL (isOk A K) (chs A K)) ∧ length (bL (isOk A K) (chs A K)) = length (bL (isOk A K) (chs A K)) ∧ iI 0 = 0 ∧ iI 0 = 0 ∧ (∃ (n : Nat), 0 = (↑n : Int) ∧ n ≤
 length K ∧ iI 0 ≤ iI 0 ∧ 0 ≤ (↑n : Int) ∧ 0 + cntK (drop n K) 1 = cntK K 1) ∧ ∀ (b : L3a), (∃ (n : Nat), b.i = (↑n : Int) ∧ n ≤ length K ∧ 0 ≤ b.f ∧ b.f ≤ (↑n : Int) ∧ b.f + cntK (drop n K) 1 = cntK K
 1) → length K = length K ∧ (ltb b.i (↑(length K) : Int) = true → leb 0 b.i = true ∧ ltb b.i (↑(length K) : Int) = true ∧ length K = length K ∧ length K = length K ∧ ltn (Int.toNat b.i) (Cont.size
 (Cont.ints u8 K)) = true ∧ ((getD K (Int.toNat b.i) 0 == 1) = true → inR i64 (b.f + 1) = true ∧ inR i64 (b.i + 1) = true ∧ 1 = 1 ∧ c = c ∧ l = l ∧ Cont.ints u8 ks = Cont.ints u8 ks ∧ length ks =
 length ks ∧ length A = length A ∧ ofA c l ks = ofA c l ks ∧ length K = length K ∧ ofK c ks = ofK c ks ∧ 1 = 1 ∧ length A = length A ∧ length K = length K ∧ 0 = 0 ∧ bI (isOk A K) (dif K - cntK K 3) 0 =
 bI (isOk A K) (dif K - cntK K 3) 0 ∧ bI (isOk A K) (dif K + cntK K 3) 0 = bI (isOk A K) (dif K + cntK K 3) 0 ∧ Cont.ints i64 (bL (isOk A K) (chs A K)) = Cont.ints i64 (bL (isOk A K) (chs A K)) ∧
 length (bL (isOk A K) (chs A K)) = length (bL (isOk A K) (chs A K)) ∧ length (bL (isOk A K) (chs A K)) = length (bL (isOk A K) (chs A K)) ∧ b.f + 1 = b.f + 1 ∧ b.i + 1 = b.i + 1 ∧ (∃ (n : Nat), b.i +
 1 = (↑n : Int) ∧ n ≤ length K ∧ 0 ≤ b.f + 1 ∧ b.f + 1 ≤ (↑n : Int) ∧ b.f + 1 + cntK (drop n K) 1 = cntK K 1) ∧ length K - Int.toNat (b.i + 1) < length K - Int.toNat b.i ∧ True) ∧ ((getD K (Int.toNat
 b.i) 0 == 1) = false → inR i64 (b.i + 1) = true ∧ 1 = 1 ∧ c = c ∧ l = l ∧ Cont.ints u8 ks = Cont.ints u8 ks ∧ length ks = length ks ∧ length A = length A ∧ ofA c l ks = ofA c l ks ∧ length K = length
 K ∧ ofK c ks = ofK c ks ∧ 1 = 1 ∧ length A = length A ∧ length K = length K ∧ 0 = 0 ∧ bI (isOk A K) (dif K - cntK K 3) 0 = bI (isOk A K) (dif K - cntK K 3) 0 ∧ bI (isOk A K) (dif K + cntK K 3) 0 = bI
 (isOk A K) (dif K + cntK K 3) 0 ∧ Cont.ints i64 (bL (isOk A K) (chs A K)) = Cont.ints i64 (bL (isOk A K) (chs A K)) ∧ length (bL (isOk A K) (chs A K)) = length (bL (isOk A K) (chs A K)) ∧ length (bL
 (isOk A K) (chs A K)) = length (bL (isOk A K) (chs A K)) ∧ b.f = b.f ∧ b.i + 1 = b.i + 1 ∧ (∃ (n : Nat), b.i + 1 = (↑n : Int) ∧ n ≤ length K ∧ 0 ≤ b.f ∧ b.f ≤ (↑n : Int) ∧ b.f + cntK (drop n K) 1 =
 cntK K 1) ∧ length K - Int.toNat (b.i + 1) < length K - Int.toNat b.i ∧ True)) ∧ (ltb b.i (↑(length K) : Int) = false → length A = length A ∧ length K = length K ∧ (length A = length A ∧ length K =
 length K ∧ length A = length K ∧ length A ≤ 8) ∧ 1 = 1 ∧ c = c ∧ l = l ∧ Cont.ints u8 ks = Cont.ints u8 ks ∧ length ks = length ks ∧ length A = length A ∧ ofA c l ks = ofA c l ks ∧ length K = length K
 ∧ ofK c ks = ofK c ks ∧ 1 = 1 ∧ length A = length A ∧ length K = length K ∧ 17 = 17 ∧ [false, false, false, false, false, false, false, false, false, false, false, false, false, false, false, false,
 false] = [false, false, false, false, false, false, false, false, false, false, false, false, false, false, false, false, false] ∧ 17 = 17 ∧ [false, false, false, false, false, false, false, false,
 false, false, false, false, false, false, false, false, false] = [false, false, false, false, false, false, false, false, false, false, false, false, false, false, false, false, false] ∧ 0 = 0 ∧ bI
 (isOk A K) (dif K - cntK K 3) 0 = bI (isOk A K) (dif K - cntK K 3) 0 ∧ bI (isOk A K) (dif K + cntK K 3) 0 = bI (isOk A K) (dif K + cntK K 3) 0 ∧ Cont.ints i64 (bL (isOk A K) (chs A K)) = Cont.ints i64
 (bL (isOk A K) (chs A K)) ∧ length (bL (isOk A K) (chs A K)) = length (bL (isOk A K) (chs A K)) ∧ length (bL (isOk A K) (chs A K)) = length (bL (isOk A K) (chs A K)) ∧ b.f = b.f ∧ ltb b.i (↑(length K)
 : Int) = ltb b.i (↑(length K) : Int) ∧ 0 = 0 ∧ 0 = 0 ∧ Cont.vals (fansL A (decs K (length K))) = Cont.vals (fansL A (decs K (length K))) ∧ length (decs K (length K)) = length (decs K (length K)) ∧ iI
 0 = 0 ∧ (∃ (n : Nat), 0 = (↑n : Int) ∧ n ≤ length (decs K (length K)) ∧ seenP (take n (decs K (length K))) [false, false, false, false, false, false, false, false, false, false, false, false, false,
 false, false, false, false] ∧ mayP (cntK K 1) (length K) (take n (decs K (length K))) [false, false, false, false, false, false, false, false, false, false, false, false, false, false, false, false,
 false]) ∧ ∀ (b_1 : L3b), (∃ (n : Nat), b_1.i = (↑n : Int) ∧ n ≤ length (decs K (length K)) ∧ seenP (take n (decs K (length K))) b_1.s ∧ mayP (cntK K 1) (length K) (take n (decs K (length K))) b_1.m) →
 (ltb b_1.i (↑(length (decs K (length K))) : Int) = true → 1 = 1 ∧ c = c ∧ l = l ∧ Cont.ints u8 ks = Cont.ints u8 ks ∧ length ks = length ks ∧ length A = length A ∧ ofA c l ks = ofA c l ks ∧ length K =
 length K ∧ ofK c ks = ofK c ks ∧ 1 = 1 ∧ length A = length A ∧ length K = length K ∧ 17 = 17 ∧ b_1.s = b_1.s ∧ 17 = 17 ∧ b_1.m = b_1.m ∧ 0 = 0 ∧ bI (isOk A K) (dif K - cntK K 3) 0 = bI (isOk A K) (dif
 K - cntK K 3) 0 ∧ bI (isOk A K) (dif K + cntK K 3) 0 = bI (isOk A K) (dif K + cntK K 3) 0 ∧ Cont.ints i64 (bL (isOk A K) (chs A K)) = Cont.ints i64 (bL (isOk A K) (chs A K)) ∧ length (bL (isOk A K)
 (chs A K)) = length (bL (isOk A K) (chs A K)) ∧ length (bL (isOk A K) (chs A K)) = length (bL (isOk A K) (chs A K)) ∧ b.f = b.f ∧ ltb b.i (↑(length K) : Int) = ltb b.i (↑(length K) : Int) ∧ 0 = 0 ∧ 0
 = 0 ∧ Cont.vals (fansL A (decs K (length K))) = Cont.vals (fansL A (decs K (length K))) ∧ length (decs K (length K)) = length (decs K (length K)) ∧ b_1.i = b_1.i ∧ iI 0 = 0 ∧ iI 0 = 0 ∧ iI 0 = 0 ∧ (∃
 (r : Nat), 0 = (↑r : Int) ∧ r ≤ length (gL K b_1.i) ∧ iI 0 ≤ iI 0 ∧ 0 ≤ (↑r : Int) ∧ 0 = 0 - (↑r : Int) ∧ 0 + cntK (drop r (gL K b_1.i)) 1 = cntK (gL K b_1.i) 1) ∧ ∀ (b_2 : L3c), (∃ (r : Nat), b_2.j =
 (↑r : Int) ∧ r ≤ length (gL K b_1.i) ∧ 0 ≤ b_2.m ∧ b_2.m ≤ (↑r : Int) ∧ b_2.d = 2 * b_2.m - (↑r : Int) ∧ b_2.m + cntK (drop r (gL K b_1.i)) 1 = cntK (gL K b_1.i) 1) → leb 0 b_1.i = true ∧ ltb b_1.i
 (↑(length (decs K (length K))) : Int) = true ∧ ltn 0 (Cont.size (Cont.vals (fansL A (decs K (length K))))) = true ∧ (drop 1 (drop (Int.toNat b_1.i * 2) (fansL A (decs K (length K)))))[0]? = some
 (AV.imm (Cont.ints u8 (gL K b_1.i)) (length K) (capO (length K))) ∧ (ltb b_2.j (↑(length K) : Int) = true → leb 0 b_1.i = true ∧ ltb b_1.i (↑(length (decs K (length K))) : Int) = true ∧ ltn 0
 (Cont.size (Cont.vals (fansL A (decs K (length K))))) = true ∧ (drop 1 (drop (Int.toNat b_1.i * 2) (fansL A (decs K (length K)))))[0]? = some (AV.imm (Cont.ints u8 (gL K b_1.i)) (length K) (capO
 (length K))) ∧ leb 0 b_2.j = true ∧ ltb b_2.j (↑(length K) : Int) = true ∧ ltn 0 (Cont.size (Cont.ints u8 (gL K b_1.i))) = true ∧ ltn 0 (Cont.size (Cont.ints u8 (drop (Int.toNat b_2.j) (gL K b_1.i))))
 = true ∧ ((getD (drop (Int.toNat b_2.j) (gL K b_1.i)) 0 0 == 1) = true → inR i64 (b_2.d + 1) = true ∧ inR i64 (b_2.m + 1) = true ∧ inR i64 (b_2.j + 1) = true ∧ 1 = 1 ∧ c = c ∧ l = l ∧ Cont.ints u8 ks
 = Cont.ints u8 ks ∧ length ks = length ks ∧ length A = length A ∧ ofA c l ks = ofA c l ks ∧ length K = length K ∧ ofK c ks = ofK c ks ∧ 1 = 1 ∧ length A = length A ∧ length K = length K ∧ 17 = 17 ∧
 b_1.s = b_1.s ∧ 17 = 17 ∧ b_1.m = b_1.m ∧ 0 = 0 ∧ bI (isOk A K) (dif K - cntK K 3) 0 = bI (isOk A K) (dif K - cntK K 3) 0 ∧ bI (isOk A K) (dif K + cntK K 3) 0 = bI (isOk A K) (dif K + cntK K 3) 0 ∧
 Cont.ints i64 (bL (isOk A K) (chs A K)) = Cont.ints i64 (bL (isOk A K) (chs A K)) ∧ length (bL (isOk A K) (chs A K)) = length (bL (isOk A K) (chs A K)) ∧ length (bL (isOk A K) (chs A K)) = length (bL
 (isOk A K) (chs A K)) ∧ b.f = b.f ∧ ltb b.i (↑(length K) : Int) = ltb b.i (↑(length K) : Int) ∧ 0 = 0 ∧ 0 = 0 ∧ Cont.vals (fansL A (decs K (length K))) = Cont.vals (fansL A (decs K (length K))) ∧
 length (decs K (length K)) = length (decs K (length K)) ∧ b_1.i = b_1.i ∧ b_2.d + 1 = b_2.d + 1 ∧ b_2.m + 1 = b_2.m + 1 ∧ b_2.j + 1 = b_2.j + 1 ∧ (∃ (r : Nat), b_2.j + 1 = (↑r : Int) ∧ r ≤ length (gL
 K b_1.i) ∧ 0 ≤ b_2.m + 1 ∧ b_2.m + 1 ≤ (↑r : Int) ∧ b_2.d + 1 = 2 * (b_2.m + 1) - (↑r : Int) ∧ b_2.m + 1 + cntK (drop r (gL K b_1.i)) 1 = cntK (gL K b_1.i) 1) ∧ length (gL K b_1.i) - Int.toNat (b_2.j
 + 1) < length (gL K b_1.i) - Int.toNat b_2.j ∧ True) ∧ ((getD (drop (Int.toNat b_2.j) (gL K b_1.i)) 0 0 == 1) = false → inR i64 (b_2.d - 1) = true ∧ inR i64 (b_2.j + 1) = true ∧ 1 = 1 ∧ c = c ∧ l = l
 ∧ Cont.ints u8 ks = Cont.ints u8 ks ∧ length ks = length ks ∧ length A = length A ∧ ofA c l ks = ofA c l ks ∧ length K = length K ∧ ofK c ks = ofK c ks ∧ 1 = 1 ∧ length A = length A ∧ length K =
 length K ∧ 17 = 17 ∧ b_1.s = b_1.s ∧ 17 = 17 ∧ b_1.m = b_1.m ∧ 0 = 0 ∧ bI (isOk A K) (dif K - cntK K 3) 0 = bI (isOk A K) (dif K - cntK K 3) 0 ∧ bI (isOk A K) (dif K + cntK K 3) 0 = bI (isOk A K) (dif
 K + cntK K 3) 0 ∧ Cont.ints i64 (bL (isOk A K) (chs A K)) = Cont.ints i64 (bL (isOk A K) (chs A K)) ∧ length (bL (isOk A K) (chs A K)) = length (bL (isOk A K) (chs A K)) ∧ length (bL (isOk A K) (chs A
 K)) = length (bL (isOk A K) (chs A K)) ∧ b.f = b.f ∧ ltb b.i (↑(length K) : Int) = ltb b.i (↑(length K) : Int) ∧ 0 = 0 ∧ 0 = 0 ∧ Cont.vals (fansL A (decs K (length K))) = Cont.vals (fansL A (decs K
 (length K))) ∧ length (decs K (length K)) = length (decs K (length K)) ∧ b_1.i = b_1.i ∧ b_2.d - 1 = b_2.d - 1 ∧ b_2.m = b_2.m ∧ b_2.j + 1 = b_2.j + 1 ∧ (∃ (r : Nat), b_2.j + 1 = (↑r : Int) ∧ r ≤
 length (gL K b_1.i) ∧ 0 ≤ b_2.m ∧ b_2.m ≤ (↑r : Int) ∧ b_2.d - 1 = 2 * b_2.m - (↑r : Int) ∧ b_2.m + cntK (drop r (gL K b_1.i)) 1 = cntK (gL K b_1.i) 1) ∧ length (gL K b_1.i) - Int.toNat (b_2.j + 1) <
 length (gL K b_1.i) - Int.toNat b_2.j ∧ True)) ∧ (ltb b_2.j (↑(length K) : Int) = false → (!ltb b_2.d (bI (isOk A K) (dif K - cntK K 3) 0)) = true ∧ (!ltb (bI (isOk A K) (dif K + cntK K 3) 0) b_2.d) =
 true ∧ inR i64 (b_2.d - bI (isOk A K) (dif K - cntK K 3) 0) = true ∧ (Int.tmod (b_2.d - bI (isOk A K) (dif K - cntK K 3) 0) 2 != 0) = false ∧ inR i64 (b_2.d + 8) = true ∧ leb 0 (b_2.d + 8) = true ∧
 ltb (b_2.d + 8) 17 = true ∧ len' (Int.toNat (b_2.d + 8) + 1) (Cont.size (Cont.bools b_1.s)) = true ∧ (((b_2.d == 2) = true → inR i64 (b_2.m - b.f) = true ∧ leb 0 (b_2.m - b.f) = true ∧ ltb (b_2.m -
 b.f) 17 = true ∧ len' (Int.toNat (b_2.m - b.f) + 1) (Cont.size (Cont.bools b_1.m)) = true ∧ 1 = 1 ∧ c = c ∧ l = l ∧ Cont.ints u8 ks = Cont.ints u8 ks ∧ length ks = length ks ∧ length A = length A ∧
 ofA c l ks = ofA c l ks ∧ length K = length K ∧ ofK c ks = ofK c ks ∧ 1 = 1 ∧ length A = length A ∧ length K = length K ∧ 17 = 17 ∧ set b_1.s (Int.toNat (b_2.d + 8)) true = set b_1.s (Int.toNat (b_2.d
 + 8)) true ∧ 17 = 17 ∧ set b_1.m (Int.toNat (b_2.m - b.f)) true = set b_1.m (Int.toNat (b_2.m - b.f)) true ∧ 0 = 0 ∧ bI (isOk A K) (dif K - cntK K 3) 0 = bI (isOk A K) (dif K - cntK K 3) 0 ∧ bI (isOk
 A K) (dif K + cntK K 3) 0 = bI (isOk A K) (dif K + cntK K 3) 0 ∧ Cont.ints i64 (bL (isOk A K) (chs A K)) = Cont.ints i64 (bL (isOk A K) (chs A K)) ∧ length (bL (isOk A K) (chs A K)) = length (bL (isOk
 A K) (chs A K)) ∧ length (bL (isOk A K) (chs A K)) = length (bL (isOk A K) (chs A K)) ∧ b.f = b.f ∧ ltb b.i (↑(length K) : Int) = ltb b.i (↑(length K) : Int) ∧ 0 = 0 ∧ 0 = 0 ∧ Cont.vals (fansL A (decs
 K (length K))) = Cont.vals (fansL A (decs K (length K))) ∧ length (decs K (length K)) = length (decs K (length K)) ∧ b_1.i = b_1.i ∧ ltb b_2.j (↑(length K) : Int) = ltb b_2.j (↑(length K) : Int) ∧
 b_2.d = b_2.d ∧ bI (isOk A K) (dif K + cntK K 3) 0 = bI (isOk A K) (dif K + cntK K 3) 0 ∧ ltb (bI (isOk A K) (dif K + cntK K 3) 0) b_2.d = ltb (bI (isOk A K) (dif K + cntK K 3) 0) b_2.d ∧ b_2.d =
 b_2.d ∧ bI (isOk A K) (dif K - cntK K 3) 0 = bI (isOk A K) (dif K - cntK K 3) 0 ∧ b_2.d - bI (isOk A K) (dif K - cntK K 3) 0 = b_2.d - bI (isOk A K) (dif K - cntK K 3) 0 ∧ Int.tmod (b_2.d - bI (isOk A
 K) (dif K - cntK K 3) 0) 2 = Int.tmod (b_2.d - bI (isOk A K) (dif K - cntK K 3) 0) 2 ∧ (Int.tmod (b_2.d - bI (isOk A K) (dif K - cntK K 3) 0) 2 != 0) = (Int.tmod (b_2.d - bI (isOk A K) (dif K - cntK K
 3) 0) 2 != 0) ∧ mayP (cntK K 1) (length K) (take (Int.toNat b_1.i + 1) (decs K (length K))) (set b_1.m (Int.toNat (b_2.m - b.f)) true) ∧ True) ∧ ((b_2.d == 2) = false → ((b_2.d == -2) = true → inR i64
 (b_2.m - b.f) = true ∧ leb 0 (b_2.m - b.f) = true ∧ ltb (b_2.m - b.f) 17 = true ∧ len' (Int.toNat (b_2.m - b.f) + 1) (Cont.size (Cont.bools b_1.m)) = true ∧ 1 = 1 ∧ c = c ∧ l = l ∧ Cont.ints u8 ks =
 Cont.ints u8 ks ∧ length ks = length ks ∧ length A = length A ∧ ofA c l ks = ofA c l ks ∧ length K = length K ∧ ofK c ks = ofK c ks ∧ 1 = 1 ∧ length A = length A ∧ length K = length K ∧ 17 = 17 ∧ set
 b_1.s (Int.toNat (b_2.d + 8)) true = set b_1.s (Int.toNat (b_2.d + 8)) true ∧ 17 = 17 ∧ set b_1.m (Int.toNat (b_2.m - b.f)) true = set b_1.m (Int.toNat (b_2.m - b.f)) true ∧ 0 = 0 ∧ bI (isOk A K) (dif
 K - cntK K 3) 0 = bI (isOk A K) (dif K - cntK K 3) 0 ∧ bI (isOk A K) (dif K + cntK K 3) 0 = bI (isOk A K) (dif K + cntK K 3) 0 ∧ Cont.ints i64 (bL (isOk A K) (chs A K)) = Cont.ints i64 (bL (isOk A K)
 (chs A K)) ∧ length (bL (isOk A K) (chs A K)) = length (bL (isOk A K) (chs A K)) ∧ length (bL (isOk A K) (chs A K)) = length (bL (isOk A K) (chs A K)) ∧ b.f = b.f ∧ ltb b.i (↑(length K) : Int) = ltb
 b.i (↑(length K) : Int) ∧ 0 = 0 ∧ 0 = 0 ∧ Cont.vals (fansL A (decs K (length K))) = Cont.vals (fansL A (decs K (length K))) ∧ length (decs K (length K)) = length (decs K (length K)) ∧ b_1.i = b_1.i ∧
 ltb b_2.j (↑(length K) : Int) = ltb b_2.j (↑(length K) : Int) ∧ b_2.d = b_2.d ∧ bI (isOk A K) (dif K + cntK K 3) 0 = bI (isOk A K) (dif K + cntK K 3) 0 ∧ ltb (bI (isOk A K) (dif K + cntK K 3) 0) b_2.d
 = ltb (bI (isOk A K) (dif K + cntK K 3) 0) b_2.d ∧ b_2.d = b_2.d ∧ bI (isOk A K) (dif K - cntK K 3) 0 = bI (isOk A K) (dif K - cntK K 3) 0 ∧ b_2.d - bI (isOk A K) (dif K - cntK K 3) 0 = b_2.d - bI
 (isOk A K) (dif K - cntK K 3) 0 ∧ Int.tmod (b_2.d - bI (isOk A K) (dif K - cntK K 3) 0) 2 = Int.tmod (b_2.d - bI (isOk A K) (dif K - cntK K 3) 0) 2 ∧ (Int.tmod (b_2.d - bI (isOk A K) (dif K - cntK K
 3) 0) 2 != 0) = (Int.tmod (b_2.d - bI (isOk A K) (dif K - cntK K 3) 0) 2 != 0) ∧ mayP (cntK K 1) (length K) (take (Int.toNat b_1.i + 1) (decs K (length K))) (set b_1.m (Int.toNat (b_2.m - b.f)) true)
 ∧ True) ∧ ((b_2.d == -2) = false → length K = length K ∧ (((↑(length K) : Int) == 0) = true → inR i64 (b_2.m - b.f) = true ∧ leb 0 (b_2.m - b.f) = true ∧ ltb (b_2.m - b.f) 17 = true ∧ len' (Int.toNat
 (b_2.m - b.f) + 1) (Cont.size (Cont.bools b_1.m)) = true ∧ 1 = 1 ∧ c = c ∧ l = l ∧ Cont.ints u8 ks = Cont.ints u8 ks ∧ length ks = length ks ∧ length A = length A ∧ ofA c l ks = ofA c l ks ∧ length K
 = length K ∧ ofK c ks = ofK c ks ∧ 1 = 1 ∧ length A = length A ∧ length K = length K ∧ 17 = 17 ∧ set b_1.s (Int.toNat (b_2.d + 8)) true = set b_1.s (Int.toNat (b_2.d + 8)) true ∧ 17 = 17 ∧ set b_1.m
 (Int.toNat (b_2.m - b.f)) true = set b_1.m (Int.toNat (b_2.m - b.f)) true ∧ 0 = 0 ∧ bI (isOk A K) (dif K - cntK K 3) 0 = bI (isOk A K) (dif K - cntK K 3) 0 ∧ bI (isOk A K) (dif K + cntK K 3) 0 = bI
 (isOk A K) (dif K + cntK K 3) 0 ∧ Cont.ints i64 (bL (isOk A K) (chs A K)) = Cont.ints i64 (bL (isOk A K) (chs A K)) ∧ length (bL (isOk A K) (chs A K)) = length (bL (isOk A K) (chs A K)) ∧ length (bL
 (isOk A K) (chs A K)) = length (bL (isOk A K) (chs A K)) ∧ b.f = b.f ∧ ltb b.i (↑(length K) : Int) = ltb b.i (↑(length K) : Int) ∧ 0 = 0 ∧ 0 = 0 ∧ Cont.vals (fansL A (decs K (length K))) = Cont.vals
 (fansL A (decs K (length K))) ∧ length (decs K (length K)) = length (decs K (length K)) ∧ b_1.i = b_1.i ∧ ltb b_2.j (↑(length K) : Int) = ltb b_2.j (↑(length K) : Int) ∧ b_2.d = b_2.d ∧ bI (isOk A K)
 (dif K + cntK K 3) 0 = bI (isOk A K) (dif K + cntK K 3) 0 ∧ ltb (bI (isOk A K) (dif K + cntK K 3) 0) b_2.d = ltb (bI (isOk A K) (dif K + cntK K 3) 0) b_2.d ∧ b_2.d = b_2.d ∧ bI (isOk A K) (dif K -
 cntK K 3) 0 = bI (isOk A K) (dif K - cntK K 3) 0 ∧ b_2.d - bI (isOk A K) (dif K - cntK K 3) 0 = b_2.d - bI (isOk A K) (dif K - cntK K 3) 0 ∧ Int.tmod (b_2.d - bI (isOk A K) (dif K - cntK K 3) 0) 2 =
 Int.tmod (b_2.d - bI (isOk A K) (dif K - cntK K 3) 0) 2 ∧ (Int.tmod (b_2.d - bI (isOk A K) (dif K - cntK K 3) 0) 2 != 0) = (Int.tmod (b_2.d - bI (isOk A K) (dif K - cntK K 3) 0) 2 != 0) ∧ mayP (cntK K
 1) (length K) (take (Int.toNat b_1.i + 1) (decs K (length K))) (set b_1.m (Int.toNat (b_2.m - b.f)) true) ∧ True) ∧ (((↑(length K) : Int) == 0) = false → 1 = 1 ∧ c = c ∧ l = l ∧ Cont.ints u8 ks =
 Cont.ints u8 ks ∧ length ks = length ks ∧ length A = length A ∧ ofA c l ks = ofA c l ks ∧ length K = length K ∧ ofK c ks = ofK c ks ∧ 1 = 1 ∧ length A = length A ∧ length K = length K ∧ 17 = 17 ∧ set
 b_1.s (Int.toNat (b_2.d + 8)) true = set b_1.s (Int.toNat (b_2.d + 8)) true ∧ 17 = 17 ∧ b_1.m = b_1.m ∧ 0 = 0 ∧ bI (isOk A K) (dif K - cntK K 3) 0 = bI (isOk A K) (dif K - cntK K 3) 0 ∧ bI (isOk A K)
 (dif K + cntK K 3) 0 = bI (isOk A K) (dif K + cntK K 3) 0 ∧ Cont.ints i64 (bL (isOk A K) (chs A K)) = Cont.ints i64 (bL (isOk A K) (chs A K)) ∧ length (bL (isOk A K) (chs A K)) = length (bL (isOk A K)
 (chs A K)) ∧ length (bL (isOk A K) (chs A K)) = length (bL (isOk A K) (chs A K)) ∧ b.f = b.f ∧ ltb b.i (↑(length K) : Int) = ltb b.i (↑(length K) : Int) ∧ 0 = 0 ∧ 0 = 0 ∧ Cont.vals (fansL A (decs K
 (length K))) = Cont.vals (fansL A (decs K (length K))) ∧ length (decs K (length K)) = length (decs K (length K)) ∧ b_1.i = b_1.i ∧ ltb b_2.j (↑(length K) : Int) = ltb b_2.j (↑(length K) : Int) ∧ b_2.d
 = b_2.d ∧ bI (isOk A K) (dif K + cntK K 3) 0 = bI (isOk A K) (dif K + cntK K 3) 0 ∧ ltb (bI (isOk A K) (dif K + cntK K 3) 0) b_2.d = ltb (bI (isOk A K) (dif K + cntK K 3) 0) b_2.d ∧ b_2.d = b_2.d ∧ bI
 (isOk A K) (dif K - cntK K 3) 0 = bI (isOk A K) (dif K - cntK K 3) 0 ∧ b_2.d - bI (isOk A K) (dif K - cntK K 3) 0 = b_2.d - bI (isOk A K) (dif K - cntK K 3) 0 ∧ Int.tmod (b_2.d - bI (isOk A K) (dif K
 - cntK K 3) 0) 2 = Int.tmod (b_2.d - bI (isOk A K) (dif K - cntK K 3) 0) 2 ∧ (Int.tmod (b_2.d - bI (isOk A K) (dif K - cntK K 3) 0) 2 != 0) = (Int.tmod (b_2.d - bI (isOk A K) (dif K - cntK K 3) 0) 2
 != 0) ∧ mayP (cntK K 1) (length K) (take (Int.toNat b_1.i + 1) (decs K (length K))) b_1.m ∧ True)))) ∧ ∀ (b_3 : VBs), mayP (cntK K 1) (length K) (take (Int.toNat b_1.i + 1) (decs K (length K))) b_3.v
 → inR i64 (b_1.i + 1) = true ∧ 1 = 1 ∧ c = c ∧ l = l ∧ Cont.ints u8 ks = Cont.ints u8 ks ∧ length ks = length ks ∧ length A = length A ∧ ofA c l ks = ofA c l ks ∧ length K = length K ∧ ofK c ks = ofK
 c ks ∧ 1 = 1 ∧ length A = length A ∧ length K = length K ∧ 17 = 17 ∧ set b_1.s (Int.toNat (b_2.d + 8)) true = set b_1.s (Int.toNat (b_2.d + 8)) true ∧ 17 = 17 ∧ b_3.v = b_3.v ∧ 0 = 0 ∧ bI (isOk A K)
 (dif K - cntK K 3) 0 = bI (isOk A K) (dif K - cntK K 3) 0 ∧ bI (isOk A K) (dif K + cntK K 3) 0 = bI (isOk A K) (dif K + cntK K 3) 0 ∧ Cont.ints i64 (bL (isOk A K) (chs A K)) = Cont.ints i64 (bL (isOk
 A K) (chs A K)) ∧ length (bL (isOk A K) (chs A K)) = length (bL (isOk A K) (chs A K)) ∧ length (bL (isOk A K) (chs A K)) = length (bL (isOk A K) (chs A K)) ∧ b.f = b.f ∧ ltb b.i (↑(length K) : Int) =
 ltb b.i (↑(length K) : Int) ∧ 0 = 0 ∧ 0 = 0 ∧ Cont.vals (fansL A (decs K (length K))) = Cont.vals (fansL A (decs K (length K))) ∧ length (decs K (length K)) = length (decs K (length K)) ∧ b_1.i + 1 =
 b_1.i + 1 ∧ (∃ (n : Nat), b_1.i + 1 = (↑n : Int) ∧ n ≤ length (decs K (length K)) ∧ seenP (take n (decs K (length K))) (set b_1.s (Int.toNat (b_2.d + 8)) true) ∧ mayP (cntK K 1) (length K) (take n
 (decs K (length K))) b_3.v) ∧ length (decs K (length K)) - Int.toNat (b_1.i + 1) < length (decs K (length K)) - Int.toNat b_1.i ∧ True)) ∧ (ltb b_1.i (↑(length (decs K (length K))) : Int) = false → 1
 = 1 ∧ c = c ∧ l = l ∧ Cont.ints u8 ks = Cont.ints u8 ks ∧ length ks = length ks ∧ length A = length A ∧ ofA c l ks = ofA c l ks ∧ length K = length K ∧ ofK c ks = ofK c ks ∧ 1 = 1 ∧ length A = length
 A ∧ length K = length K ∧ 17 = 17 ∧ b_1.s = b_1.s ∧ 17 = 17 ∧ b_1.m = b_1.m ∧ bI (isOk A K) (dif K + cntK K 3) 0 = bI (isOk A K) (dif K + cntK K 3) 0 ∧ Cont.ints i64 (bL (isOk A K) (chs A K)) =
 Cont.ints i64 (bL (isOk A K) (chs A K)) ∧ length (bL (isOk A K) (chs A K)) = length (bL (isOk A K) (chs A K)) ∧ length (bL (isOk A K) (chs A K)) = length (bL (isOk A K) (chs A K)) ∧ ltb b.i (↑(length
 K) : Int) = ltb b.i (↑(length K) : Int) ∧ 0 = 0 ∧ 0 = 0 ∧ ltb b_1.i (↑(length (decs K (length K))) : Int) = ltb b_1.i (↑(length (decs K (length K))) : Int) ∧ bI (isOk A K) (dif K - cntK K 3) 0 = bI
 (isOk A K) (dif K - cntK K 3) 0 ∧ (∃ (j : Nat), bI (isOk A K) (dif K - cntK K 3) 0 = dif K - cntK K 3 + 2 * (↑j : Int) ∧ (↑j : Int) ≤ cntK K 3 + 1) ∧ ∀ (b_2 : L3d), (∃ (j : Nat), b_2.d = dif K - cntK
 K 3 + 2 * (↑j : Int) ∧ (↑j : Int) ≤ cntK K 3 + 1) → (leb b_2.d (bI (isOk A K) (dif K + cntK K 3) 0) = true → inR i64 (b_2.d + 8) = true ∧ leb 0 (b_2.d + 8) = true ∧ ltb (b_2.d + 8) 17 = true ∧ ltn
 (Int.toNat (b_2.d + 8)) (Cont.size (Cont.bools b_1.s)) = true ∧ (!getD b_1.s (Int.toNat (b_2.d + 8)) false) = false ∧ inR i64 (b_2.d + 2) = true ∧ 1 = 1 ∧ c = c ∧ l = l ∧ Cont.ints u8 ks = Cont.ints
 u8 ks ∧ length ks = length ks ∧ length A = length A ∧ ofA c l ks = ofA c l ks ∧ length K = length K ∧ ofK c ks = ofK c ks ∧ 1 = 1 ∧ length A = length A ∧ length K = length K ∧ 17 = 17 ∧ b_1.s = b_1.s
 ∧ 17 = 17 ∧ b_1.m = b_1.m ∧ bI (isOk A K) (dif K + cntK K 3) 0 = bI (isOk A K) (dif K + cntK K 3) 0 ∧ Cont.ints i64 (bL (isOk A K) (chs A K)) = Cont.ints i64 (bL (isOk A K) (chs A K)) ∧ length (bL
 (isOk A K) (chs A K)) = length (bL (isOk A K) (chs A K)) ∧ length (bL (isOk A K) (chs A K)) = length (bL (isOk A K) (chs A K)) ∧ ltb b.i (↑(length K) : Int) = ltb b.i (↑(length K) : Int) ∧ 0 = 0 ∧ 0 =
 0 ∧ ltb b_1.i (↑(length (decs K (length K))) : Int) = ltb b_1.i (↑(length (decs K (length K))) : Int) ∧ b_2.d + 2 = b_2.d + 2 ∧ (∃ (j : Nat), b_2.d + 2 = dif K - cntK K 3 + 2 * (↑j : Int) ∧ (↑j : Int)
 ≤ cntK K 3 + 1) ∧ Int.toNat (cntK K 3 + 1 - (b_2.d + 2 - (dif K - cntK K 3)) / 2) < Int.toNat (cntK K 3 + 1 - (b_2.d - (dif K - cntK K 3)) / 2) ∧ True) ∧ (leb b_2.d (bI (isOk A K) (dif K + cntK K 3)
 0) = false → 1 = 1 ∧ c = c ∧ l = l ∧ Cont.ints u8 ks = Cont.ints u8 ks ∧ length ks = length ks ∧ length A = length A ∧ ofA c l ks = ofA c l ks ∧ length K = length K ∧ ofK c ks = ofK c ks ∧ 1 = 1 ∧
 length A = length A ∧ length K = length K ∧ 17 = 17 ∧ b_1.s = b_1.s ∧ 17 = 17 ∧ b_1.m = b_1.m ∧ 0 = 0 ∧ iL [] = [] ∧ Cont.ints i64 (bL (isOk A K) (chs A K)) = Cont.ints i64 (bL (isOk A K) (chs A K)) ∧
 length (bL (isOk A K) (chs A K)) = length (bL (isOk A K) (chs A K)) ∧ length (bL (isOk A K) (chs A K)) = length (bL (isOk A K) (chs A K)) ∧ ltb b.i (↑(length K) : Int) = ltb b.i (↑(length K) : Int) ∧
 0 = 0 ∧ ltb b_1.i (↑(length (decs K (length K))) : Int) = ltb b_1.i (↑(length (decs K (length K))) : Int) ∧ leb b_2.d (bI (isOk A K) (dif K + cntK K 3) 0) = leb b_2.d (bI (isOk A K) (dif K + cntK K 3)
 0) ∧ 0 = 0 ∧ iI 0 = 0 ∧ (∃ (n : Nat), 0 = (↑n : Int) ∧ n ≤ 17 ∧ 0 ≤ n ∧ [] = wantF (cntK K 1) (length K) (decs K (length K)) n) ∧ ∀ (b_3 : L3e), (∃ (n : Nat), b_3.i = (↑n : Int) ∧ n ≤ 17 ∧ length
 b_3.l ≤ n ∧ b_3.l = wantF (cntK K 1) (length K) (decs K (length K)) n) → (ltb b_3.i 17 = true → leb 0 b_3.i = true ∧ ltb b_3.i 17 = true ∧ ltn (Int.toNat b_3.i) (Cont.size (Cont.bools b_1.m)) = true ∧
 (getD b_1.m (Int.toNat b_3.i) false = true → length b_3.l = length b_3.l ∧ len' ((length b_3.l + 1) * 8) 140737488355328 = true ∧ inR i64 (b_3.i + 1) = true ∧ 1 = 1 ∧ c = c ∧ l = l ∧ Cont.ints u8 ks =
 Cont.ints u8 ks ∧ length ks = length ks ∧ length A = length A ∧ ofA c l ks = ofA c l ks ∧ length K = length K ∧ ofK c ks = ofK c ks ∧ 1 = 1 ∧ length A = length A ∧ length K = length K ∧ 17 = 17 ∧
 b_1.s = b_1.s ∧ 17 = 17 ∧ b_1.m = b_1.m ∧ length b_3.l + 1 = length (b_3.l ++ [b_3.i]) ∧ b_3.l ++ [b_3.i] = b_3.l ++ [b_3.i] ∧ Cont.ints i64 (bL (isOk A K) (chs A K)) = Cont.ints i64 (bL (isOk A K)
 (chs A K)) ∧ length (bL (isOk A K) (chs A K)) = length (bL (isOk A K) (chs A K)) ∧ length (bL (isOk A K) (chs A K)) = length (bL (isOk A K) (chs A K)) ∧ ltb b.i (↑(length K) : Int) = ltb b.i (↑(length
 K) : Int) ∧ 0 = 0 ∧ ltb b_1.i (↑(length (decs K (length K))) : Int) = ltb b_1.i (↑(length (decs K (length K))) : Int) ∧ leb b_2.d (bI (isOk A K) (dif K + cntK K 3) 0) = leb b_2.d (bI (isOk A K) (dif K
 + cntK K 3) 0) ∧ length b_3.l + 1 = length (b_3.l ++ [b_3.i]) ∧ b_3.i + 1 = b_3.i + 1 ∧ (∃ (n : Nat), b_3.i + 1 = (↑n : Int) ∧ n ≤ 17 ∧ length (b_3.l ++ [b_3.i]) ≤ n ∧ b_3.l ++ [b_3.i] = wantF (cntK K
 1) (length K) (decs K (length K)) n) ∧ 17 - Int.toNat (b_3.i + 1) < 17 - Int.toNat b_3.i ∧ True) ∧ (getD b_1.m (Int.toNat b_3.i) false = false → inR i64 (b_3.i + 1) = true ∧ 1 = 1 ∧ c = c ∧ l = l ∧
 Cont.ints u8 ks = Cont.ints u8 ks ∧ length ks = length ks ∧ length A = length A ∧ ofA c l ks = ofA c l ks ∧ length K = length K ∧ ofK c ks = ofK c ks ∧ 1 = 1 ∧ length A = length A ∧ length K = length
 K ∧ 17 = 17 ∧ b_1.s = b_1.s ∧ 17 = 17 ∧ b_1.m = b_1.m ∧ length b_3.l = length b_3.l ∧ b_3.l = b_3.l ∧ Cont.ints i64 (bL (isOk A K) (chs A K)) = Cont.ints i64 (bL (isOk A K) (chs A K)) ∧ length (bL
 (isOk A K) (chs A K)) = length (bL (isOk A K) (chs A K)) ∧ length (bL (isOk A K) (chs A K)) = length (bL (isOk A K) (chs A K)) ∧ ltb b.i (↑(length K) : Int) = ltb b.i (↑(length K) : Int) ∧ 0 = 0 ∧ ltb
 b_1.i (↑(length (decs K (length K))) : Int) = ltb b_1.i (↑(length (decs K (length K))) : Int) ∧ leb b_2.d (bI (isOk A K) (dif K + cntK K 3) 0) = leb b_2.d (bI (isOk A K) (dif K + cntK K 3) 0) ∧ length
 b_3.l = length b_3.l ∧ b_3.i + 1 = b_3.i + 1 ∧ (∃ (n : Nat), b_3.i + 1 = (↑n : Int) ∧ n ≤ 17 ∧ length b_3.l ≤ n ∧ b_3.l = wantF (cntK K 1) (length K) (decs K (length K)) n) ∧ 17 - Int.toNat (b_3.i +
 1) < 17 - Int.toNat b_3.i ∧ True)) ∧ (ltb b_3.i 17 = false → length b_3.l = length b_3.l ∧ length b_3.l = length b_3.l ∧ length b_3.l = length b_3.l ∧ Int.toNat (↑(length b_3.l) : Int) = length b_3.l
 ∧ Int.toNat (↑(length b_3.l) : Int) = length b_3.l ∧ Cont.size (Cont.ints i64 b_3.l) = length b_3.l ∧ (length (bL (isOk A K) (chs A K)) = length (bL (isOk A K) (chs A K)) ∧ length (bL (isOk A K) (chs
 A K)) = length (bL (isOk A K) (chs A K)) ∧ length b_3.l = length b_3.l ∧ length (bL (isOk A K) (chs A K)) < 1000000000000) ∧ eqL (bL (isOk A K) (chs A K)) b_3.l = true ∧ true = true ∧ True))))) (ofA c l ks) (ofK c ks)) := by kernel_rfl

end Go.Proofs.YtidpllnmghgomaaDoor.X
