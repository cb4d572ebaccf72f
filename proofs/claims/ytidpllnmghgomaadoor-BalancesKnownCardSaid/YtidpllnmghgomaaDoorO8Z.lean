/-
  What is to be shown of the functions (made by a program).
-/
import Derived.Test.YtidpllnmghgomaaDoorD8Z
import Derived.KernelRfl
set_option maxRecDepth 1000000
set_option linter.unusedVariables false
namespace Go.Proofs.YtidpllnmghgomaaDoor.X
open Go Go.Ab
open List IntKind

theorem ob_o34p (a : List Int) : fnP (TP34) G 10000 fe34 (.r [] 0 (.r [(130, .auto, Dr.heap)] 0 (.r [(193, .auto, Dr.heap)] 0 (.r [] 0 (.frz 2 0 .nil))))) ([.imm (.ints .i64 a) a.length none]) ([.imm (.ints .i64 a.reverse) a.length none]) ([]) = (
 (length a = length a ∧ 0 < length a ∧ length a < 100000000000) ∧ ([(8256, HO.blk (Blk.mk (Cont.ints i64 a) 1 (length a) none (some false) true false))] = [(8256, HO.blk (Blk.mk (Cont.ints i64 a) 1
 (length a) none (some false) true false))] ∧ length a = length a) ∧ ([(8256, HO.blk (Blk.mk (Cont.ints i64 a) 1 (length a) none (some false) true false))] = [(8256, HO.blk (Blk.mk (Cont.ints i64 a) 1
 (length a) none (some false) true false))] ∧ length a = length a ∧ length a < 1000000000000) ∧ length (reverse a) = length a ∧ Cont.ints i64 (reverse a) = Cont.ints i64 (reverse a) ∧ length a = length
 a ∧ True) := by kernel_rfl

theorem ob_o35p (a : List Int) : fnP (TP35) G 10000 fe35 (.r [] 0 (.r [(130, .auto, Dr.heap)] 0 (.r [(193, .auto, Dr.heap)] 0 (.r [] 0 (.frz 2 0 .nil))))) ([.imm (.ints .u8 a) a.length none]) ([.imm (.ints .u8 a.reverse) a.length none]) ([]) = (
 (length a = length a ∧ 0 < length a ∧ length a < 100000000000) ∧ ([(8256, HO.blk (Blk.mk (Cont.ints u8 a) 1 (length a) none (some false) true false))] = [(8256, HO.blk (Blk.mk (Cont.ints u8 a) 1
 (length a) none (some false) true false))] ∧ length a = length a) ∧ ([(8256, HO.blk (Blk.mk (Cont.ints u8 a) 1 (length a) none (some false) true false))] = [(8256, HO.blk (Blk.mk (Cont.ints u8 a) 1
 (length a) none (some false) true false))] ∧ length a = length a ∧ length a < 1000000000000) ∧ length (reverse a) = length a ∧ Cont.ints u8 (reverse a) = Cont.ints u8 (reverse a) ∧ length a = length a
 ∧ True) := by kernel_rfl

theorem ob_o34z  : fnP (TZ34) G 10000 fe34 (.r [] 0 (.r [] 0 (.r [] 0 (.r [] 0 .nil)))) ([.imm (.ints .i64 []) 0 none]) ([.imm (.ints .i64 []) 0 none]) ([]) = (
 (0 = 0 ∧ iL [] = []) ∧ 0 = 0 ∧ (0 = 0 ∧ iL [] = []) ∧ Cont.ints i64 [] = Cont.ints i64 [] ∧ 0 = 0 ∧ True) := by kernel_rfl

theorem ob_o35z  : fnP (TZ34) G 10000 fe35 (.r [] 0 (.r [] 0 (.r [] 0 (.r [] 0 .nil)))) ([.imm (.ints .u8 []) 0 none]) ([.imm (.ints .u8 []) 0 none]) ([]) = (
 (0 = 0 ∧ iL [] = []) ∧ 0 = 0 ∧ (0 = 0 ∧ iL [] = []) ∧ Cont.ints u8 [] = Cont.ints u8 [] ∧ 0 = 0 ∧ True) := by kernel_rfl

theorem ob_o20 (a k : List Int) (i : Int) : fnP (TC) G 10000 fe20 (.r [] 0 (.r [] 1 (.r [] 0 (.ff (.r [yL 323] 14 (.ff (.r [] 21 .nil))))))) ([fanV a k, .int .i64 i]) ([.agg [.full 0 (rotL a i.toNat).length, .full 1 (rotL k i.toNat).length], .int .i64 0]) ([blkN .i64 (rotL a i.toNat), blkN .u8 (rotL k i.toNat)]) = (
 (length a = length a ∧ length k = length k ∧ length a < 1000000000000) ∧ (chk a k != 0) = false ∧ (!ltb i 0) = true ∧ leb (if 1 > (↑(length a) : Int) then 1 else (↑(length a) : Int)) i = false ∧
 (length a = length a ∧ 0 < length a ∧ length a < 100000000000 ∧ 0 ≤ i ∧ i ≤ (↑(length a) : Int)) ∧ (length k = length k ∧ 0 < length k ∧ length k < 100000000000 ∧ 0 ≤ i ∧ i ≤ (↑(length k) : Int)) ∧
 length (rotL a (Int.toNat i)) = length (rotL a (Int.toNat i)) ∧ rotL a (Int.toNat i) = rotL a (Int.toNat i) ∧ length (rotL k (Int.toNat i)) = length (rotL k (Int.toNat i)) ∧ rotL k (Int.toNat i) =
 rotL k (Int.toNat i) ∧ length (rotL a (Int.toNat i)) = length (rotL a (Int.toNat i)) ∧ length (rotL k (Int.toNat i)) = length (rotL k (Int.toNat i)) ∧ iI 0 = 0 ∧ True) := by kernel_rfl

theorem ob_o21p (a k : List Int) : fnP (TC) G 10000 fe21 (.r [] 0 (.r [] 21 (.r [] 1 (.r [] 0 (.tt (.r [] 9 (.r [] 3 .nil))))))) ([fanV a k]) ([.agg [.imm (.ints .i64 a.reverse) a.length none, .full 0 (mirK k).length]]) ([blkN .u8 (mirK k)]) = (
 (length a = length a ∧ length a < 100000000000) ∧ (length k = length k ∧ length k < 100000000000) ∧ ltb 0 (↑(length k) : Int) = true ∧ inR i64 ((↑(length k) : Int) - 1) = true ∧ (length k = length
 (reverse k) ∧ 0 < length (reverse k) ∧ length (reverse k) < 100000000000 ∧ 0 ≤ (↑(length k) : Int) - 1 ∧ (↑(length k) : Int) - 1 ≤ (↑(length (reverse k)) : Int)) ∧ length (rotL (reverse k) (Int.toNat
 ((↑(length k) : Int) - 1))) = length (mirK k) ∧ rotL (reverse k) (Int.toNat ((↑(length k) : Int) - 1)) = mirK k ∧ Cont.ints i64 (reverse a) = Cont.ints i64 (reverse a) ∧ length a = length a ∧ length
 (rotL (reverse k) (Int.toNat ((↑(length k) : Int) - 1))) = length (mirK k) ∧ True) := by kernel_rfl

theorem ob_o21f (a k : List Int) : fnP (TC) G 10000 fe21 (.r [] 0 (.r [] 21 (.r [] 1 (.r [] 0 (.tt (.r [] 9 (.frz 3 0 (.r [] 3 .nil)))))))) ([fanV a k]) ([.agg [.imm (.ints .i64 a.reverse) a.length none, .imm (.ints .u8 (mirK k)) (mirK k).length none]]) ([]) = (
 (length a = length a ∧ length a < 100000000000) ∧ (length k = length k ∧ length k < 100000000000) ∧ ltb 0 (↑(length k) : Int) = true ∧ inR i64 ((↑(length k) : Int) - 1) = true ∧ (length k = length
 (reverse k) ∧ 0 < length (reverse k) ∧ length (reverse k) < 100000000000 ∧ 0 ≤ (↑(length k) : Int) - 1 ∧ (↑(length k) : Int) - 1 ≤ (↑(length (reverse k)) : Int)) ∧ length (rotL (reverse k) (Int.toNat
 ((↑(length k) : Int) - 1))) = length (rotL (reverse k) (Int.toNat ((↑(length k) : Int) - 1))) ∧ Cont.ints i64 (reverse a) = Cont.ints i64 (reverse a) ∧ length a = length a ∧ Cont.ints u8 (rotL
 (reverse k) (Int.toNat ((↑(length k) : Int) - 1))) = Cont.ints u8 (mirK k) ∧ length (rotL (reverse k) (Int.toNat ((↑(length k) : Int) - 1))) = length (mirK k) ∧ True) := by kernel_rfl

theorem ob_o21z (a k : List Int) : fnP (TC) G 10000 fe21 (.r [] 0 (.r [] 21 (.r [] 1 (.r [] 0 (.ff (.r [] 3 .nil)))))) ([fanV a k]) ([.agg [.imm (.ints .i64 a.reverse) a.length none, .imm (.ints .u8 (mirK k)) (mirK k).length none]]) ([]) = (
 (length a = length a ∧ length a < 100000000000) ∧ (length k = length k ∧ length k < 100000000000) ∧ ltb 0 (↑(length k) : Int) = false ∧ Cont.ints i64 (reverse a) = Cont.ints i64 (reverse a) ∧ length a
 = length a ∧ Cont.ints u8 (reverse k) = Cont.ints u8 (mirK k) ∧ length k = length (mirK k) ∧ True) := by kernel_rfl

theorem ob_o22 (a k : List Int) : fnP (TO) G 10000 fe22 (.r [] 0 (.r [] 5 (.r [] 1 (.lp (l22 (mirK k)) [] [] (fun b => (.r [] 0 (.cnd (.r [] 0 (.rs 3 [] 0 18 (.r [] 3 (.lit (.r [] 1 (.r [] 0 .nil)))) (.r [] 3 (.cnd (.r [] 1 (.r [] 0 .nil)) (.r [] 0 .nil))))) (.frz 3 0 (.r [] 3 .nil))))))))) ([fanV a k]) ([.agg [.imm (.ints .i64 a.reverse) a.length none, .imm (.ints .u8 (ovK (mirK k))) (ovK (mirK k)).length none]]) ([]) = (
 (length a = length a ∧ length k = length k ∧ length a < 100000000000 ∧ 0 < length k ∧ length k < 100000000000) ∧ length (mirK k) = length (mirK k) ∧ 1 = 1 ∧ Cont.ints i64 a = Cont.ints i64 a ∧ length
 a = length a ∧ Cont.ints u8 k = Cont.ints u8 k ∧ length k = length k ∧ 1 = 1 ∧ length (mirK k) = length (mirK k) ∧ mirK k = mirK k ∧ 1 = 1 ∧ Cont.ints i64 (reverse a) = Cont.ints i64 (reverse a) ∧
 length a = length a ∧ length (mirK k) = length (mirK k) ∧ 0 = 0 ∧ 0 = 0 ∧ length (mirK k) = length (mirK k) ∧ (↑(length (mirK k)) : Int) = (↑(length (mirK k)) : Int) ∧ iI 0 = 0 ∧ (∃ (n : Nat), 0 = (↑n
 : Int) ∧ n ≤ length (mirK k) ∧ mirK k = take n (ovK (mirK k)) ++ drop n (mirK k)) ∧ ∀ (b : L22), (∃ (n : Nat), b.i = (↑n : Int) ∧ n ≤ length (mirK k) ∧ b.l = take n (ovK (mirK k)) ++ drop n (mirK k))
 → (ltb b.i (↑(length (mirK k)) : Int) = true → leb 0 b.i = true ∧ ltb b.i (↑(length (mirK k)) : Int) = true ∧ length b.l = length (mirK k) ∧ length b.l = length (mirK k) ∧ ltn (Int.toNat b.i)
 (Cont.size (Cont.ints u8 b.l)) = true ∧ ((getD b.l (Int.toNat b.i) 0 == 1) = true → inR u8 (3 - getD b.l (Int.toNat b.i) 0) = true ∧ leb 0 b.i = true ∧ ltb b.i (↑(length (mirK k)) : Int) = true ∧
 length b.l = length (mirK k) ∧ length b.l = length (mirK k) ∧ len' (Int.toNat b.i + 1) (Cont.size (Cont.ints u8 b.l)) = true ∧ inR i64 (b.i + 1) = true ∧ 1 = 1 ∧ Cont.ints i64 a = Cont.ints i64 a ∧
 length a = length a ∧ Cont.ints u8 k = Cont.ints u8 k ∧ length k = length k ∧ 1 = 1 ∧ length b.l = length (set b.l (Int.toNat b.i) (3 - getD b.l (Int.toNat b.i) 0)) ∧ set b.l (Int.toNat b.i) (3 - getD
 b.l (Int.toNat b.i) 0) = set b.l (Int.toNat b.i) (3 - getD b.l (Int.toNat b.i) 0) ∧ 1 = 1 ∧ Cont.ints i64 (reverse a) = Cont.ints i64 (reverse a) ∧ length a = length a ∧ length (mirK k) = length (mirK
 k) ∧ 0 = 0 ∧ 0 = 0 ∧ length (mirK k) = length (mirK k) ∧ (↑(length (mirK k)) : Int) = (↑(length (mirK k)) : Int) ∧ b.i + 1 = b.i + 1 ∧ (∃ (n : Nat), b.i + 1 = (↑n : Int) ∧ n ≤ length (mirK k) ∧ set
 b.l (Int.toNat b.i) (3 - getD b.l (Int.toNat b.i) 0) = take n (ovK (mirK k)) ++ drop n (mirK k)) ∧ length (mirK k) - Int.toNat (b.i + 1) < length (mirK k) - Int.toNat b.i ∧ True) ∧ ((getD b.l
 (Int.toNat b.i) 0 == 1) = false → ((getD b.l (Int.toNat b.i) 0 == 2) = true → inR u8 (3 - getD b.l (Int.toNat b.i) 0) = true ∧ leb 0 b.i = true ∧ ltb b.i (↑(length (mirK k)) : Int) = true ∧ length b.l
 = length (mirK k) ∧ length b.l = length (mirK k) ∧ len' (Int.toNat b.i + 1) (Cont.size (Cont.ints u8 b.l)) = true ∧ inR i64 (b.i + 1) = true ∧ 1 = 1 ∧ Cont.ints i64 a = Cont.ints i64 a ∧ length a =
 length a ∧ Cont.ints u8 k = Cont.ints u8 k ∧ length k = length k ∧ 1 = 1 ∧ length b.l = length (set b.l (Int.toNat b.i) (3 - getD b.l (Int.toNat b.i) 0)) ∧ set b.l (Int.toNat b.i) (3 - getD b.l
 (Int.toNat b.i) 0) = set b.l (Int.toNat b.i) (3 - getD b.l (Int.toNat b.i) 0) ∧ 1 = 1 ∧ Cont.ints i64 (reverse a) = Cont.ints i64 (reverse a) ∧ length a = length a ∧ length (mirK k) = length (mirK k)
 ∧ 0 = 0 ∧ 0 = 0 ∧ length (mirK k) = length (mirK k) ∧ (↑(length (mirK k)) : Int) = (↑(length (mirK k)) : Int) ∧ b.i + 1 = b.i + 1 ∧ (∃ (n : Nat), b.i + 1 = (↑n : Int) ∧ n ≤ length (mirK k) ∧ set b.l
 (Int.toNat b.i) (3 - getD b.l (Int.toNat b.i) 0) = take n (ovK (mirK k)) ++ drop n (mirK k)) ∧ length (mirK k) - Int.toNat (b.i + 1) < length (mirK k) - Int.toNat b.i ∧ True) ∧ ((getD b.l (Int.toNat
 b.i) 0 == 2) = false → inR i64 (b.i + 1) = true ∧ 1 = 1 ∧ Cont.ints i64 a = Cont.ints i64 a ∧ length a = length a ∧ Cont.ints u8 k = Cont.ints u8 k ∧ length k = length k ∧ 1 = 1 ∧ length b.l = length
 b.l ∧ b.l = b.l ∧ 1 = 1 ∧ Cont.ints i64 (reverse a) = Cont.ints i64 (reverse a) ∧ length a = length a ∧ length (mirK k) = length (mirK k) ∧ 0 = 0 ∧ 0 = 0 ∧ length (mirK k) = length (mirK k) ∧
 (↑(length (mirK k)) : Int) = (↑(length (mirK k)) : Int) ∧ b.i + 1 = b.i + 1 ∧ (∃ (n : Nat), b.i + 1 = (↑n : Int) ∧ n ≤ length (mirK k) ∧ b.l = take n (ovK (mirK k)) ++ drop n (mirK k)) ∧ length (mirK
 k) - Int.toNat (b.i + 1) < length (mirK k) - Int.toNat b.i ∧ True))) ∧ (ltb b.i (↑(length (mirK k)) : Int) = false → length b.l = length (mirK k) ∧ Cont.ints i64 (reverse a) = Cont.ints i64 (reverse
 a) ∧ length a = length a ∧ Cont.ints u8 b.l = Cont.ints u8 (ovK (mirK k)) ∧ length (mirK k) = length (ovK (mirK k)) ∧ True)) := by kernel_rfl

theorem ob_o22z (a : List Int) : fnP (TOz) G 10000 fe22 (.r [] 0 (.r [] 5 (.r [] 1 (.un (.r [] 0 (.lit (.r [] 3 .nil))))))) ([.agg [.imm (.ints .i64 a) a.length none, .imm (.ints .u8 []) 0 none]]) ([.agg [.imm (.ints .i64 a.reverse) a.length none, .imm (.ints .u8 []) 0 none]]) ([]) = (
 (length a = length a ∧ 0 = 0 ∧ length a < 100000000000 ∧ 0 < 100000000000) ∧ Cont.ints i64 (reverse a) = Cont.ints i64 (reverse a) ∧ length a = length a ∧ Cont.ints u8 [] = Cont.ints u8 [] ∧ 0 = 0 ∧
 True) := by kernel_rfl

theorem ob_o7p (c l : Int) (ks : List Int) (y : Int) : fnP (TD) G 10000 fe7 (.r [] 0 (.r [] 5 (.r [] 1 (.r [] 49 (.r [] 113 (.r [] 113 (.r [] 49 (.r [yL 515, yL 519, yL 523] 438 (.ff (.r [] 0 (.r [] 0 (.jn (jI 17 u8 (wS (ofA c l ks) (ofK c ks))) [71] [] (.cnd (.r [] 0 .nil) .nil) (fun b => (.jn (jI 17 u8 (wD (ofA c l ks) (ofK c ks))) [] [] (.rs 3 [] 0 74 (.rs 3 [] 0 77 (.rs 4 [] 3 81 (.rs 7 [] 31 88 (.rs 3 [] 0 91 (.rs 4 [] 3 95 (.r [] 31 (.cnd (.r [] 0 .nil) .nil)) (.r [] 15 (.lit (.r [] 0 .nil)))) (.r [] 63 (.lit (.r [] 0 .nil)))) (.r [] 3 (.lit .nil))) (.rs 10 [] 15 91 (.rs 4 [] 3 95 (.r [] 31 (.cnd (.r [] 0 .nil) .nil)) (.r [] 15 (.lit (.r [] 0 .nil)))) (.r [] 63 (.lit (.r [] 0 .nil))))) (.rs 14 [] 63 91 (.rs 4 [] 3 95 (.r [] 31 (.cnd (.r [] 0 .nil) .nil)) (.r [] 15 (.lit (.r [] 0 .nil)))) (.r [] 63 (.lit (.r [] 0 .nil))))) (.r [] 15 (.lit .nil))) (fun b_1 => (.r [] 0 (.jn (jI 17 u8 (wA (ofA c l ks) (ofK c ks))) [104] [] (.cnd (.r [] 0 .nil) .nil) (fun b_2 => (.r [] 1 (.jn (jI 17 u8 (lk (ofA c l ks) (ofK c ks))) [107] [] (.cnd (.r [] 0 .nil) .nil) (fun b_3 => (.r [] 0 (.ff (.r [] 3 (.r [] 0 (.tt (.r [] 449 (.r [] 0 (.lit (.r [] 3 (.r [] 35 (.r [] 0 (.un (.r [] 0 (.lit (.r [] 799 (.r [] 1823 (.r [] 0 (.lit (.r [yL 2243, yL 2247, yL 2252, yL 2257] 3510 (.ff (.r [] 1 (.un (.r [] 0 (.lit (.r [] 223 (.r [] 479 (.r [] 0 (.lit (.r [yL 2243, yL 2247, yL 2252, yL 2257] 3510 (.ff (.r [] 1 (.un (.r [] 0 (.lit (.r [] 223 (.r [] 479 (.r [] 0 (.lit (.r [] 0 (.r [yL 2243, yL 2247, yL 2252, yL 2257] 3510 (.ff (.r [] 1 (.un (.r [] 0 (.lit (.r [] 1 .nil))))))))))))))))))))))))))))))))))))))))))))))))))))))))))))))))))) ([fV c l ks, .int .u8 y]) ([.bool true]) ([]) = ((fun (A K : List Int) =>
 (length ks = length ks ∧ okK ks) ∧ length A = length A ∧ length A = length A ∧ length K = length K ∧ (length A = length A ∧ length K = length K ∧ length A < 1000000000000) ∧ length A = length A ∧
 length K = length K ∧ (length A = length A ∧ length K = length K ∧ length A < 1000000000000) ∧ length A = length A ∧ length K = length K ∧ (length A = length A ∧ length K = length K ∧ length A <
 1000000000000) ∧ length A = length A ∧ length K = length K ∧ (length A = length A ∧ length K = length K ∧ length A < 1000000000000) ∧ (!chk A K != 0) = true ∧ (!chk A K != 0) = true ∧ (!chk A K != 0)
 = true ∧ (chk A K != 0) = false ∧ ((ltb 0 (↑(length (bL (isOk A K) (shps A K))) : Int) = true → 1 = 1 ∧ c = c ∧ l = l ∧ Cont.ints u8 ks = Cont.ints u8 ks ∧ length ks = length ks ∧ length A = length A
 ∧ ofA c l ks = ofA c l ks ∧ length K = length K ∧ ofK c ks = ofK c ks ∧ 1 = 1 ∧ length A = length A ∧ length K = length K ∧ y = y ∧ 0 = 0 ∧ (↑(length A) : Int) = (↑(length A) : Int) ∧ bI (isOk A K)
 (lk A K) 0 = bI (isOk A K) (lk A K) 0 ∧ bI (isOk A K) (sumP true A) 0 = bI (isOk A K) (sumP true A) 0 ∧ bI (isOk A K) (sumP false A) 0 = bI (isOk A K) (sumP false A) 0 ∧ bI (isOk A K) (dif K - cntK K
 3) 0 = bI (isOk A K) (dif K - cntK K 3) 0 ∧ bI (isOk A K) (dif K + cntK K 3) 0 = bI (isOk A K) (dif K + cntK K 3) 0 ∧ iI 4 = 4 ∧ 4 = wS A K ∧ True) ∧ (ltb 0 (↑(length (bL (isOk A K) (shps A K))) :
 Int) = false → 1 = 1 ∧ c = c ∧ l = l ∧ Cont.ints u8 ks = Cont.ints u8 ks ∧ length ks = length ks ∧ length A = length A ∧ ofA c l ks = ofA c l ks ∧ length K = length K ∧ ofK c ks = ofK c ks ∧ 1 = 1 ∧
 length A = length A ∧ length K = length K ∧ y = y ∧ 0 = 0 ∧ (↑(length A) : Int) = (↑(length A) : Int) ∧ bI (isOk A K) (lk A K) 0 = bI (isOk A K) (lk A K) 0 ∧ bI (isOk A K) (sumP true A) 0 = bI (isOk A
 K) (sumP true A) 0 ∧ bI (isOk A K) (sumP false A) 0 = bI (isOk A K) (sumP false A) 0 ∧ bI (isOk A K) (dif K - cntK K 3) 0 = bI (isOk A K) (dif K - cntK K 3) 0 ∧ bI (isOk A K) (dif K + cntK K 3) 0 = bI
 (isOk A K) (dif K + cntK K 3) 0 ∧ iI 0 = 0 ∧ 0 = wS A K ∧ True)) ∧ ∀ (b : VI), b.v = wS A K → ((ltb 0 (↑(length A) : Int) = true → (leb (bI (isOk A K) (dif K - cntK K 3) 0) 2 = true → (leb 2 (bI (isOk
 A K) (dif K + cntK K 3) 0) = true → ((!Int.tmod (bI (isOk A K) (dif K - cntK K 3) 0) 2 == 0) = true → (leb (bI (isOk A K) (dif K - cntK K 3) 0) (-2) = true → (leb (-2) (bI (isOk A K) (dif K + cntK K
 3) 0) = true → ((!Int.tmod (bI (isOk A K) (dif K - cntK K 3) 0) 2 == 0) = true → 1 = 1 ∧ c = c ∧ l = l ∧ Cont.ints u8 ks = Cont.ints u8 ks ∧ length ks = length ks ∧ length A = length A ∧ ofA c l ks =
 ofA c l ks ∧ length K = length K ∧ ofK c ks = ofK c ks ∧ 1 = 1 ∧ length A = length A ∧ length K = length K ∧ y = y ∧ 0 = 0 ∧ (↑(length A) : Int) = (↑(length A) : Int) ∧ bI (isOk A K) (lk A K) 0 = bI
 (isOk A K) (lk A K) 0 ∧ bI (isOk A K) (sumP true A) 0 = bI (isOk A K) (sumP true A) 0 ∧ bI (isOk A K) (sumP false A) 0 = bI (isOk A K) (sumP false A) 0 ∧ bI (isOk A K) (dif K - cntK K 3) 0 = bI (isOk
 A K) (dif K - cntK K 3) 0 ∧ bI (isOk A K) (dif K + cntK K 3) 0 = bI (isOk A K) (dif K + cntK K 3) 0 ∧ iI 3 = 3 ∧ 3 = wD A K ∧ True) ∧ ((!Int.tmod (bI (isOk A K) (dif K - cntK K 3) 0) 2 == 0) = false →
 1 = 1 ∧ c = c ∧ l = l ∧ Cont.ints u8 ks = Cont.ints u8 ks ∧ length ks = length ks ∧ length A = length A ∧ ofA c l ks = ofA c l ks ∧ length K = length K ∧ ofK c ks = ofK c ks ∧ 1 = 1 ∧ length A =
 length A ∧ length K = length K ∧ y = y ∧ 0 = 0 ∧ (↑(length A) : Int) = (↑(length A) : Int) ∧ bI (isOk A K) (lk A K) 0 = bI (isOk A K) (lk A K) 0 ∧ bI (isOk A K) (sumP true A) 0 = bI (isOk A K) (sumP
 true A) 0 ∧ bI (isOk A K) (sumP false A) 0 = bI (isOk A K) (sumP false A) 0 ∧ bI (isOk A K) (dif K - cntK K 3) 0 = bI (isOk A K) (dif K - cntK K 3) 0 ∧ bI (isOk A K) (dif K + cntK K 3) 0 = bI (isOk A
 K) (dif K + cntK K 3) 0 ∧ b.v = b.v ∧ b.v = wD A K ∧ True)) ∧ (leb (-2) (bI (isOk A K) (dif K + cntK K 3) 0) = false → 1 = 1 ∧ c = c ∧ l = l ∧ Cont.ints u8 ks = Cont.ints u8 ks ∧ length ks = length ks
 ∧ length A = length A ∧ ofA c l ks = ofA c l ks ∧ length K = length K ∧ ofK c ks = ofK c ks ∧ 1 = 1 ∧ length A = length A ∧ length K = length K ∧ y = y ∧ 0 = 0 ∧ (↑(length A) : Int) = (↑(length A) :
 Int) ∧ bI (isOk A K) (lk A K) 0 = bI (isOk A K) (lk A K) 0 ∧ bI (isOk A K) (sumP true A) 0 = bI (isOk A K) (sumP true A) 0 ∧ bI (isOk A K) (sumP false A) 0 = bI (isOk A K) (sumP false A) 0 ∧ bI (isOk
 A K) (dif K - cntK K 3) 0 = bI (isOk A K) (dif K - cntK K 3) 0 ∧ bI (isOk A K) (dif K + cntK K 3) 0 = bI (isOk A K) (dif K + cntK K 3) 0 ∧ iI 3 = 3 ∧ 3 = wD A K ∧ True)) ∧ (leb (bI (isOk A K) (dif K -
 cntK K 3) 0) (-2) = false → 1 = 1 ∧ c = c ∧ l = l ∧ Cont.ints u8 ks = Cont.ints u8 ks ∧ length ks = length ks ∧ length A = length A ∧ ofA c l ks = ofA c l ks ∧ length K = length K ∧ ofK c ks = ofK c
 ks ∧ 1 = 1 ∧ length A = length A ∧ length K = length K ∧ y = y ∧ 0 = 0 ∧ (↑(length A) : Int) = (↑(length A) : Int) ∧ bI (isOk A K) (lk A K) 0 = bI (isOk A K) (lk A K) 0 ∧ bI (isOk A K) (sumP true A) 0
 = bI (isOk A K) (sumP true A) 0 ∧ bI (isOk A K) (sumP false A) 0 = bI (isOk A K) (sumP false A) 0 ∧ bI (isOk A K) (dif K - cntK K 3) 0 = bI (isOk A K) (dif K - cntK K 3) 0 ∧ bI (isOk A K) (dif K +
 cntK K 3) 0 = bI (isOk A K) (dif K + cntK K 3) 0 ∧ iI 3 = 3 ∧ 3 = wD A K ∧ True)) ∧ ((!Int.tmod (bI (isOk A K) (dif K - cntK K 3) 0) 2 == 0) = false → 1 = 1 ∧ c = c ∧ l = l ∧ Cont.ints u8 ks =
 Cont.ints u8 ks ∧ length ks = length ks ∧ length A = length A ∧ ofA c l ks = ofA c l ks ∧ length K = length K ∧ ofK c ks = ofK c ks ∧ 1 = 1 ∧ length A = length A ∧ length K = length K ∧ y = y ∧ 0 = 0
 ∧ (↑(length A) : Int) = (↑(length A) : Int) ∧ bI (isOk A K) (lk A K) 0 = bI (isOk A K) (lk A K) 0 ∧ bI (isOk A K) (sumP true A) 0 = bI (isOk A K) (sumP true A) 0 ∧ bI (isOk A K) (sumP false A) 0 = bI
 (isOk A K) (sumP false A) 0 ∧ bI (isOk A K) (dif K - cntK K 3) 0 = bI (isOk A K) (dif K - cntK K 3) 0 ∧ bI (isOk A K) (dif K + cntK K 3) 0 = bI (isOk A K) (dif K + cntK K 3) 0 ∧ b.v = b.v ∧ b.v = wD A
 K ∧ True)) ∧ (leb 2 (bI (isOk A K) (dif K + cntK K 3) 0) = false → (leb (bI (isOk A K) (dif K - cntK K 3) 0) (-2) = true → (leb (-2) (bI (isOk A K) (dif K + cntK K 3) 0) = true → ((!Int.tmod (bI (isOk
 A K) (dif K - cntK K 3) 0) 2 == 0) = true → 1 = 1 ∧ c = c ∧ l = l ∧ Cont.ints u8 ks = Cont.ints u8 ks ∧ length ks = length ks ∧ length A = length A ∧ ofA c l ks = ofA c l ks ∧ length K = length K ∧
 ofK c ks = ofK c ks ∧ 1 = 1 ∧ length A = length A ∧ length K = length K ∧ y = y ∧ 0 = 0 ∧ (↑(length A) : Int) = (↑(length A) : Int) ∧ bI (isOk A K) (lk A K) 0 = bI (isOk A K) (lk A K) 0 ∧ bI (isOk A
 K) (sumP true A) 0 = bI (isOk A K) (sumP true A) 0 ∧ bI (isOk A K) (sumP false A) 0 = bI (isOk A K) (sumP false A) 0 ∧ bI (isOk A K) (dif K - cntK K 3) 0 = bI (isOk A K) (dif K - cntK K 3) 0 ∧ bI
 (isOk A K) (dif K + cntK K 3) 0 = bI (isOk A K) (dif K + cntK K 3) 0 ∧ iI 3 = 3 ∧ 3 = wD A K ∧ True) ∧ ((!Int.tmod (bI (isOk A K) (dif K - cntK K 3) 0) 2 == 0) = false → 1 = 1 ∧ c = c ∧ l = l ∧
 Cont.ints u8 ks = Cont.ints u8 ks ∧ length ks = length ks ∧ length A = length A ∧ ofA c l ks = ofA c l ks ∧ length K = length K ∧ ofK c ks = ofK c ks ∧ 1 = 1 ∧ length A = length A ∧ length K = length
 K ∧ y = y ∧ 0 = 0 ∧ (↑(length A) : Int) = (↑(length A) : Int) ∧ bI (isOk A K) (lk A K) 0 = bI (isOk A K) (lk A K) 0 ∧ bI (isOk A K) (sumP true A) 0 = bI (isOk A K) (sumP true A) 0 ∧ bI (isOk A K)
 (sumP false A) 0 = bI (isOk A K) (sumP false A) 0 ∧ bI (isOk A K) (dif K - cntK K 3) 0 = bI (isOk A K) (dif K - cntK K 3) 0 ∧ bI (isOk A K) (dif K + cntK K 3) 0 = bI (isOk A K) (dif K + cntK K 3) 0 ∧
 b.v = b.v ∧ b.v = wD A K ∧ True)) ∧ (leb (-2) (bI (isOk A K) (dif K + cntK K 3) 0) = false → 1 = 1 ∧ c = c ∧ l = l ∧ Cont.ints u8 ks = Cont.ints u8 ks ∧ length ks = length ks ∧ length A = length A ∧
 ofA c l ks = ofA c l ks ∧ length K = length K ∧ ofK c ks = ofK c ks ∧ 1 = 1 ∧ length A = length A ∧ length K = length K ∧ y = y ∧ 0 = 0 ∧ (↑(length A) : Int) = (↑(length A) : Int) ∧ bI (isOk A K) (lk
 A K) 0 = bI (isOk A K) (lk A K) 0 ∧ bI (isOk A K) (sumP true A) 0 = bI (isOk A K) (sumP true A) 0 ∧ bI (isOk A K) (sumP false A) 0 = bI (isOk A K) (sumP false A) 0 ∧ bI (isOk A K) (dif K - cntK K 3) 0
 = bI (isOk A K) (dif K - cntK K 3) 0 ∧ bI (isOk A K) (dif K + cntK K 3) 0 = bI (isOk A K) (dif K + cntK K 3) 0 ∧ iI 3 = 3 ∧ 3 = wD A K ∧ True)) ∧ (leb (bI (isOk A K) (dif K - cntK K 3) 0) (-2) = false
 → 1 = 1 ∧ c = c ∧ l = l ∧ Cont.ints u8 ks = Cont.ints u8 ks ∧ length ks = length ks ∧ length A = length A ∧ ofA c l ks = ofA c l ks ∧ length K = length K ∧ ofK c ks = ofK c ks ∧ 1 = 1 ∧ length A =
 length A ∧ length K = length K ∧ y = y ∧ 0 = 0 ∧ (↑(length A) : Int) = (↑(length A) : Int) ∧ bI (isOk A K) (lk A K) 0 = bI (isOk A K) (lk A K) 0 ∧ bI (isOk A K) (sumP true A) 0 = bI (isOk A K) (sumP
 true A) 0 ∧ bI (isOk A K) (sumP false A) 0 = bI (isOk A K) (sumP false A) 0 ∧ bI (isOk A K) (dif K - cntK K 3) 0 = bI (isOk A K) (dif K - cntK K 3) 0 ∧ bI (isOk A K) (dif K + cntK K 3) 0 = bI (isOk A
 K) (dif K + cntK K 3) 0 ∧ iI 3 = 3 ∧ 3 = wD A K ∧ True))) ∧ (leb (bI (isOk A K) (dif K - cntK K 3) 0) 2 = false → (leb (bI (isOk A K) (dif K - cntK K 3) 0) (-2) = true → (leb (-2) (bI (isOk A K) (dif
 K + cntK K 3) 0) = true → ((!Int.tmod (bI (isOk A K) (dif K - cntK K 3) 0) 2 == 0) = true → 1 = 1 ∧ c = c ∧ l = l ∧ Cont.ints u8 ks = Cont.ints u8 ks ∧ length ks = length ks ∧ length A = length A ∧
 ofA c l ks = ofA c l ks ∧ length K = length K ∧ ofK c ks = ofK c ks ∧ 1 = 1 ∧ length A = length A ∧ length K = length K ∧ y = y ∧ 0 = 0 ∧ (↑(length A) : Int) = (↑(length A) : Int) ∧ bI (isOk A K) (lk
 A K) 0 = bI (isOk A K) (lk A K) 0 ∧ bI (isOk A K) (sumP true A) 0 = bI (isOk A K) (sumP true A) 0 ∧ bI (isOk A K) (sumP false A) 0 = bI (isOk A K) (sumP false A) 0 ∧ bI (isOk A K) (dif K - cntK K 3) 0
 = bI (isOk A K) (dif K - cntK K 3) 0 ∧ bI (isOk A K) (dif K + cntK K 3) 0 = bI (isOk A K) (dif K + cntK K 3) 0 ∧ iI 3 = 3 ∧ 3 = wD A K ∧ True) ∧ ((!Int.tmod (bI (isOk A K) (dif K - cntK K 3) 0) 2 ==
 0) = false → 1 = 1 ∧ c = c ∧ l = l ∧ Cont.ints u8 ks = Cont.ints u8 ks ∧ length ks = length ks ∧ length A = length A ∧ ofA c l ks = ofA c l ks ∧ length K = length K ∧ ofK c ks = ofK c ks ∧ 1 = 1 ∧
 length A = length A ∧ length K = length K ∧ y = y ∧ 0 = 0 ∧ (↑(length A) : Int) = (↑(length A) : Int) ∧ bI (isOk A K) (lk A K) 0 = bI (isOk A K) (lk A K) 0 ∧ bI (isOk A K) (sumP true A) 0 = bI (isOk A
 K) (sumP true A) 0 ∧ bI (isOk A K) (sumP false A) 0 = bI (isOk A K) (sumP false A) 0 ∧ bI (isOk A K) (dif K - cntK K 3) 0 = bI (isOk A K) (dif K - cntK K 3) 0 ∧ bI (isOk A K) (dif K + cntK K 3) 0 = bI
 (isOk A K) (dif K + cntK K 3) 0 ∧ b.v = b.v ∧ b.v = wD A K ∧ True)) ∧ (leb (-2) (bI (isOk A K) (dif K + cntK K 3) 0) = false → 1 = 1 ∧ c = c ∧ l = l ∧ Cont.ints u8 ks = Cont.ints u8 ks ∧ length ks =
 length ks ∧ length A = length A ∧ ofA c l ks = ofA c l ks ∧ length K = length K ∧ ofK c ks = ofK c ks ∧ 1 = 1 ∧ length A = length A ∧ length K = length K ∧ y = y ∧ 0 = 0 ∧ (↑(length A) : Int) =
 (↑(length A) : Int) ∧ bI (isOk A K) (lk A K) 0 = bI (isOk A K) (lk A K) 0 ∧ bI (isOk A K) (sumP true A) 0 = bI (isOk A K) (sumP true A) 0 ∧ bI (isOk A K) (sumP false A) 0 = bI (isOk A K) (sumP false
 A) 0 ∧ bI (isOk A K) (dif K - cntK K 3) 0 = bI (isOk A K) (dif K - cntK K 3) 0 ∧ bI (isOk A K) (dif K + cntK K 3) 0 = bI (isOk A K) (dif K + cntK K 3) 0 ∧ iI 3 = 3 ∧ 3 = wD A K ∧ True)) ∧ (leb (bI
 (isOk A K) (dif K - cntK K 3) 0) (-2) = false → 1 = 1 ∧ c = c ∧ l = l ∧ Cont.ints u8 ks = Cont.ints u8 ks ∧ length ks = length ks ∧ length A = length A ∧ ofA c l ks = ofA c l ks ∧ length K = length K
 ∧ ofK c ks = ofK c ks ∧ 1 = 1 ∧ length A = length A ∧ length K = length K ∧ y = y ∧ 0 = 0 ∧ (↑(length A) : Int) = (↑(length A) : Int) ∧ bI (isOk A K) (lk A K) 0 = bI (isOk A K) (lk A K) 0 ∧ bI (isOk A
 K) (sumP true A) 0 = bI (isOk A K) (sumP true A) 0 ∧ bI (isOk A K) (sumP false A) 0 = bI (isOk A K) (sumP false A) 0 ∧ bI (isOk A K) (dif K - cntK K 3) 0 = bI (isOk A K) (dif K - cntK K 3) 0 ∧ bI
 (isOk A K) (dif K + cntK K 3) 0 = bI (isOk A K) (dif K + cntK K 3) 0 ∧ iI 3 = 3 ∧ 3 = wD A K ∧ True))) ∧ (ltb 0 (↑(length A) : Int) = false → 1 = 1 ∧ c = c ∧ l = l ∧ Cont.ints u8 ks = Cont.ints u8 ks
 ∧ length ks = length ks ∧ length A = length A ∧ ofA c l ks = ofA c l ks ∧ length K = length K ∧ ofK c ks = ofK c ks ∧ 1 = 1 ∧ length A = length A ∧ length K = length K ∧ y = y ∧ 0 = 0 ∧ (↑(length A) :
 Int) = (↑(length A) : Int) ∧ bI (isOk A K) (lk A K) 0 = bI (isOk A K) (lk A K) 0 ∧ bI (isOk A K) (sumP true A) 0 = bI (isOk A K) (sumP true A) 0 ∧ bI (isOk A K) (sumP false A) 0 = bI (isOk A K) (sumP
 false A) 0 ∧ bI (isOk A K) (dif K - cntK K 3) 0 = bI (isOk A K) (dif K - cntK K 3) 0 ∧ bI (isOk A K) (dif K + cntK K 3) 0 = bI (isOk A K) (dif K + cntK K 3) 0 ∧ b.v = b.v ∧ b.v = wD A K ∧ True)) ∧ ∀
 (b_1 : VI), b_1.v = wD A K → (((bI (isOk A K) (sumP true A) 0 != bI (isOk A K) (sumP false A) 0) = true → 1 = 1 ∧ c = c ∧ l = l ∧ Cont.ints u8 ks = Cont.ints u8 ks ∧ length ks = length ks ∧ length A =
 length A ∧ ofA c l ks = ofA c l ks ∧ length K = length K ∧ ofK c ks = ofK c ks ∧ 1 = 1 ∧ length A = length A ∧ length K = length K ∧ y = y ∧ 0 = 0 ∧ (↑(length A) : Int) = (↑(length A) : Int) ∧ bI
 (isOk A K) (lk A K) 0 = bI (isOk A K) (lk A K) 0 ∧ bI (isOk A K) (dif K - cntK K 3) 0 = bI (isOk A K) (dif K - cntK K 3) 0 ∧ bI (isOk A K) (dif K + cntK K 3) 0 = bI (isOk A K) (dif K + cntK K 3) 0 ∧
 iI 2 = 2 ∧ 2 = wA A K ∧ True) ∧ ((bI (isOk A K) (sumP true A) 0 != bI (isOk A K) (sumP false A) 0) = false → 1 = 1 ∧ c = c ∧ l = l ∧ Cont.ints u8 ks = Cont.ints u8 ks ∧ length ks = length ks ∧ length
 A = length A ∧ ofA c l ks = ofA c l ks ∧ length K = length K ∧ ofK c ks = ofK c ks ∧ 1 = 1 ∧ length A = length A ∧ length K = length K ∧ y = y ∧ 0 = 0 ∧ (↑(length A) : Int) = (↑(length A) : Int) ∧ bI
 (isOk A K) (lk A K) 0 = bI (isOk A K) (lk A K) 0 ∧ bI (isOk A K) (dif K - cntK K 3) 0 = bI (isOk A K) (dif K - cntK K 3) 0 ∧ bI (isOk A K) (dif K + cntK K 3) 0 = bI (isOk A K) (dif K + cntK K 3) 0 ∧
 b_1.v = b_1.v ∧ b_1.v = wA A K ∧ True)) ∧ ∀ (b_2 : VI), b_2.v = wA A K → (((Int.tmod (↑(length A) : Int) 2 == 1) = true → 1 = 1 ∧ c = c ∧ l = l ∧ Cont.ints u8 ks = Cont.ints u8 ks ∧ length ks = length
 ks ∧ length A = length A ∧ ofA c l ks = ofA c l ks ∧ length K = length K ∧ ofK c ks = ofK c ks ∧ 1 = 1 ∧ length A = length A ∧ length K = length K ∧ y = y ∧ 0 = 0 ∧ (↑(length A) : Int) = (↑(length A)
 : Int) ∧ bI (isOk A K) (lk A K) 0 = bI (isOk A K) (lk A K) 0 ∧ bI (isOk A K) (dif K - cntK K 3) 0 = bI (isOk A K) (dif K - cntK K 3) 0 ∧ bI (isOk A K) (dif K + cntK K 3) 0 = bI (isOk A K) (dif K +
 cntK K 3) 0 ∧ iI 1 = 1 ∧ 1 = lk A K ∧ True) ∧ ((Int.tmod (↑(length A) : Int) 2 == 1) = false → 1 = 1 ∧ c = c ∧ l = l ∧ Cont.ints u8 ks = Cont.ints u8 ks ∧ length ks = length ks ∧ length A = length A ∧
 ofA c l ks = ofA c l ks ∧ length K = length K ∧ ofK c ks = ofK c ks ∧ 1 = 1 ∧ length A = length A ∧ length K = length K ∧ y = y ∧ 0 = 0 ∧ (↑(length A) : Int) = (↑(length A) : Int) ∧ bI (isOk A K) (lk
 A K) 0 = bI (isOk A K) (lk A K) 0 ∧ bI (isOk A K) (dif K - cntK K 3) 0 = bI (isOk A K) (dif K - cntK K 3) 0 ∧ bI (isOk A K) (dif K + cntK K 3) 0 = bI (isOk A K) (dif K + cntK K 3) 0 ∧ b_2.v = b_2.v ∧
 b_2.v = lk A K ∧ True)) ∧ ∀ (b_3 : VI), b_3.v = lk A K → (bI (isOk A K) (lk A K) 0 != b_3.v) = false ∧ ltb 0 (↑(length A) : Int) = true ∧ inR i64 y = true ∧ (!(↑(length A) : Int) == 0) = true ∧ length
 A = length A ∧ length K = length K ∧ (length A = length A ∧ length K = length K ∧ length A < 100000000000 ∧ chk A K = 0 ∧ 0 ≤ Int.tmod y (↑(length A) : Int) ∧ Int.tmod y (↑(length A) : Int) <
 (↑(length A) : Int)) ∧ length A = length A ∧ length K = length K ∧ (length A = length A ∧ length K = length K ∧ length A < 100000000000 ∧ length K < 100000000000) ∧ length A = length A ∧ length K =
 length K ∧ (length A = length A ∧ length K = length K ∧ length A < 100000000000 ∧ length K < 100000000000) ∧ length (rotL A (Int.toNat (Int.tmod y (↑(length A) : Int)))) = length (rotL A (Int.toNat
 (Int.tmod y (↑(length A) : Int)))) ∧ length (rotL K (Int.toNat (Int.tmod y (↑(length A) : Int)))) = length (rotL K (Int.toNat (Int.tmod y (↑(length A) : Int)))) ∧ (length (rotL A (Int.toNat (Int.tmod
 y (↑(length A) : Int)))) = length (rotL A (Int.toNat (Int.tmod y (↑(length A) : Int)))) ∧ length (rotL K (Int.toNat (Int.tmod y (↑(length A) : Int)))) = length (rotL K (Int.toNat (Int.tmod y (↑(length
 A) : Int)))) ∧ length (rotL A (Int.toNat (Int.tmod y (↑(length A) : Int)))) < 1000000000000) ∧ length (rotL A (Int.toNat (Int.tmod y (↑(length A) : Int)))) = length (rotL A (Int.toNat (Int.tmod y
 (↑(length A) : Int)))) ∧ length (rotL K (Int.toNat (Int.tmod y (↑(length A) : Int)))) = length (rotL K (Int.toNat (Int.tmod y (↑(length A) : Int)))) ∧ (length (rotL A (Int.toNat (Int.tmod y (↑(length
 A) : Int)))) = length (rotL A (Int.toNat (Int.tmod y (↑(length A) : Int)))) ∧ length (rotL K (Int.toNat (Int.tmod y (↑(length A) : Int)))) = length (rotL K (Int.toNat (Int.tmod y (↑(length A) :
 Int)))) ∧ length (rotL A (Int.toNat (Int.tmod y (↑(length A) : Int)))) < 1000000000000) ∧ (!chk (rotL A (Int.toNat (Int.tmod y (↑(length A) : Int)))) (rotL K (Int.toNat (Int.tmod y (↑(length A) :
 Int)))) != 0) = true ∧ (!chk (rotL A (Int.toNat (Int.tmod y (↑(length A) : Int)))) (rotL K (Int.toNat (Int.tmod y (↑(length A) : Int)))) != 0) = true ∧ (!bI (isOk (rotL A (Int.toNat (Int.tmod y
 (↑(length A) : Int)))) (rotL K (Int.toNat (Int.tmod y (↑(length A) : Int))))) (lk (rotL A (Int.toNat (Int.tmod y (↑(length A) : Int)))) (rotL K (Int.toNat (Int.tmod y (↑(length A) : Int))))) 0 != bI
 (isOk A K) (lk A K) 0) = true ∧ (!bI (isOk (rotL A (Int.toNat (Int.tmod y (↑(length A) : Int)))) (rotL K (Int.toNat (Int.tmod y (↑(length A) : Int))))) (dif (rotL K (Int.toNat (Int.tmod y (↑(length A)
 : Int)))) - cntK (rotL K (Int.toNat (Int.tmod y (↑(length A) : Int)))) 3) 0 != bI (isOk A K) (dif K - cntK K 3) 0) = true ∧ (bI (isOk (rotL A (Int.toNat (Int.tmod y (↑(length A) : Int)))) (rotL K
 (Int.toNat (Int.tmod y (↑(length A) : Int))))) (dif (rotL K (Int.toNat (Int.tmod y (↑(length A) : Int)))) + cntK (rotL K (Int.toNat (Int.tmod y (↑(length A) : Int)))) 3) 0 != bI (isOk A K) (dif K +
 cntK K 3) 0) = false ∧ (length A = length (reverse A) ∧ length (mirK K) = length (mirK K) ∧ length (reverse A) < 1000000000000) ∧ (length A = length (reverse A) ∧ length (mirK K) = length (mirK K) ∧
 length (reverse A) < 1000000000000) ∧ (!chk (reverse A) (mirK K) != 0) = true ∧ (!chk (reverse A) (mirK K) != 0) = true ∧ (!bI (isOk (reverse A) (mirK K)) (lk (reverse A) (mirK K)) 0 != bI (isOk A K)
 (lk A K) 0) = true ∧ (!bI (isOk (reverse A) (mirK K)) (dif (mirK K) - cntK (mirK K) 3) 0 != bI (isOk A K) (dif K - cntK K 3) 0) = true ∧ (bI (isOk (reverse A) (mirK K)) (dif (mirK K) + cntK (mirK K)
 3) 0 != bI (isOk A K) (dif K + cntK K 3) 0) = false ∧ (length A = length (reverse A) ∧ length (ovK (mirK K)) = length (ovK (mirK K)) ∧ length (reverse A) < 1000000000000) ∧ (length A = length (reverse
 A) ∧ length (ovK (mirK K)) = length (ovK (mirK K)) ∧ length (reverse A) < 1000000000000) ∧ inR i64 (0 - bI (isOk (reverse A) (ovK (mirK K))) (dif (ovK (mirK K)) + cntK (ovK (mirK K)) 3) 0) = true ∧
 inR i64 (0 - bI (isOk (reverse A) (ovK (mirK K))) (dif (ovK (mirK K)) - cntK (ovK (mirK K)) 3) 0) = true ∧ (!chk (reverse A) (ovK (mirK K)) != 0) = true ∧ (!chk (reverse A) (ovK (mirK K)) != 0) = true
 ∧ (!bI (isOk (reverse A) (ovK (mirK K))) (lk (reverse A) (ovK (mirK K))) 0 != bI (isOk A K) (lk A K) 0) = true ∧ (!0 - bI (isOk (reverse A) (ovK (mirK K))) (dif (ovK (mirK K)) + cntK (ovK (mirK K)) 3)
 0 != bI (isOk A K) (dif K - cntK K 3) 0) = true ∧ (0 - bI (isOk (reverse A) (ovK (mirK K))) (dif (ovK (mirK K)) - cntK (ovK (mirK K)) 3) 0 != bI (isOk A K) (dif K + cntK K 3) 0) = false ∧ true = true
 ∧ True) (ofA c l ks) (ofK c ks)) := by kernel_rfl

theorem ob_o7z (c l : Int) (ks : List Int) (y : Int) : fnP (TD) G 10000 fe7 (.r [] 0 (.r [] 5 (.r [] 1 (.r [] 49 (.r [] 113 (.r [] 113 (.r [] 49 (.r [yL 515, yL 519, yL 523] 438 (.ff (.r [] 0 (.r [] 0 (.jn (jI 17 u8 (wS (ofA c l ks) (ofK c ks))) [71] [] (.cnd (.r [] 0 .nil) .nil) (fun b => (.jn (jI 17 u8 (wD (ofA c l ks) (ofK c ks))) [] [] (.rs 3 [] 0 74 (.rs 3 [] 0 77 (.rs 4 [] 3 81 (.rs 7 [] 31 88 (.rs 3 [] 0 91 (.rs 4 [] 3 95 (.r [] 31 (.cnd (.r [] 0 .nil) .nil)) (.r [] 15 (.lit (.r [] 0 .nil)))) (.r [] 63 (.lit (.r [] 0 .nil)))) (.r [] 3 (.lit .nil))) (.rs 10 [] 15 91 (.rs 4 [] 3 95 (.r [] 31 (.cnd (.r [] 0 .nil) .nil)) (.r [] 15 (.lit (.r [] 0 .nil)))) (.r [] 63 (.lit (.r [] 0 .nil))))) (.rs 14 [] 63 91 (.rs 4 [] 3 95 (.r [] 31 (.cnd (.r [] 0 .nil) .nil)) (.r [] 15 (.lit (.r [] 0 .nil)))) (.r [] 63 (.lit (.r [] 0 .nil))))) (.r [] 15 (.lit .nil))) (fun b_1 => (.r [] 0 (.jn (jI 17 u8 (wA (ofA c l ks) (ofK c ks))) [104] [] (.cnd (.r [] 0 .nil) .nil) (fun b_2 => (.r [] 1 (.jn (jI 17 u8 (lk (ofA c l ks) (ofK c ks))) [107] [] (.cnd (.r [] 0 .nil) .nil) (fun b_3 => (.r [] 0 (.ff (.r [] 3 (.r [] 0 (.ff (.r [] 35 (.r [] 0 (.un (.r [] 0 (.lit (.r [] 799 (.r [] 1823 (.r [] 0 (.lit (.r [yL 2243, yL 2247, yL 2252, yL 2257] 3510 (.ff (.r [] 1 (.un (.r [] 0 (.lit (.r [] 223 (.r [] 479 (.r [] 0 (.lit (.r [yL 2243, yL 2247, yL 2252, yL 2257] 3510 (.ff (.r [] 1 (.un (.r [] 0 (.lit (.r [] 223 (.r [] 479 (.r [] 0 (.lit (.r [] 0 (.r [yL 2243, yL 2247, yL 2252, yL 2257] 3510 (.ff (.r [] 1 (.un (.r [] 0 (.lit (.r [] 1 .nil))))))))))))))))))))))))))))))))))))))))))))))))))))))))))))))) ([fV c l ks, .int .u8 y]) ([.bool true]) ([]) = ((fun (A K : List Int) =>
 (length ks = length ks ∧ okK ks) ∧ length A = length A ∧ length A = length A ∧ length K = length K ∧ (length A = length A ∧ length K = length K ∧ length A < 1000000000000) ∧ length A = length A ∧
 length K = length K ∧ (length A = length A ∧ length K = length K ∧ length A < 1000000000000) ∧ length A = length A ∧ length K = length K ∧ (length A = length A ∧ length K = length K ∧ length A <
 1000000000000) ∧ length A = length A ∧ length K = length K ∧ (length A = length A ∧ length K = length K ∧ length A < 1000000000000) ∧ (!chk A K != 0) = true ∧ (!chk A K != 0) = true ∧ (!chk A K != 0)
 = true ∧ (chk A K != 0) = false ∧ ((ltb 0 (↑(length (bL (isOk A K) (shps A K))) : Int) = true → 1 = 1 ∧ c = c ∧ l = l ∧ Cont.ints u8 ks = Cont.ints u8 ks ∧ length ks = length ks ∧ length A = length A
 ∧ ofA c l ks = ofA c l ks ∧ length K = length K ∧ ofK c ks = ofK c ks ∧ 1 = 1 ∧ length A = length A ∧ length K = length K ∧ y = y ∧ 0 = 0 ∧ (↑(length A) : Int) = (↑(length A) : Int) ∧ bI (isOk A K)
 (lk A K) 0 = bI (isOk A K) (lk A K) 0 ∧ bI (isOk A K) (sumP true A) 0 = bI (isOk A K) (sumP true A) 0 ∧ bI (isOk A K) (sumP false A) 0 = bI (isOk A K) (sumP false A) 0 ∧ bI (isOk A K) (dif K - cntK K
 3) 0 = bI (isOk A K) (dif K - cntK K 3) 0 ∧ bI (isOk A K) (dif K + cntK K 3) 0 = bI (isOk A K) (dif K + cntK K 3) 0 ∧ iI 4 = 4 ∧ 4 = wS A K ∧ True) ∧ (ltb 0 (↑(length (bL (isOk A K) (shps A K))) :
 Int) = false → 1 = 1 ∧ c = c ∧ l = l ∧ Cont.ints u8 ks = Cont.ints u8 ks ∧ length ks = length ks ∧ length A = length A ∧ ofA c l ks = ofA c l ks ∧ length K = length K ∧ ofK c ks = ofK c ks ∧ 1 = 1 ∧
 length A = length A ∧ length K = length K ∧ y = y ∧ 0 = 0 ∧ (↑(length A) : Int) = (↑(length A) : Int) ∧ bI (isOk A K) (lk A K) 0 = bI (isOk A K) (lk A K) 0 ∧ bI (isOk A K) (sumP true A) 0 = bI (isOk A
 K) (sumP true A) 0 ∧ bI (isOk A K) (sumP false A) 0 = bI (isOk A K) (sumP false A) 0 ∧ bI (isOk A K) (dif K - cntK K 3) 0 = bI (isOk A K) (dif K - cntK K 3) 0 ∧ bI (isOk A K) (dif K + cntK K 3) 0 = bI
 (isOk A K) (dif K + cntK K 3) 0 ∧ iI 0 = 0 ∧ 0 = wS A K ∧ True)) ∧ ∀ (b : VI), b.v = wS A K → ((ltb 0 (↑(length A) : Int) = true → (leb (bI (isOk A K) (dif K - cntK K 3) 0) 2 = true → (leb 2 (bI (isOk
 A K) (dif K + cntK K 3) 0) = true → ((!Int.tmod (bI (isOk A K) (dif K - cntK K 3) 0) 2 == 0) = true → (leb (bI (isOk A K) (dif K - cntK K 3) 0) (-2) = true → (leb (-2) (bI (isOk A K) (dif K + cntK K
 3) 0) = true → ((!Int.tmod (bI (isOk A K) (dif K - cntK K 3) 0) 2 == 0) = true → 1 = 1 ∧ c = c ∧ l = l ∧ Cont.ints u8 ks = Cont.ints u8 ks ∧ length ks = length ks ∧ length A = length A ∧ ofA c l ks =
 ofA c l ks ∧ length K = length K ∧ ofK c ks = ofK c ks ∧ 1 = 1 ∧ length A = length A ∧ length K = length K ∧ y = y ∧ 0 = 0 ∧ (↑(length A) : Int) = (↑(length A) : Int) ∧ bI (isOk A K) (lk A K) 0 = bI
 (isOk A K) (lk A K) 0 ∧ bI (isOk A K) (sumP true A) 0 = bI (isOk A K) (sumP true A) 0 ∧ bI (isOk A K) (sumP false A) 0 = bI (isOk A K) (sumP false A) 0 ∧ bI (isOk A K) (dif K - cntK K 3) 0 = bI (isOk
 A K) (dif K - cntK K 3) 0 ∧ bI (isOk A K) (dif K + cntK K 3) 0 = bI (isOk A K) (dif K + cntK K 3) 0 ∧ iI 3 = 3 ∧ 3 = wD A K ∧ True) ∧ ((!Int.tmod (bI (isOk A K) (dif K - cntK K 3) 0) 2 == 0) = false →
 1 = 1 ∧ c = c ∧ l = l ∧ Cont.ints u8 ks = Cont.ints u8 ks ∧ length ks = length ks ∧ length A = length A ∧ ofA c l ks = ofA c l ks ∧ length K = length K ∧ ofK c ks = ofK c ks ∧ 1 = 1 ∧ length A =
 length A ∧ length K = length K ∧ y = y ∧ 0 = 0 ∧ (↑(length A) : Int) = (↑(length A) : Int) ∧ bI (isOk A K) (lk A K) 0 = bI (isOk A K) (lk A K) 0 ∧ bI (isOk A K) (sumP true A) 0 = bI (isOk A K) (sumP
 true A) 0 ∧ bI (isOk A K) (sumP false A) 0 = bI (isOk A K) (sumP false A) 0 ∧ bI (isOk A K) (dif K - cntK K 3) 0 = bI (isOk A K) (dif K - cntK K 3) 0 ∧ bI (isOk A K) (dif K + cntK K 3) 0 = bI (isOk A
 K) (dif K + cntK K 3) 0 ∧ b.v = b.v ∧ b.v = wD A K ∧ True)) ∧ (leb (-2) (bI (isOk A K) (dif K + cntK K 3) 0) = false → 1 = 1 ∧ c = c ∧ l = l ∧ Cont.ints u8 ks = Cont.ints u8 ks ∧ length ks = length ks
 ∧ length A = length A ∧ ofA c l ks = ofA c l ks ∧ length K = length K ∧ ofK c ks = ofK c ks ∧ 1 = 1 ∧ length A = length A ∧ length K = length K ∧ y = y ∧ 0 = 0 ∧ (↑(length A) : Int) = (↑(length A) :
 Int) ∧ bI (isOk A K) (lk A K) 0 = bI (isOk A K) (lk A K) 0 ∧ bI (isOk A K) (sumP true A) 0 = bI (isOk A K) (sumP true A) 0 ∧ bI (isOk A K) (sumP false A) 0 = bI (isOk A K) (sumP false A) 0 ∧ bI (isOk
 A K) (dif K - cntK K 3) 0 = bI (isOk A K) (dif K - cntK K 3) 0 ∧ bI (isOk A K) (dif K + cntK K 3) 0 = bI (isOk A K) (dif K + cntK K 3) 0 ∧ iI 3 = 3 ∧ 3 = wD A K ∧ True)) ∧ (leb (bI (isOk A K) (dif K -
 cntK K 3) 0) (-2) = false → 1 = 1 ∧ c = c ∧ l = l ∧ Cont.ints u8 ks = Cont.ints u8 ks ∧ length ks = length ks ∧ length A = length A ∧ ofA c l ks = ofA c l ks ∧ length K = length K ∧ ofK c ks = ofK c
 ks ∧ 1 = 1 ∧ length A = length A ∧ length K = length K ∧ y = y ∧ 0 = 0 ∧ (↑(length A) : Int) = (↑(length A) : Int) ∧ bI (isOk A K) (lk A K) 0 = bI (isOk A K) (lk A K) 0 ∧ bI (isOk A K) (sumP true A) 0
 = bI (isOk A K) (sumP true A) 0 ∧ bI (isOk A K) (sumP false A) 0 = bI (isOk A K) (sumP false A) 0 ∧ bI (isOk A K) (dif K - cntK K 3) 0 = bI (isOk A K) (dif K - cntK K 3) 0 ∧ bI (isOk A K) (dif K +
 cntK K 3) 0 = bI (isOk A K) (dif K + cntK K 3) 0 ∧ iI 3 = 3 ∧ 3 = wD A K ∧ True)) ∧ ((!Int.tmod (bI (isOk A K) (dif K - cntK K 3) 0) 2 == 0) = false → 1 = 1 ∧ c = c ∧ l = l ∧ Cont.ints u8 ks =
 Cont.ints u8 ks ∧ length ks = length ks ∧ length A = length A ∧ ofA c l ks = ofA c l ks ∧ length K = length K ∧ ofK c ks = ofK c ks ∧ 1 = 1 ∧ length A = length A ∧ length K = length K ∧ y = y ∧ 0 = 0
 ∧ (↑(length A) : Int) = (↑(length A) : Int) ∧ bI (isOk A K) (lk A K) 0 = bI (isOk A K) (lk A K) 0 ∧ bI (isOk A K) (sumP true A) 0 = bI (isOk A K) (sumP true A) 0 ∧ bI (isOk A K) (sumP false A) 0 = bI
 (isOk A K) (sumP false A) 0 ∧ bI (isOk A K) (dif K - cntK K 3) 0 = bI (isOk A K) (dif K - cntK K 3) 0 ∧ bI (isOk A K) (dif K + cntK K 3) 0 = bI (isOk A K) (dif K + cntK K 3) 0 ∧ b.v = b.v ∧ b.v = wD A
 K ∧ True)) ∧ (leb 2 (bI (isOk A K) (dif K + cntK K 3) 0) = false → (leb (bI (isOk A K) (dif K - cntK K 3) 0) (-2) = true → (leb (-2) (bI (isOk A K) (dif K + cntK K 3) 0) = true → ((!Int.tmod (bI (isOk
 A K) (dif K - cntK K 3) 0) 2 == 0) = true → 1 = 1 ∧ c = c ∧ l = l ∧ Cont.ints u8 ks = Cont.ints u8 ks ∧ length ks = length ks ∧ length A = length A ∧ ofA c l ks = ofA c l ks ∧ length K = length K ∧
 ofK c ks = ofK c ks ∧ 1 = 1 ∧ length A = length A ∧ length K = length K ∧ y = y ∧ 0 = 0 ∧ (↑(length A) : Int) = (↑(length A) : Int) ∧ bI (isOk A K) (lk A K) 0 = bI (isOk A K) (lk A K) 0 ∧ bI (isOk A
 K) (sumP true A) 0 = bI (isOk A K) (sumP true A) 0 ∧ bI (isOk A K) (sumP false A) 0 = bI (isOk A K) (sumP false A) 0 ∧ bI (isOk A K) (dif K - cntK K 3) 0 = bI (isOk A K) (dif K - cntK K 3) 0 ∧ bI
 (isOk A K) (dif K + cntK K 3) 0 = bI (isOk A K) (dif K + cntK K 3) 0 ∧ iI 3 = 3 ∧ 3 = wD A K ∧ True) ∧ ((!Int.tmod (bI (isOk A K) (dif K - cntK K 3) 0) 2 == 0) = false → 1 = 1 ∧ c = c ∧ l = l ∧
 Cont.ints u8 ks = Cont.ints u8 ks ∧ length ks = length ks ∧ length A = length A ∧ ofA c l ks = ofA c l ks ∧ length K = length K ∧ ofK c ks = ofK c ks ∧ 1 = 1 ∧ length A = length A ∧ length K = length
 K ∧ y = y ∧ 0 = 0 ∧ (↑(length A) : Int) = (↑(length A) : Int) ∧ bI (isOk A K) (lk A K) 0 = bI (isOk A K) (lk A K) 0 ∧ bI (isOk A K) (sumP true A) 0 = bI (isOk A K) (sumP true A) 0 ∧ bI (isOk A K)
 (sumP false A) 0 = bI (isOk A K) (sumP false A) 0 ∧ bI (isOk A K) (dif K - cntK K 3) 0 = bI (isOk A K) (dif K - cntK K 3) 0 ∧ bI (isOk A K) (dif K + cntK K 3) 0 = bI (isOk A K) (dif K + cntK K 3) 0 ∧
 b.v = b.v ∧ b.v = wD A K ∧ True)) ∧ (leb (-2) (bI (isOk A K) (dif K + cntK K 3) 0) = false → 1 = 1 ∧ c = c ∧ l = l ∧ Cont.ints u8 ks = Cont.ints u8 ks ∧ length ks = length ks ∧ length A = length A ∧
 ofA c l ks = ofA c l ks ∧ length K = length K ∧ ofK c ks = ofK c ks ∧ 1 = 1 ∧ length A = length A ∧ length K = length K ∧ y = y ∧ 0 = 0 ∧ (↑(length A) : Int) = (↑(length A) : Int) ∧ bI (isOk A K) (lk
 A K) 0 = bI (isOk A K) (lk A K) 0 ∧ bI (isOk A K) (sumP true A) 0 = bI (isOk A K) (sumP true A) 0 ∧ bI (isOk A K) (sumP false A) 0 = bI (isOk A K) (sumP false A) 0 ∧ bI (isOk A K) (dif K - cntK K 3) 0
 = bI (isOk A K) (dif K - cntK K 3) 0 ∧ bI (isOk A K) (dif K + cntK K 3) 0 = bI (isOk A K) (dif K + cntK K 3) 0 ∧ iI 3 = 3 ∧ 3 = wD A K ∧ True)) ∧ (leb (bI (isOk A K) (dif K - cntK K 3) 0) (-2) = false
 → 1 = 1 ∧ c = c ∧ l = l ∧ Cont.ints u8 ks = Cont.ints u8 ks ∧ length ks = length ks ∧ length A = length A ∧ ofA c l ks = ofA c l ks ∧ length K = length K ∧ ofK c ks = ofK c ks ∧ 1 = 1 ∧ length A =
 length A ∧ length K = length K ∧ y = y ∧ 0 = 0 ∧ (↑(length A) : Int) = (↑(length A) : Int) ∧ bI (isOk A K) (lk A K) 0 = bI (isOk A K) (lk A K) 0 ∧ bI (isOk A K) (sumP true A) 0 = bI (isOk A K) (sumP
 true A) 0 ∧ bI (isOk A K) (sumP false A) 0 = bI (isOk A K) (sumP false A) 0 ∧ bI (isOk A K) (dif K - cntK K 3) 0 = bI (isOk A K) (dif K - cntK K 3) 0 ∧ bI (isOk A K) (dif K + cntK K 3) 0 = bI (isOk A
 K) (dif K + cntK K 3) 0 ∧ iI 3 = 3 ∧ 3 = wD A K ∧ True))) ∧ (leb (bI (isOk A K) (dif K - cntK K 3) 0) 2 = false → (leb (bI (isOk A K) (dif K - cntK K 3) 0) (-2) = true → (leb (-2) (bI (isOk A K) (dif
 K + cntK K 3) 0) = true → ((!Int.tmod (bI (isOk A K) (dif K - cntK K 3) 0) 2 == 0) = true → 1 = 1 ∧ c = c ∧ l = l ∧ Cont.ints u8 ks = Cont.ints u8 ks ∧ length ks = length ks ∧ length A = length A ∧
 ofA c l ks = ofA c l ks ∧ length K = length K ∧ ofK c ks = ofK c ks ∧ 1 = 1 ∧ length A = length A ∧ length K = length K ∧ y = y ∧ 0 = 0 ∧ (↑(length A) : Int) = (↑(length A) : Int) ∧ bI (isOk A K) (lk
 A K) 0 = bI (isOk A K) (lk A K) 0 ∧ bI (isOk A K) (sumP true A) 0 = bI (isOk A K) (sumP true A) 0 ∧ bI (isOk A K) (sumP false A) 0 = bI (isOk A K) (sumP false A) 0 ∧ bI (isOk A K) (dif K - cntK K 3) 0
 = bI (isOk A K) (dif K - cntK K 3) 0 ∧ bI (isOk A K) (dif K + cntK K 3) 0 = bI (isOk A K) (dif K + cntK K 3) 0 ∧ iI 3 = 3 ∧ 3 = wD A K ∧ True) ∧ ((!Int.tmod (bI (isOk A K) (dif K - cntK K 3) 0) 2 ==
 0) = false → 1 = 1 ∧ c = c ∧ l = l ∧ Cont.ints u8 ks = Cont.ints u8 ks ∧ length ks = length ks ∧ length A = length A ∧ ofA c l ks = ofA c l ks ∧ length K = length K ∧ ofK c ks = ofK c ks ∧ 1 = 1 ∧
 length A = length A ∧ length K = length K ∧ y = y ∧ 0 = 0 ∧ (↑(length A) : Int) = (↑(length A) : Int) ∧ bI (isOk A K) (lk A K) 0 = bI (isOk A K) (lk A K) 0 ∧ bI (isOk A K) (sumP true A) 0 = bI (isOk A
 K) (sumP true A) 0 ∧ bI (isOk A K) (sumP false A) 0 = bI (isOk A K) (sumP false A) 0 ∧ bI (isOk A K) (dif K - cntK K 3) 0 = bI (isOk A K) (dif K - cntK K 3) 0 ∧ bI (isOk A K) (dif K + cntK K 3) 0 = bI
 (isOk A K) (dif K + cntK K 3) 0 ∧ b.v = b.v ∧ b.v = wD A K ∧ True)) ∧ (leb (-2) (bI (isOk A K) (dif K + cntK K 3) 0) = false → 1 = 1 ∧ c = c ∧ l = l ∧ Cont.ints u8 ks = Cont.ints u8 ks ∧ length ks =
 length ks ∧ length A = length A ∧ ofA c l ks = ofA c l ks ∧ length K = length K ∧ ofK c ks = ofK c ks ∧ 1 = 1 ∧ length A = length A ∧ length K = length K ∧ y = y ∧ 0 = 0 ∧ (↑(length A) : Int) =
 (↑(length A) : Int) ∧ bI (isOk A K) (lk A K) 0 = bI (isOk A K) (lk A K) 0 ∧ bI (isOk A K) (sumP true A) 0 = bI (isOk A K) (sumP true A) 0 ∧ bI (isOk A K) (sumP false A) 0 = bI (isOk A K) (sumP false
 A) 0 ∧ bI (isOk A K) (dif K - cntK K 3) 0 = bI (isOk A K) (dif K - cntK K 3) 0 ∧ bI (isOk A K) (dif K + cntK K 3) 0 = bI (isOk A K) (dif K + cntK K 3) 0 ∧ iI 3 = 3 ∧ 3 = wD A K ∧ True)) ∧ (leb (bI
 (isOk A K) (dif K - cntK K 3) 0) (-2) = false → 1 = 1 ∧ c = c ∧ l = l ∧ Cont.ints u8 ks = Cont.ints u8 ks ∧ length ks = length ks ∧ length A = length A ∧ ofA c l ks = ofA c l ks ∧ length K = length K
 ∧ ofK c ks = ofK c ks ∧ 1 = 1 ∧ length A = length A ∧ length K = length K ∧ y = y ∧ 0 = 0 ∧ (↑(length A) : Int) = (↑(length A) : Int) ∧ bI (isOk A K) (lk A K) 0 = bI (isOk A K) (lk A K) 0 ∧ bI (isOk A
 K) (sumP true A) 0 = bI (isOk A K) (sumP true A) 0 ∧ bI (isOk A K) (sumP false A) 0 = bI (isOk A K) (sumP false A) 0 ∧ bI (isOk A K) (dif K - cntK K 3) 0 = bI (isOk A K) (dif K - cntK K 3) 0 ∧ bI
 (isOk A K) (dif K + cntK K 3) 0 = bI (isOk A K) (dif K + cntK K 3) 0 ∧ iI 3 = 3 ∧ 3 = wD A K ∧ True))) ∧ (ltb 0 (↑(length A) : Int) = false → 1 = 1 ∧ c = c ∧ l = l ∧ Cont.ints u8 ks = Cont.ints u8 ks
 ∧ length ks = length ks ∧ length A = length A ∧ ofA c l ks = ofA c l ks ∧ length K = length K ∧ ofK c ks = ofK c ks ∧ 1 = 1 ∧ length A = length A ∧ length K = length K ∧ y = y ∧ 0 = 0 ∧ (↑(length A) :
 Int) = (↑(length A) : Int) ∧ bI (isOk A K) (lk A K) 0 = bI (isOk A K) (lk A K) 0 ∧ bI (isOk A K) (sumP true A) 0 = bI (isOk A K) (sumP true A) 0 ∧ bI (isOk A K) (sumP false A) 0 = bI (isOk A K) (sumP
 false A) 0 ∧ bI (isOk A K) (dif K - cntK K 3) 0 = bI (isOk A K) (dif K - cntK K 3) 0 ∧ bI (isOk A K) (dif K + cntK K 3) 0 = bI (isOk A K) (dif K + cntK K 3) 0 ∧ b.v = b.v ∧ b.v = wD A K ∧ True)) ∧ ∀
 (b_1 : VI), b_1.v = wD A K → (((bI (isOk A K) (sumP true A) 0 != bI (isOk A K) (sumP false A) 0) = true → 1 = 1 ∧ c = c ∧ l = l ∧ Cont.ints u8 ks = Cont.ints u8 ks ∧ length ks = length ks ∧ length A =
 length A ∧ ofA c l ks = ofA c l ks ∧ length K = length K ∧ ofK c ks = ofK c ks ∧ 1 = 1 ∧ length A = length A ∧ length K = length K ∧ y = y ∧ 0 = 0 ∧ (↑(length A) : Int) = (↑(length A) : Int) ∧ bI
 (isOk A K) (lk A K) 0 = bI (isOk A K) (lk A K) 0 ∧ bI (isOk A K) (dif K - cntK K 3) 0 = bI (isOk A K) (dif K - cntK K 3) 0 ∧ bI (isOk A K) (dif K + cntK K 3) 0 = bI (isOk A K) (dif K + cntK K 3) 0 ∧
 iI 2 = 2 ∧ 2 = wA A K ∧ True) ∧ ((bI (isOk A K) (sumP true A) 0 != bI (isOk A K) (sumP false A) 0) = false → 1 = 1 ∧ c = c ∧ l = l ∧ Cont.ints u8 ks = Cont.ints u8 ks ∧ length ks = length ks ∧ length
 A = length A ∧ ofA c l ks = ofA c l ks ∧ length K = length K ∧ ofK c ks = ofK c ks ∧ 1 = 1 ∧ length A = length A ∧ length K = length K ∧ y = y ∧ 0 = 0 ∧ (↑(length A) : Int) = (↑(length A) : Int) ∧ bI
 (isOk A K) (lk A K) 0 = bI (isOk A K) (lk A K) 0 ∧ bI (isOk A K) (dif K - cntK K 3) 0 = bI (isOk A K) (dif K - cntK K 3) 0 ∧ bI (isOk A K) (dif K + cntK K 3) 0 = bI (isOk A K) (dif K + cntK K 3) 0 ∧
 b_1.v = b_1.v ∧ b_1.v = wA A K ∧ True)) ∧ ∀ (b_2 : VI), b_2.v = wA A K → (((Int.tmod (↑(length A) : Int) 2 == 1) = true → 1 = 1 ∧ c = c ∧ l = l ∧ Cont.ints u8 ks = Cont.ints u8 ks ∧ length ks = length
 ks ∧ length A = length A ∧ ofA c l ks = ofA c l ks ∧ length K = length K ∧ ofK c ks = ofK c ks ∧ 1 = 1 ∧ length A = length A ∧ length K = length K ∧ y = y ∧ 0 = 0 ∧ (↑(length A) : Int) = (↑(length A)
 : Int) ∧ bI (isOk A K) (lk A K) 0 = bI (isOk A K) (lk A K) 0 ∧ bI (isOk A K) (dif K - cntK K 3) 0 = bI (isOk A K) (dif K - cntK K 3) 0 ∧ bI (isOk A K) (dif K + cntK K 3) 0 = bI (isOk A K) (dif K +
 cntK K 3) 0 ∧ iI 1 = 1 ∧ 1 = lk A K ∧ True) ∧ ((Int.tmod (↑(length A) : Int) 2 == 1) = false → 1 = 1 ∧ c = c ∧ l = l ∧ Cont.ints u8 ks = Cont.ints u8 ks ∧ length ks = length ks ∧ length A = length A ∧
 ofA c l ks = ofA c l ks ∧ length K = length K ∧ ofK c ks = ofK c ks ∧ 1 = 1 ∧ length A = length A ∧ length K = length K ∧ y = y ∧ 0 = 0 ∧ (↑(length A) : Int) = (↑(length A) : Int) ∧ bI (isOk A K) (lk
 A K) 0 = bI (isOk A K) (lk A K) 0 ∧ bI (isOk A K) (dif K - cntK K 3) 0 = bI (isOk A K) (dif K - cntK K 3) 0 ∧ bI (isOk A K) (dif K + cntK K 3) 0 = bI (isOk A K) (dif K + cntK K 3) 0 ∧ b_2.v = b_2.v ∧
 b_2.v = lk A K ∧ True)) ∧ ∀ (b_3 : VI), b_3.v = lk A K → (bI (isOk A K) (lk A K) 0 != b_3.v) = false ∧ ltb 0 (↑(length A) : Int) = false ∧ length A = length A ∧ length K = length K ∧ (length A =
 length A ∧ length K = length K ∧ length A < 100000000000 ∧ length K < 100000000000) ∧ length A = length A ∧ length K = length K ∧ (length A = length A ∧ length K = length K ∧ length A < 100000000000 ∧
 length K < 100000000000) ∧ length A = length A ∧ length K = length K ∧ (length A = length A ∧ length K = length K ∧ length A < 1000000000000) ∧ length A = length A ∧ length K = length K ∧ (length A =
 length A ∧ length K = length K ∧ length A < 1000000000000) ∧ (!chk A K != 0) = true ∧ (!chk A K != 0) = true ∧ (!bI (isOk A K) (lk A K) 0 != bI (isOk A K) (lk A K) 0) = true ∧ (!bI (isOk A K) (dif K -
 cntK K 3) 0 != bI (isOk A K) (dif K - cntK K 3) 0) = true ∧ (bI (isOk A K) (dif K + cntK K 3) 0 != bI (isOk A K) (dif K + cntK K 3) 0) = false ∧ (length A = length (reverse A) ∧ length (mirK K) =
 length (mirK K) ∧ length (reverse A) < 1000000000000) ∧ (length A = length (reverse A) ∧ length (mirK K) = length (mirK K) ∧ length (reverse A) < 1000000000000) ∧ (!chk (reverse A) (mirK K) != 0) =
 true ∧ (!chk (reverse A) (mirK K) != 0) = true ∧ (!bI (isOk (reverse A) (mirK K)) (lk (reverse A) (mirK K)) 0 != bI (isOk A K) (lk A K) 0) = true ∧ (!bI (isOk (reverse A) (mirK K)) (dif (mirK K) -
 cntK (mirK K) 3) 0 != bI (isOk A K) (dif K - cntK K 3) 0) = true ∧ (bI (isOk (reverse A) (mirK K)) (dif (mirK K) + cntK (mirK K) 3) 0 != bI (isOk A K) (dif K + cntK K 3) 0) = false ∧ (length A =
 length (reverse A) ∧ length (ovK (mirK K)) = length (ovK (mirK K)) ∧ length (reverse A) < 1000000000000) ∧ (length A = length (reverse A) ∧ length (ovK (mirK K)) = length (ovK (mirK K)) ∧ length
 (reverse A) < 1000000000000) ∧ inR i64 (0 - bI (isOk (reverse A) (ovK (mirK K))) (dif (ovK (mirK K)) + cntK (ovK (mirK K)) 3) 0) = true ∧ inR i64 (0 - bI (isOk (reverse A) (ovK (mirK K))) (dif (ovK
 (mirK K)) - cntK (ovK (mirK K)) 3) 0) = true ∧ (!chk (reverse A) (ovK (mirK K)) != 0) = true ∧ (!chk (reverse A) (ovK (mirK K)) != 0) = true ∧ (!bI (isOk (reverse A) (ovK (mirK K))) (lk (reverse A)
 (ovK (mirK K))) 0 != bI (isOk A K) (lk A K) 0) = true ∧ (!0 - bI (isOk (reverse A) (ovK (mirK K))) (dif (ovK (mirK K)) + cntK (ovK (mirK K)) 3) 0 != bI (isOk A K) (dif K - cntK K 3) 0) = true ∧ (0 -
 bI (isOk (reverse A) (ovK (mirK K))) (dif (ovK (mirK K)) - cntK (ovK (mirK K)) 3) 0 != bI (isOk A K) (dif K + cntK K 3) 0) = false ∧ true = true ∧ True) (ofA c l ks) (ofK c ks)) := by kernel_rfl

end Go.Proofs.YtidpllnmghgomaaDoor.X
