/-
 What is to be shown of the functions (made by a program).
-/
import Derived.Test.YtfpcbimohikhmaaDoorD3Z
import Derived.KernelRfl
set_option maxRecDepth 1000000
set_option linter.unusedVariables false
namespace Go.Proofs.YtfpcbimohikhmaaDoor.X
open Go Go.Ab
open List IntKind

theorem ob_o20 (w h : Int) : fnP (CU) G 10000 fe20 (.r [] 0 (.r [] 0 (.r [] 0 (.gho 3 9001 2 (Cont.vals []) (.lp (l20 w h) [] [] (fun b => (.r [] 5 (.cnd (.r [] 0 (.lp (m20 w h b.i) [] [] (fun b_1 => (.r [] 0 (.cnd (.r [] 1 (.cnd (.r [] 8 (.r [] 0 .nil)) (.r [] 0 .nil))) (.r [] 0 .nil)))))) (.r [] 0 (.frz 2 0 .nil)))))))))) ([.agg [.int .i64 w, .int .i64 h]]) ([unV w h]) ([]) = (
 1 = 1 ∧ w = w ∧ h = h ∧ 0 = 0 ∧ ([] : List AV) = [] ∧ 0 = 0 ∧ 0 = 0 ∧ iI 0 = 0 ∧ (∃ (k : Nat), 0 = (↑k : Int) ∧ k ≤ Int.toNat (4 * w * h) ∧ [] = flatU (unL w h (3 * k)) ∧ 0 = length (unL w h (3 * k)))
 ∧ ∀ (b : L20), (∃ (k : Nat), b.i = (↑k : Int) ∧ k ≤ Int.toNat (4 * w * h) ∧ b.l = flatU (unL w h (3 * k)) ∧ b.n = length (unL w h (3 * k))) → inR i64 (4 * w) = true ∧ inR i64 (4 * w * h) = true ∧ (ltb
 b.i (4 * w * h) = true → 1 = 1 ∧ w = w ∧ h = h ∧ b.n = b.n ∧ b.l = b.l ∧ 0 = 0 ∧ b.n = b.n ∧ b.i = b.i ∧ iI 0 = 0 ∧ (∃ (k : Nat), 0 = (↑k : Int) ∧ k ≤ 3 ∧ b.l = flatU (unL w h (3 * Int.toNat b.i + k))
 ∧ b.n = length (unL w h (3 * Int.toNat b.i + k))) ∧ ∀ (b_1 : L20), (∃ (k : Nat), b_1.i = (↑k : Int) ∧ k ≤ 3 ∧ b_1.l = flatU (unL w h (3 * Int.toNat b.i + k)) ∧ b_1.n = length (unL w h (3 * Int.toNat
 b.i + k))) → (ltb b_1.i 3 = true → ((1 ≤ w ∧ w ≤ 5 ∧ 1 ≤ h ∧ h ≤ 5) ∧ 0 ≤ b.i ∧ b.i < 4 * w * h ∧ 0 ≤ b_1.i ∧ b_1.i ≤ 2) ∧ (ltb b.i (nbI w h b.i b_1.i) = true → inR u8 b_1.i = true ∧ b_1.n = b_1.n ∧
 len' ((b_1.n + 1) * 16) 140737488355328 = true ∧ inR i64 (b_1.i + 1) = true ∧ 1 = 1 ∧ w = w ∧ h = h ∧ b_1.n + 1 = b_1.n + 1 ∧ b_1.l ++ [AV.int i64 b.i, AV.int u8 b_1.i] = b_1.l ++ [AV.int i64 b.i,
 AV.int u8 b_1.i] ∧ 0 = 0 ∧ b_1.n + 1 = b_1.n + 1 ∧ b.i = b.i ∧ b_1.i + 1 = b_1.i + 1 ∧ (∃ (k : Nat), b_1.i + 1 = (↑k : Int) ∧ k ≤ 3 ∧ b_1.l ++ [AV.int i64 b.i, AV.int u8 b_1.i] = flatU (unL w h (3 *
 Int.toNat b.i + k)) ∧ b_1.n + 1 = length (unL w h (3 * Int.toNat b.i + k))) ∧ 3 - Int.toNat (b_1.i + 1) < 3 - Int.toNat b_1.i ∧ True) ∧ (ltb b.i (nbI w h b.i b_1.i) = false → inR i64 (b_1.i + 1) =
 true ∧ 1 = 1 ∧ w = w ∧ h = h ∧ b_1.n = b_1.n ∧ b_1.l = b_1.l ∧ 0 = 0 ∧ b_1.n = b_1.n ∧ b.i = b.i ∧ b_1.i + 1 = b_1.i + 1 ∧ (∃ (k : Nat), b_1.i + 1 = (↑k : Int) ∧ k ≤ 3 ∧ b_1.l = flatU (unL w h (3 *
 Int.toNat b.i + k)) ∧ b_1.n = length (unL w h (3 * Int.toNat b.i + k))) ∧ 3 - Int.toNat (b_1.i + 1) < 3 - Int.toNat b_1.i ∧ True)) ∧ (ltb b_1.i 3 = false → inR i64 (b.i + 1) = true ∧ 1 = 1 ∧ w = w ∧ h
 = h ∧ b_1.n = b_1.n ∧ b_1.l = b_1.l ∧ 0 = 0 ∧ b_1.n = b_1.n ∧ b.i + 1 = b.i + 1 ∧ (∃ (k : Nat), b.i + 1 = (↑k : Int) ∧ k ≤ Int.toNat (4 * w * h) ∧ b_1.l = flatU (unL w h (3 * k)) ∧ b_1.n = length (unL
 w h (3 * k))) ∧ Int.toNat (4 * w * h) - Int.toNat (b.i + 1) < Int.toNat (4 * w * h) - Int.toNat b.i ∧ True)) ∧ (ltb b.i (4 * w * h) = false → b.n = b.n ∧ Cont.vals b.l = Cont.vals (flatU (units w h))
 ∧ b.n = length (units w h) ∧ True)) := by kernel_rfl

theorem ob_o23 (w h : Int) (ks : List Int) : fnP (CW) G 10000 fe23 (.r [] 0 (.r [] 1 (.r [] 3 (.r [] 0 (.ghc 194 2 9001 3 (Cont.vals []) (.lp (l23 w h (units w h) ks) [] [] (fun b => (.rs 5 [] 0 16 (.r [] 3 (.cnd (.r [] 0 (.cnd (.r [yL 512, (518, .auto, Dr.val [AV.int i64 (uC (units w h) b.i)]), (523, .auto, Dr.val [AV.int u8 (uE (units w h) b.i)])] 98305 (.r [] 0 .nil)) (.r [] 0 .nil))) (.r [] 3 .nil))) (.r [] 3 (.lit (.r [] 3 .nil))))))))))) ([.agg [.int .i64 w, .int .i64 h], .imm (.ints .u8 ks) ks.length none]) ([.agg [.int .i64 w, .int .i64 h, .full 0 (wthL (units w h) ks).length]]) ([blkC (flatC (wthL (units w h) ks)) (wthL (units w h) ks).length]) = (
 (1 ≤ w ∧ w ≤ 5 ∧ 1 ≤ h ∧ h ≤ 5) ∧ 1 = 1 ∧ w = w ∧ h = h ∧ 1 = 1 ∧ iI 0 = 0 ∧ iI 0 = 0 ∧ 1 = 1 ∧ w = w ∧ h = h ∧ 0 = 0 ∧ 0 = 0 ∧ ([] : List AV) = [] ∧ Cont.ints u8 ks = Cont.ints u8 ks ∧ length ks =
 length ks ∧ 0 = 0 ∧ Cont.vals (flatU (units w h)) = Cont.vals (flatU (units w h)) ∧ length (units w h) = length (units w h) ∧ 0 = 0 ∧ iI 0 = 0 ∧ (∃ (k : Nat), 0 = (↑k : Int) ∧ k ≤ length (units w h) ∧
 k ≤ length ks ∧ [] = flatC (wthL (take k (units w h)) (take k ks)) ∧ 0 = length (wthL (take k (units w h)) (take k ks))) ∧ ∀ (b : L23), (∃ (k : Nat), b.i = (↑k : Int) ∧ k ≤ length (units w h) ∧ k ≤
 length ks ∧ b.l = flatC (wthL (take k (units w h)) (take k ks)) ∧ b.n = length (wthL (take k (units w h)) (take k ks))) → (ltb b.i (↑(length (units w h)) : Int) = true → (ltb b.i (↑(length ks) : Int)
 = true → leb 0 b.i = true ∧ ltb b.i (↑(length ks) : Int) = true ∧ ltn 0 (Cont.size (Cont.ints u8 ks)) = true ∧ ltn 0 (Cont.size (Cont.ints u8 (drop (Int.toNat b.i) ks))) = true ∧ ((getD (drop
 (Int.toNat b.i) ks) 0 0 != 0) = true → leb 0 b.i = true ∧ ltb b.i (↑(length (units w h)) : Int) = true ∧ ltn 0 (Cont.size (Cont.vals (flatU (units w h)))) = true ∧ (drop 0 (drop (Int.toNat b.i * 2)
 (flatU (units w h))))[0]? = some (AV.int i64 (uC (units w h) b.i)) ∧ leb 0 b.i = true ∧ ltb b.i (↑(length (units w h)) : Int) = true ∧ ltn 0 (Cont.size (Cont.vals (flatU (units w h)))) = true ∧ (drop
 1 (drop (Int.toNat b.i * 2) (flatU (units w h))))[0]? = some (AV.int u8 (uE (units w h) b.i)) ∧ leb 0 b.i = true ∧ ltb b.i (↑(length ks) : Int) = true ∧ ltn 0 (Cont.size (Cont.ints u8 ks)) = true ∧
 ltn 0 (Cont.size (Cont.ints u8 (drop (Int.toNat b.i) ks))) = true ∧ b.n = b.n ∧ len' ((b.n + 1) * 16) 140737488355328 = true ∧ inR i64 (b.i + 1) = true ∧ 1 = 1 ∧ w = w ∧ h = h ∧ 1 = 1 ∧ iI 0 = 0 ∧ iI
 0 = 0 ∧ 1 = 1 ∧ w = w ∧ h = h ∧ b.n + 1 = b.n + 1 ∧ b.n + 1 = b.n + 1 ∧ b.l ++ [AV.int i64 (uC (units w h) b.i), AV.int u8 (uE (units w h) b.i), AV.int u8 (getD (drop (Int.toNat b.i) ks) 0 0)] = b.l
 ++ [AV.int i64 (uC (units w h) b.i), AV.int u8 (uE (units w h) b.i), AV.int u8 (getD (drop (Int.toNat b.i) ks) 0 0)] ∧ Cont.ints u8 ks = Cont.ints u8 ks ∧ length ks = length ks ∧ 0 = 0 ∧ Cont.vals
 (flatU (units w h)) = Cont.vals (flatU (units w h)) ∧ length (units w h) = length (units w h) ∧ 0 = 0 ∧ b.i + 1 = b.i + 1 ∧ (∃ (k : Nat), b.i + 1 = (↑k : Int) ∧ k ≤ length (units w h) ∧ k ≤ length ks
 ∧ b.l ++ [AV.int i64 (uC (units w h) b.i), AV.int u8 (uE (units w h) b.i), AV.int u8 (getD (drop (Int.toNat b.i) ks) 0 0)] = flatC (wthL (take k (units w h)) (take k ks)) ∧ b.n + 1 = length (wthL
 (take k (units w h)) (take k ks))) ∧ length (units w h) - Int.toNat (b.i + 1) < length (units w h) - Int.toNat b.i ∧ True) ∧ ((getD (drop (Int.toNat b.i) ks) 0 0 != 0) = false → inR i64 (b.i + 1) =
 true ∧ 1 = 1 ∧ w = w ∧ h = h ∧ 1 = 1 ∧ iI 0 = 0 ∧ iI 0 = 0 ∧ 1 = 1 ∧ w = w ∧ h = h ∧ b.n = b.n ∧ b.n = b.n ∧ b.l = b.l ∧ Cont.ints u8 ks = Cont.ints u8 ks ∧ length ks = length ks ∧ 0 = 0 ∧ Cont.vals
 (flatU (units w h)) = Cont.vals (flatU (units w h)) ∧ length (units w h) = length (units w h) ∧ 0 = 0 ∧ b.i + 1 = b.i + 1 ∧ (∃ (k : Nat), b.i + 1 = (↑k : Int) ∧ k ≤ length (units w h) ∧ k ≤ length ks
 ∧ b.l = flatC (wthL (take k (units w h)) (take k ks)) ∧ b.n = length (wthL (take k (units w h)) (take k ks))) ∧ length (units w h) - Int.toNat (b.i + 1) < length (units w h) - Int.toNat b.i ∧ True)) ∧
 (ltb b.i (↑(length ks) : Int) = false → b.n = length (wthL (units w h) ks) ∧ b.l = flatC (wthL (units w h) ks) ∧ w = w ∧ h = h ∧ b.n = length (wthL (units w h) ks) ∧ True)) ∧ (ltb b.i (↑(length (units
 w h)) : Int) = false → b.n = length (wthL (units w h) ks) ∧ b.l = flatC (wthL (units w h) ks) ∧ w = w ∧ h = h ∧ b.n = length (wthL (units w h) ks) ∧ True)) := by kernel_rfl

theorem ob_o17 (w h i e : Int) : fnP (CW) G 10000 fe17 (.r [] 0 (.rs 3 [] 0 12 (.r [] 63 (.lit (.r [] 0 .nil))) (.rs 10 [] 53 22 (.r [] 15 (.lit (.r [] 0 .nil))) (.rs 4 [] 3 26 (.r [] 3 (.lit (.r [] 0 .nil))) (.r [] 3 (.cnd (.r [] 0 .nil) (.r [] 1 (.r [] 1 (.r [] 0 (.lp (l17 (3 * min i (nbI w h i e) + e) (units w h)) [] [] (fun b => (.r [] 0 (.cnd (.rs 3 [] 0 44 (.rs 11 [(583, .auto, Dr.val [AV.int i64 (uC (units w h) b.i)])] 48 55 (.r [(594, .auto, Dr.val [AV.int u8 (uE (units w h) b.i)])] 96 (.cnd (.r [] 0 .nil) (.r [] 0 .nil))) (.r [(594, .auto, Dr.val [AV.int u8 (uE (units w h) b.i)])] 3 (.lit (.r [] 0 .nil)))) (.r [(583, .auto, Dr.val [AV.int i64 (uC (units w h) b.i)]), (594, .auto, Dr.val [AV.int u8 (uE (units w h) b.i)])] 15 (.lit (.r [] 0 .nil)))) (.r [] 0 .nil)))))))))))))) ([.agg [.int .i64 w, .int .i64 h], .int .i64 i, .int .i64 e]) ([.int .i64 (unI w h i e)]) ([]) = (
 (ltb i 0 = true → -1 = unI w h i e ∧ True) ∧ (ltb i 0 = false → inR i64 (4 * w) = true ∧ inR i64 (4 * w * h) = true ∧ (leb (4 * w * h) i = true → -1 = unI w h i e ∧ True) ∧ (leb (4 * w * h) i = false
 → (ltb e 0 = true → -1 = unI w h i e ∧ True) ∧ (ltb e 0 = false → (ltb 2 e = true → -1 = unI w h i e ∧ True) ∧ (ltb 2 e = false → ((1 ≤ w ∧ w ≤ 5 ∧ 1 ≤ h ∧ h ≤ 5) ∧ 0 ≤ i ∧ i < 4 * w * h ∧ 0 ≤ e ∧ e ≤
 2) ∧ (1 ≤ w ∧ w ≤ 5 ∧ 1 ≤ h ∧ h ≤ 5) ∧ 1 = 1 ∧ w = w ∧ h = h ∧ i = i ∧ e = e ∧ nbI w h i e = nbI w h i e ∧ Cont.vals (flatU (units w h)) = Cont.vals (flatU (units w h)) ∧ length (units w h) = length
 (units w h) ∧ iI 0 = 0 ∧ (∃ (n : Nat), 0 = (↑n : Int) ∧ n ≤ length (units w h) ∧ idxL (3 * min i (nbI w h i e) + e) (drop n (units w h)) (↑n : Int) = idxL (3 * min i (nbI w h i e) + e) (units w h) 0)
 ∧ ∀ (b : L1), (∃ (n : Nat), b.i = (↑n : Int) ∧ n ≤ length (units w h) ∧ idxL (3 * min i (nbI w h i e) + e) (drop n (units w h)) (↑n : Int) = idxL (3 * min i (nbI w h i e) + e) (units w h) 0) → (ltb
 b.i (↑(length (units w h)) : Int) = true → (leb 0 (nbI w h i e) = true → leb 0 b.i = true ∧ ltb b.i (↑(length (units w h)) : Int) = true ∧ ltn 0 (Cont.size (Cont.vals (flatU (units w h)))) = true ∧
 (drop 0 (drop (Int.toNat b.i * 2) (flatU (units w h))))[0]? = some (AV.int i64 (uC (units w h) b.i)) ∧ ((uC (units w h) b.i == if nbI w h i e < i then nbI w h i e else i) = true → leb 0 b.i = true ∧
 ltb b.i (↑(length (units w h)) : Int) = true ∧ ltn 0 (Cont.size (Cont.vals (flatU (units w h)))) = true ∧ (drop 1 (drop (Int.toNat b.i * 2) (flatU (units w h))))[0]? = some (AV.int u8 (uE (units w h)
 b.i)) ∧ inR i64 (uE (units w h) b.i) = true ∧ ((uE (units w h) b.i == e) = true → b.i = unI w h i e ∧ True) ∧ ((uE (units w h) b.i == e) = false → inR i64 (b.i + 1) = true ∧ 1 = 1 ∧ w = w ∧ h = h ∧ i
 = i ∧ e = e ∧ nbI w h i e = nbI w h i e ∧ Cont.vals (flatU (units w h)) = Cont.vals (flatU (units w h)) ∧ length (units w h) = length (units w h) ∧ b.i + 1 = b.i + 1 ∧ (∃ (n : Nat), b.i + 1 = (↑n :
 Int) ∧ n ≤ length (units w h) ∧ idxL (3 * min i (nbI w h i e) + e) (drop n (units w h)) (↑n : Int) = idxL (3 * min i (nbI w h i e) + e) (units w h) 0) ∧ length (units w h) - Int.toNat (b.i + 1) <
 length (units w h) - Int.toNat b.i ∧ True)) ∧ ((uC (units w h) b.i == if nbI w h i e < i then nbI w h i e else i) = false → inR i64 (b.i + 1) = true ∧ 1 = 1 ∧ w = w ∧ h = h ∧ i = i ∧ e = e ∧ nbI w h i
 e = nbI w h i e ∧ Cont.vals (flatU (units w h)) = Cont.vals (flatU (units w h)) ∧ length (units w h) = length (units w h) ∧ b.i + 1 = b.i + 1 ∧ (∃ (n : Nat), b.i + 1 = (↑n : Int) ∧ n ≤ length (units w
 h) ∧ idxL (3 * min i (nbI w h i e) + e) (drop n (units w h)) (↑n : Int) = idxL (3 * min i (nbI w h i e) + e) (units w h) 0) ∧ length (units w h) - Int.toNat (b.i + 1) < length (units w h) - Int.toNat
 b.i ∧ True)) ∧ (leb 0 (nbI w h i e) = false → inR i64 (b.i + 1) = true ∧ 1 = 1 ∧ w = w ∧ h = h ∧ i = i ∧ e = e ∧ nbI w h i e = nbI w h i e ∧ Cont.vals (flatU (units w h)) = Cont.vals (flatU (units w
 h)) ∧ length (units w h) = length (units w h) ∧ b.i + 1 = b.i + 1 ∧ (∃ (n : Nat), b.i + 1 = (↑n : Int) ∧ n ≤ length (units w h) ∧ idxL (3 * min i (nbI w h i e) + e) (drop n (units w h)) (↑n : Int) =
 idxL (3 * min i (nbI w h i e) + e) (units w h) 0) ∧ length (units w h) - Int.toNat (b.i + 1) < length (units w h) - Int.toNat b.i ∧ True)) ∧ (ltb b.i (↑(length (units w h)) : Int) = false → -1 = unI w
 h i e ∧ True)))))) := by kernel_rfl

theorem ob_o22 (w h w' h' : Int) (a b : List Cr) : fnP (T0) G 10000 fe22 (.r [] 0 (.rs 6 [] 3 11 (.r [] 3 (.lit (.r [] 0 .nil))) (.r [] 15 (.cnd (.r [] 0 .nil) (.r [] 0 (.lp (l22 a b) [] [] (fun b_1 => (.r [] 1 (.cnd (.r [(452, .auto, Dr.val (crV a b_1.i)), (457, .auto, Dr.val (crV b b_1.i))] 129 (.cnd (.r [] 0 .nil) (.r [] 0 .nil))) (.r [] 0 .nil)))))))))) ([patV w h a, patV w' h' b]) ([.int .i64 (difI w h w' h' a b)]) ([]) = (
 ((!(w == w' && h == h')) = true → 1 = difI w h w' h' a b ∧ True) ∧ ((!(w == w' && h == h')) = false → (((↑(length a) : Int) != (↑(length b) : Int)) = true → 1 = difI w h w' h' a b ∧ True) ∧
 (((↑(length a) : Int) != (↑(length b) : Int)) = false → 1 = 1 ∧ w = w ∧ h = h ∧ Cont.vals (flatC a) = Cont.vals (flatC a) ∧ length a = length a ∧ 1 = 1 ∧ w' = w' ∧ h' = h' ∧ Cont.vals (flatC b) =
 Cont.vals (flatC b) ∧ length b = length b ∧ 0 = 0 ∧ 0 = 0 ∧ iI 0 = 0 ∧ (∃ (n : Nat), 0 = (↑n : Int) ∧ n ≤ length a ∧ eqC (drop n a) (drop n b) = eqC a b) ∧ ∀ (b_1 : L1), (∃ (n : Nat), b_1.i = (↑n :
 Int) ∧ n ≤ length a ∧ eqC (drop n a) (drop n b) = eqC a b) → (ltb b_1.i (↑(length a) : Int) = true → leb 0 b_1.i = true ∧ ltb b_1.i (↑(length a) : Int) = true ∧ ltn 0 (Cont.size (Cont.vals (flatC a)))
 = true ∧ (drop (Int.toNat b_1.i * 3) (flatC a))[0]? = some (AV.int i64 (cC a b_1.i)) ∧ (drop (Int.toNat b_1.i * 3) (flatC a))[1]? = some (AV.int u8 (cE a b_1.i)) ∧ (drop (Int.toNat b_1.i * 3) (flatC
 a))[2]? = some (AV.int u8 (cK a b_1.i)) ∧ leb 0 b_1.i = true ∧ ltb b_1.i (↑(length b) : Int) = true ∧ ltn 0 (Cont.size (Cont.vals (flatC b))) = true ∧ (drop (Int.toNat b_1.i * 3) (flatC b))[0]? = some
 (AV.int i64 (cC b b_1.i)) ∧ (drop (Int.toNat b_1.i * 3) (flatC b))[1]? = some (AV.int u8 (cE b b_1.i)) ∧ (drop (Int.toNat b_1.i * 3) (flatC b))[2]? = some (AV.int u8 (cK b b_1.i)) ∧ ((!(cC a b_1.i ==
 cC b b_1.i && (cE a b_1.i == cE b b_1.i && cK a b_1.i == cK b b_1.i))) = true → 1 = difI w h w' h' a b ∧ True) ∧ ((!(cC a b_1.i == cC b b_1.i && (cE a b_1.i == cE b b_1.i && cK a b_1.i == cK b
 b_1.i))) = false → inR i64 (b_1.i + 1) = true ∧ 1 = 1 ∧ w = w ∧ h = h ∧ Cont.vals (flatC a) = Cont.vals (flatC a) ∧ length a = length a ∧ 1 = 1 ∧ w' = w' ∧ h' = h' ∧ Cont.vals (flatC b) = Cont.vals
 (flatC b) ∧ length b = length b ∧ 0 = 0 ∧ 0 = 0 ∧ b_1.i + 1 = b_1.i + 1 ∧ (∃ (n : Nat), b_1.i + 1 = (↑n : Int) ∧ n ≤ length a ∧ eqC (drop n a) (drop n b) = eqC a b) ∧ length a - Int.toNat (b_1.i + 1)
 < length a - Int.toNat b_1.i ∧ True)) ∧ (ltb b_1.i (↑(length a) : Int) = false → 0 = difI w h w' h' a b ∧ True)))) := by kernel_rfl

theorem ob_o28 (k : Int) : fnP (T0) G 10000 fe28 (.r [] 0 (.r [] 0 (.cnd (.r [] 0 .nil) (.r [] 0 (.cnd (.r [] 0 .nil) (.r [] 0 .nil)))))) ([.int .u8 k]) ([.int .u8 (otK k)]) ([]) = (
 ((k == 1) = true → 2 = otK k ∧ True) ∧ ((k == 1) = false → ((k == 2) = true → 1 = otK k ∧ True) ∧ ((k == 2) = false → k = otK k ∧ True))) := by kernel_rfl

theorem ob_o19 (w h : Int) (cs : List Cr) : fnP (CW) G 10000 fe19 (.r [] 0 (.r [] 1 (.r [] 1 (.r [] 0 (.lp (l19 (units w h) cs) [] [] (fun b => (.r [] 0 (.cnd (.r [] 0 (.lp (m19 (units w h) cs b.i) [] [] (fun b_1 => (.r [] 1 (.cnd (.r [(645, .auto, Dr.val [AV.int i64 (cC cs b_1.i)]), (650, .auto, Dr.val [AV.int i64 (uC (units w h) b.i)]), yM 653, yM 654, yM 655, yM 656, yM 657, (658, .may, Dr.val [AV.int u8 (cE cs b_1.i)]), yM 659, yM 660, yM 661, yM 662, (663, .may, Dr.val [AV.int u8 (uE (units w h) b.i)]), yM 664] 536871937 (.cnd (.r [(711, .auto, Dr.val [AV.int u8 (cK cs b_1.i)])] 1 (.r [] 0 .nil)) (.r [] 0 .nil))) (.r [] 0 .nil)))))) (.r [] 0 .nil))))))))) ([patV w h cs]) ([.full 0 (kindsL (units w h) cs).length]) ([⟨.ints .u8 (kindsL (units w h) cs), 1, (kindsL (units w h) cs).length, none, none, true, false⟩]) = (
 (1 ≤ w ∧ w ≤ 5 ∧ 1 ≤ h ∧ h ≤ 5) ∧ leb (↑(length (units w h)) : Int) (↑(length (units w h)) : Int) = true ∧ leb ((↑(length (units w h)) : Int) * 1) 140737488355328 = true ∧ 1 = 1 ∧ w = w ∧ h = h ∧
 Cont.vals (flatC cs) = Cont.vals (flatC cs) ∧ length cs = length cs ∧ Int.toNat (↑(length (units w h)) : Int) = length (units w h) ∧ Int.toNat (↑(length (units w h)) : Int) = length (units w h) ∧
 replicate (Int.toNat (↑(length (units w h)) : Int)) (0 : Int) = replicate (Int.toNat (↑(length (units w h)) : Int)) (0 : Int) ∧ 0 = 0 ∧ Cont.vals (flatU (units w h)) = Cont.vals (flatU (units w h)) ∧
 length (units w h) = length (units w h) ∧ Int.toNat (↑(length (units w h)) : Int) = Int.toNat (↑(length (units w h)) : Int) ∧ iI 0 = 0 ∧ (∃ (n : Nat), 0 = (↑n : Int) ∧ n ≤ length (units w h) ∧
 replicate (Int.toNat (↑(length (units w h)) : Int)) (0 : Int) = take n (kindsL (units w h) cs) ++ replicate (length (units w h) - n) (0 : Int)) ∧ ∀ (b : L19), (∃ (n : Nat), b.i = (↑n : Int) ∧ n ≤
 length (units w h) ∧ b.l = take n (kindsL (units w h) cs) ++ replicate (length (units w h) - n) (0 : Int)) → (ltb b.i (↑(length (units w h)) : Int) = true → 1 = 1 ∧ w = w ∧ h = h ∧ Cont.vals (flatC
 cs) = Cont.vals (flatC cs) ∧ length cs = length cs ∧ length (units w h) = length (units w h) ∧ length (units w h) = length (units w h) ∧ b.l = b.l ∧ 0 = 0 ∧ Cont.vals (flatU (units w h)) = Cont.vals
 (flatU (units w h)) ∧ length (units w h) = length (units w h) ∧ Int.toNat (↑(length (units w h)) : Int) = Int.toNat (↑(length (units w h)) : Int) ∧ b.i = b.i ∧ iI 0 = 0 ∧ (∃ (n : Nat), 0 = (↑n : Int)
 ∧ n ≤ length cs ∧ b.l = take (Int.toNat b.i) (kindsL (units w h) cs) ++ lookK (Option.getD (units w h)[Int.toNat b.i]? 0) 0 (take n cs) :: replicate (length (units w h) - (Int.toNat b.i + 1)) (0 :
 Int)) ∧ ∀ (b_1 : L19), (∃ (n : Nat), b_1.i = (↑n : Int) ∧ n ≤ length cs ∧ b_1.l = take (Int.toNat b.i) (kindsL (units w h) cs) ++ lookK (Option.getD (units w h)[Int.toNat b.i]? 0) 0 (take n cs) ::
 replicate (length (units w h) - (Int.toNat b.i + 1)) (0 : Int)) → (ltb b_1.i (↑(length cs) : Int) = true → leb 0 b_1.i = true ∧ ltb b_1.i (↑(length cs) : Int) = true ∧ ltn 0 (Cont.size (Cont.vals
 (flatC cs))) = true ∧ (drop 0 (drop (Int.toNat b_1.i * 3) (flatC cs)))[0]? = some (AV.int i64 (cC cs b_1.i)) ∧ leb 0 b.i = true ∧ ltb b.i (↑(length (units w h)) : Int) = true ∧ ltn 0 (Cont.size
 (Cont.vals (flatU (units w h)))) = true ∧ (drop 0 (drop (Int.toNat b.i * 2) (flatU (units w h))))[0]? = some (AV.int i64 (uC (units w h) b.i)) ∧ ((cC cs b_1.i == uC (units w h) b.i) = true → (cC cs
 b_1.i == uC (units w h) b.i) = true) ∧ ((cC cs b_1.i == uC (units w h) b.i) = true → (cC cs b_1.i == uC (units w h) b.i) = true) ∧ ((cC cs b_1.i == uC (units w h) b.i) = true → (cC cs b_1.i == uC
 (units w h) b.i) = true) ∧ ((cC cs b_1.i == uC (units w h) b.i) = true → leb 0 b_1.i = true) ∧ ((cC cs b_1.i == uC (units w h) b.i) = true → ltb b_1.i (↑(length cs) : Int) = true) ∧ ((cC cs b_1.i ==
 uC (units w h) b.i) = true → ltn 0 (Cont.size (Cont.vals (flatC cs))) = true) ∧ ((cC cs b_1.i == uC (units w h) b.i) = true → (cC cs b_1.i == uC (units w h) b.i) = true) ∧ ((cC cs b_1.i == uC (units w
 h) b.i) = true → (cC cs b_1.i == uC (units w h) b.i) = true) ∧ ((cC cs b_1.i == uC (units w h) b.i) = true → (drop 1 (drop (Int.toNat b_1.i * 3) (flatC cs)))[0]? = some (AV.int u8 (cE cs b_1.i))) ∧
 ((cC cs b_1.i == uC (units w h) b.i) = true → (cC cs b_1.i == uC (units w h) b.i) = true) ∧ ((cC cs b_1.i == uC (units w h) b.i) = true → (cC cs b_1.i == uC (units w h) b.i) = true) ∧ ((cC cs b_1.i ==
 uC (units w h) b.i) = true → leb 0 b.i = true) ∧ ((cC cs b_1.i == uC (units w h) b.i) = true → ltb b.i (↑(length (units w h)) : Int) = true) ∧ ((cC cs b_1.i == uC (units w h) b.i) = true → ltn 0
 (Cont.size (Cont.vals (flatU (units w h)))) = true) ∧ ((cC cs b_1.i == uC (units w h) b.i) = true → (cC cs b_1.i == uC (units w h) b.i) = true) ∧ ((cC cs b_1.i == uC (units w h) b.i) = true → (cC cs
 b_1.i == uC (units w h) b.i) = true) ∧ ((cC cs b_1.i == uC (units w h) b.i) = true → (drop 1 (drop (Int.toNat b.i * 2) (flatU (units w h))))[0]? = some (AV.int u8 (uE (units w h) b.i))) ∧ ((cC cs
 b_1.i == uC (units w h) b.i) = true → (cC cs b_1.i == uC (units w h) b.i) = true) ∧ ((cC cs b_1.i == uC (units w h) b.i) = true → (cC cs b_1.i == uC (units w h) b.i) = true) ∧ (bif cC cs b_1.i == uC
 (units w h) b.i then cC cs b_1.i == uC (units w h) b.i && true else true) = true ∧ ((bif cC cs b_1.i == uC (units w h) b.i then cE cs b_1.i == uE (units w h) b.i else false) = true → leb 0 b_1.i =
 true ∧ ltb b_1.i (↑(length cs) : Int) = true ∧ ltn 0 (Cont.size (Cont.vals (flatC cs))) = true ∧ (drop 2 (drop (Int.toNat b_1.i * 3) (flatC cs)))[0]? = some (AV.int u8 (cK cs b_1.i)) ∧ leb 0 b.i =
 true ∧ ltb b.i (↑(Int.toNat (↑(length (units w h)) : Int)) : Int) = true ∧ length (units w h) = Int.toNat (↑(length (units w h)) : Int) ∧ length (units w h) = Int.toNat (↑(length (units w h)) : Int) ∧
 len' (Int.toNat b.i + 1) (Cont.size (Cont.ints u8 b_1.l)) = true ∧ inR i64 (b_1.i + 1) = true ∧ 1 = 1 ∧ w = w ∧ h = h ∧ Cont.vals (flatC cs) = Cont.vals (flatC cs) ∧ length cs = length cs ∧ length
 (units w h) = length (units w h) ∧ length (units w h) = length (units w h) ∧ set b_1.l (Int.toNat b.i) (cK cs b_1.i) = set b_1.l (Int.toNat b.i) (cK cs b_1.i) ∧ 0 = 0 ∧ Cont.vals (flatU (units w h)) =
 Cont.vals (flatU (units w h)) ∧ length (units w h) = length (units w h) ∧ Int.toNat (↑(length (units w h)) : Int) = Int.toNat (↑(length (units w h)) : Int) ∧ b.i = b.i ∧ b_1.i + 1 = b_1.i + 1 ∧ (∃ (n
 : Nat), b_1.i + 1 = (↑n : Int) ∧ n ≤ length cs ∧ set b_1.l (Int.toNat b.i) (cK cs b_1.i) = take (Int.toNat b.i) (kindsL (units w h) cs) ++ lookK (Option.getD (units w h)[Int.toNat b.i]? 0) 0 (take n
 cs) :: replicate (length (units w h) - (Int.toNat b.i + 1)) (0 : Int)) ∧ length cs - Int.toNat (b_1.i + 1) < length cs - Int.toNat b_1.i ∧ True) ∧ ((bif cC cs b_1.i == uC (units w h) b.i then cE cs
 b_1.i == uE (units w h) b.i else false) = false → inR i64 (b_1.i + 1) = true ∧ 1 = 1 ∧ w = w ∧ h = h ∧ Cont.vals (flatC cs) = Cont.vals (flatC cs) ∧ length cs = length cs ∧ length (units w h) = length
 (units w h) ∧ length (units w h) = length (units w h) ∧ b_1.l = b_1.l ∧ 0 = 0 ∧ Cont.vals (flatU (units w h)) = Cont.vals (flatU (units w h)) ∧ length (units w h) = length (units w h) ∧ Int.toNat
 (↑(length (units w h)) : Int) = Int.toNat (↑(length (units w h)) : Int) ∧ b.i = b.i ∧ b_1.i + 1 = b_1.i + 1 ∧ (∃ (n : Nat), b_1.i + 1 = (↑n : Int) ∧ n ≤ length cs ∧ b_1.l = take (Int.toNat b.i)
 (kindsL (units w h) cs) ++ lookK (Option.getD (units w h)[Int.toNat b.i]? 0) 0 (take n cs) :: replicate (length (units w h) - (Int.toNat b.i + 1)) (0 : Int)) ∧ length cs - Int.toNat (b_1.i + 1) <
 length cs - Int.toNat b_1.i ∧ True)) ∧ (ltb b_1.i (↑(length cs) : Int) = false → inR i64 (b.i + 1) = true ∧ 1 = 1 ∧ w = w ∧ h = h ∧ Cont.vals (flatC cs) = Cont.vals (flatC cs) ∧ length cs = length cs
 ∧ length (units w h) = length (units w h) ∧ length (units w h) = length (units w h) ∧ b_1.l = b_1.l ∧ 0 = 0 ∧ Cont.vals (flatU (units w h)) = Cont.vals (flatU (units w h)) ∧ length (units w h) =
 length (units w h) ∧ Int.toNat (↑(length (units w h)) : Int) = Int.toNat (↑(length (units w h)) : Int) ∧ b.i + 1 = b.i + 1 ∧ (∃ (n : Nat), b.i + 1 = (↑n : Int) ∧ n ≤ length (units w h) ∧ b_1.l = take
 n (kindsL (units w h) cs) ++ replicate (length (units w h) - n) (0 : Int)) ∧ length (units w h) - Int.toNat (b.i + 1) < length (units w h) - Int.toNat b.i ∧ True)) ∧ (ltb b.i (↑(length (units w h)) :
 Int) = false → length (units w h) = length (kindsL (units w h) cs) ∧ b.l = kindsL (units w h) cs ∧ Int.toNat (↑(length (units w h)) : Int) = length (kindsL (units w h) cs) ∧ True)) := by kernel_rfl

end Go.Proofs.YtfpcbimohikhmaaDoor.X
