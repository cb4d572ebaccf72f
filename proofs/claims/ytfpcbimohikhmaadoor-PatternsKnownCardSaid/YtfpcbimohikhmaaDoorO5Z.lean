/-
 What is to be shown of the functions (made by a program).
-/
import Derived.Test.YtfpcbimohikhmaaDoorD5Z
import Derived.KernelRfl
set_option maxRecDepth 1000000
set_option linter.unusedVariables false
namespace Go.Proofs.YtfpcbimohikhmaaDoor.X
open Go Go.Ab
open List IntKind

theorem ob_o31 (w h : Int) : fnP (CS) G 10000 fe31 (.r [] 0 (.r [] 3 (.r [] 0 (.cnd (.r [] 1 .nil) (.r [] 3 .nil))))) ([.agg [.int .i64 w, .int .i64 h]]) ([.agg [.int .i64 (bI (okS w h) w 0), .int .i64 (bI (okS w h) h 0), .nils], .int .i64 (bI (okS w h) 0 1)]) ([]) = (
 ((bI (okS w h) 0 1 != 0) = true → 0 = bI (okS w h) w 0 ∧ 0 = bI (okS w h) h 0 ∧ bI (okS w h) 0 1 = bI (okS w h) 0 1 ∧ True) ∧ ((bI (okS w h) 0 1 != 0) = false → w = bI (okS w h) w 0 ∧ h = bI (okS w h)
 h 0 ∧ 0 = bI (okS w h) 0 1 ∧ True)) := by kernel_rfl

theorem ob_o67 (a b : List Cr) : fnP (T0) G 10000 fe67 (.r [] 0 (.r [] 0 (.cnd (.r [] 0 .nil) (.r [] 0 (.lp (l67 a b) [] [] (fun b_1 => (.r [] 0 (.cnd (.r [] 0 (.r [(451, .auto, Dr.val (crV a b_1.i)), (455, .auto, Dr.val (crV b b_1.i))] 0 (.cnd (.r [] 0 .nil) (.r [] 0 .nil)))) (.r [] 0 .nil))))))))) ([.imm (.vals (flatC a)) a.length none, .imm (.vals (flatC b)) b.length none]) ([.bool (eqC a b)]) ([]) = (
 (((↑(length a) : Int) != (↑(length b) : Int)) = true → false = eqC a b ∧ True) ∧ (((↑(length a) : Int) != (↑(length b) : Int)) = false → Cont.vals (flatC a) = Cont.vals (flatC a) ∧ length a = length a
 ∧ Cont.vals (flatC b) = Cont.vals (flatC b) ∧ length b = length b ∧ (↑(length a) : Int) = (↑(length a) : Int) ∧ iI 0 = 0 ∧ (∃ (n : Nat), 0 = (↑n : Int) ∧ n ≤ length a ∧ eqC (drop n a) (drop n b) = eqC
 a b) ∧ ∀ (b_1 : L1), (∃ (n : Nat), b_1.i = (↑n : Int) ∧ n ≤ length a ∧ eqC (drop n a) (drop n b) = eqC a b) → (ltb b_1.i (↑(length a) : Int) = true → leb 0 b_1.i = true ∧ ltb b_1.i (↑(length a) : Int)
 = true ∧ ltn 0 (Cont.size (Cont.vals (flatC a))) = true ∧ (drop (Int.toNat b_1.i * 3) (flatC a))[0]? = some (AV.int i64 (cC a b_1.i)) ∧ (drop (Int.toNat b_1.i * 3) (flatC a))[1]? = some (AV.int u8 (cE
 a b_1.i)) ∧ (drop (Int.toNat b_1.i * 3) (flatC a))[2]? = some (AV.int u8 (cK a b_1.i)) ∧ leb 0 b_1.i = true ∧ ltb b_1.i (↑(length b) : Int) = true ∧ ltn 0 (Cont.size (Cont.vals (flatC b))) = true ∧
 (drop (Int.toNat b_1.i * 3) (flatC b))[0]? = some (AV.int i64 (cC b b_1.i)) ∧ (drop (Int.toNat b_1.i * 3) (flatC b))[1]? = some (AV.int u8 (cE b b_1.i)) ∧ (drop (Int.toNat b_1.i * 3) (flatC b))[2]? =
 some (AV.int u8 (cK b b_1.i)) ∧ ((!(cC a b_1.i == cC b b_1.i && (cE a b_1.i == cE b b_1.i && cK a b_1.i == cK b b_1.i))) = true → false = eqC a b ∧ True) ∧ ((!(cC a b_1.i == cC b b_1.i && (cE a b_1.i
 == cE b b_1.i && cK a b_1.i == cK b b_1.i))) = false → inR i64 (b_1.i + 1) = true ∧ Cont.vals (flatC a) = Cont.vals (flatC a) ∧ length a = length a ∧ Cont.vals (flatC b) = Cont.vals (flatC b) ∧ length
 b = length b ∧ (↑(length a) : Int) = (↑(length a) : Int) ∧ b_1.i + 1 = b_1.i + 1 ∧ (∃ (n : Nat), b_1.i + 1 = (↑n : Int) ∧ n ≤ length a ∧ eqC (drop n a) (drop n b) = eqC a b) ∧ length a - Int.toNat
 (b_1.i + 1) < length a - Int.toNat b_1.i ∧ True)) ∧ (ltb b_1.i (↑(length a) : Int) = false → true = eqC a b ∧ True))) := by kernel_rfl

theorem ob_o69 (c e k c' e' k' : Int) : fnP (CQ1) G 10000 fe69 (.r [] 0 (.r [yM 134, yM 135, yM 136, yM 137, yM 138, yM 139, yM 140, yM 141, yM 142, yM 143] 34991 .nil)) ([.agg [.int .i64 c, .int .u8 e, .int .u8 k], .agg [.int .i64 c', .int .u8 e', .int .u8 k']]) ([.bool (fitB (c, e, k) (c', e', k'))]) ([]) = (
 ((c == c' && e == e') = true → (c == c' && e == e') = true) ∧ ((c == c' && e == e') = true → (c == c' && e == e') = true) ∧ ((c == c' && e == e') = true → (c == c' && e == e') = true) ∧ ((c == c' && e
 == e') = true → (c == c' && e == e') = true) ∧ ((c == c' && e == e' && (c == c' && e == e') && true && !k == k') = true → (c == c' && e == e' && (c == c' && e == e') && true && !k == k') = true) ∧ ((c
 == c' && e == e' && (c == c' && e == e') && true && !k == k') = true → (c == c' && e == e' && (c == c' && e == e') && true && !k == k') = true) ∧ ((c == c' && e == e') = true → (c == c' && e == e' &&
 (c == c' && e == e') && true) = true) ∧ ((c == c' && e == e') = true → (bif k == k' then true else c == c' && e == e' && (c == c' && e == e') && true && !k == k' && true) = true) ∧ (bif c == c' && e
 == e' then c == c' && e == e' && true else true) = true ∧ (bif c == c' && e == e' then bif k == k' then true else k' == 3 else false) = fitB (c, e, k) (c', e', k') ∧ True) := by kernel_rfl

theorem ob_o68 (a b : List Cr) : fnP (CQ2) G 10000 fe68 (.r [] 0 (.r [] 0 (.cnd (.r [] 0 .nil) (.r [] 0 (.lp (l68 a b) [] [] (fun b_1 => (.r [] 0 (.cnd (.r [(386, .auto, Dr.val (crV a b_1.i))] 64 (.r [(451, .auto, Dr.val (crV b b_1.i))] 64 (.r [] 7 (.cnd (.r [] 0 .nil) (.r [] 0 .nil))))) (.r [] 0 .nil))))))))) ([.imm (.vals (flatC a)) a.length none, .imm (.vals (flatC b)) b.length none, .fn 69 [] []]) ([.bool (fitL a b)]) ([]) = (
 (((↑(length a) : Int) != (↑(length b) : Int)) = true → false = fitL a b ∧ True) ∧ (((↑(length a) : Int) != (↑(length b) : Int)) = false → Cont.vals (flatC b) = Cont.vals (flatC b) ∧ length b = length
 b ∧ Cont.vals (flatC a) = Cont.vals (flatC a) ∧ length a = length a ∧ (↑(length a) : Int) = (↑(length a) : Int) ∧ iI 0 = 0 ∧ (∃ (n : Nat), 0 = (↑n : Int) ∧ n ≤ length a ∧ fitL (drop n a) (drop n b) =
 fitL a b) ∧ ∀ (b_1 : L1), (∃ (n : Nat), b_1.i = (↑n : Int) ∧ n ≤ length a ∧ fitL (drop n a) (drop n b) = fitL a b) → (ltb b_1.i (↑(length a) : Int) = true → leb 0 b_1.i = true ∧ ltb b_1.i (↑(length a)
 : Int) = true ∧ ltn 0 (Cont.size (Cont.vals (flatC a))) = true ∧ (drop (Int.toNat b_1.i * 3) (flatC a))[0]? = some (AV.int i64 (cC a b_1.i)) ∧ (drop (Int.toNat b_1.i * 3) (flatC a))[1]? = some (AV.int
 u8 (cE a b_1.i)) ∧ (drop (Int.toNat b_1.i * 3) (flatC a))[2]? = some (AV.int u8 (cK a b_1.i)) ∧ leb 0 b_1.i = true ∧ ltb b_1.i (↑(length b) : Int) = true ∧ ltn 0 (Cont.size (Cont.vals (flatC b))) =
 true ∧ (drop (Int.toNat b_1.i * 3) (flatC b))[0]? = some (AV.int i64 (cC b b_1.i)) ∧ (drop (Int.toNat b_1.i * 3) (flatC b))[1]? = some (AV.int u8 (cE b b_1.i)) ∧ (drop (Int.toNat b_1.i * 3) (flatC
 b))[2]? = some (AV.int u8 (cK b b_1.i)) ∧ ((!fitB (cC a b_1.i, cE a b_1.i, cK a b_1.i) (cC b b_1.i, cE b b_1.i, cK b b_1.i)) = true → false = fitL a b ∧ True) ∧ ((!fitB (cC a b_1.i, cE a b_1.i, cK a
 b_1.i) (cC b b_1.i, cE b b_1.i, cK b b_1.i)) = false → inR i64 (b_1.i + 1) = true ∧ Cont.vals (flatC b) = Cont.vals (flatC b) ∧ length b = length b ∧ Cont.vals (flatC a) = Cont.vals (flatC a) ∧ length
 a = length a ∧ (↑(length a) : Int) = (↑(length a) : Int) ∧ b_1.i + 1 = b_1.i + 1 ∧ (∃ (n : Nat), b_1.i + 1 = (↑n : Int) ∧ n ≤ length a ∧ fitL (drop n a) (drop n b) = fitL a b) ∧ length a - Int.toNat
 (b_1.i + 1) < length a - Int.toNat b_1.i ∧ True)) ∧ (ltb b_1.i (↑(length a) : Int) = false → true = fitL a b ∧ True))) := by kernel_rfl

theorem ob_o32 (w h w' h' : Int) (a b : List Cr) : fnP (CQ3) G 10000 fe32 (.r [] 0 (.rs 6 [] 3 10 (.r [] 27 .nil) (.r [] 3 .nil))) ([patV w h a, patV w' h' b]) ([.bool (shEq w h w' h' && eqC a b)]) ([]) = (
 ((w == w' && h == h') = true → (okA (flatC a) (length a) ∧ okA (flatC b) (length b)) ∧ eqC (unC (flatC a)) (unC (flatC b)) = (shEq w h w' h' && eqC a b) ∧ True) ∧ ((w == w' && h == h') = false → false
 = (shEq w h w' h' && eqC a b) ∧ True)) := by kernel_rfl

theorem ob_o33 (w h w' h' : Int) (a b : List Cr) : fnP (CQ3) G 10000 fe33 (.r [] 0 (.rs 6 [] 3 10 (.r [] 27 .nil) (.r [] 3 .nil))) ([patV w h a, patV w' h' b]) ([.bool (shEq w h w' h' && fitL a b)]) ([]) = (
 ((w == w' && h == h') = true → (okA (flatC a) (length a) ∧ okA (flatC b) (length b)) ∧ fitL (unC (flatC a)) (unC (flatC b)) = (shEq w h w' h' && fitL a b) ∧ True) ∧ ((w == w' && h == h') = false →
 false = (shEq w h w' h' && fitL a b) ∧ True)) := by kernel_rfl

theorem ob_o34 (w h k : Int) (l : List Cr) : fnP (T0) G 10000 fe34 (.r [] 0 (.r [] 0 (.r [] 1 (.lp (l34 l k) [] [] (fun b => (.r [] 0 (.cnd (.r [(321, .auto, Dr.val (crV l b.i))] 64 (.r [] 1 (.cnd (.r [] 0 (.r [] 0 .nil)) (.r [] 0 .nil)))) (.r [] 0 .nil)))))))) ([patV w h l, .int .u8 k]) ([.int .i64 (cntN l k)]) ([]) = (
 1 = 1 ∧ w = w ∧ h = h ∧ Cont.vals (flatC l) = Cont.vals (flatC l) ∧ length l = length l ∧ k = k ∧ iI 0 = 0 ∧ Cont.vals (flatC l) = Cont.vals (flatC l) ∧ length l = length l ∧ (↑(length l) : Int) =
 (↑(length l) : Int) ∧ iI 0 = 0 ∧ (∃ (n : Nat), 0 = (↑n : Int) ∧ n ≤ length l ∧ 0 = (↑(cntN (take n l) k) : Int)) ∧ ∀ (b : L2i), (∃ (n : Nat), b.i = (↑n : Int) ∧ n ≤ length l ∧ b.n = (↑(cntN (take n l)
 k) : Int)) → (ltb b.i (↑(length l) : Int) = true → leb 0 b.i = true ∧ ltb b.i (↑(length l) : Int) = true ∧ ltn 0 (Cont.size (Cont.vals (flatC l))) = true ∧ (drop (Int.toNat b.i * 3) (flatC l))[0]? =
 some (AV.int i64 (cC l b.i)) ∧ (drop (Int.toNat b.i * 3) (flatC l))[1]? = some (AV.int u8 (cE l b.i)) ∧ (drop (Int.toNat b.i * 3) (flatC l))[2]? = some (AV.int u8 (cK l b.i)) ∧ ((cK l b.i == k) = true
 → inR i64 (b.n + 1) = true ∧ inR i64 (b.i + 1) = true ∧ 1 = 1 ∧ w = w ∧ h = h ∧ Cont.vals (flatC l) = Cont.vals (flatC l) ∧ length l = length l ∧ k = k ∧ b.n + 1 = b.n + 1 ∧ Cont.vals (flatC l) =
 Cont.vals (flatC l) ∧ length l = length l ∧ (↑(length l) : Int) = (↑(length l) : Int) ∧ b.i + 1 = b.i + 1 ∧ (∃ (n : Nat), b.i + 1 = (↑n : Int) ∧ n ≤ length l ∧ b.n + 1 = (↑(cntN (take n l) k) : Int))
 ∧ length l - Int.toNat (b.i + 1) < length l - Int.toNat b.i ∧ True) ∧ ((cK l b.i == k) = false → inR i64 (b.i + 1) = true ∧ 1 = 1 ∧ w = w ∧ h = h ∧ Cont.vals (flatC l) = Cont.vals (flatC l) ∧ length l
 = length l ∧ k = k ∧ b.n = b.n ∧ Cont.vals (flatC l) = Cont.vals (flatC l) ∧ length l = length l ∧ (↑(length l) : Int) = (↑(length l) : Int) ∧ b.i + 1 = b.i + 1 ∧ (∃ (n : Nat), b.i + 1 = (↑n : Int) ∧
 n ≤ length l ∧ b.n = (↑(cntN (take n l) k) : Int)) ∧ length l - Int.toNat (b.i + 1) < length l - Int.toNat b.i ∧ True)) ∧ (ltb b.i (↑(length l) : Int) = false → b.n = (↑(cntN l k) : Int) ∧ True)) := by kernel_rfl

theorem ob_o30 (w h : Int) (l : List Cr) : fnP (CQ4) G 10000 fe30 (.r [] 0 (.r [] 3 (.cnd (.r [] 0 .nil) (.r [] 0 (.lp (k30 l) [] [] (fun b => (.r [] 1 (.cnd (.rs 8 [(453, .auto, Dr.val [AV.int u8 (cK l b.i)])] 1 28 (.r [(461, .auto, Dr.val [AV.int u8 (cK l b.i)])] 3 (.lit (.r [] 0 .nil))) (.r [(461, .auto, Dr.val [AV.int u8 (cK l b.i)])] 97 (.cnd (.r [] 0 .nil) (.r [] 0 .nil)))) (.r [] 1 (.r [] 0 (.r [] 0 (.r [] 0 (.lp (l30 (units w h) l) [] [] (fun b_1 => (.r [] 1 (.cnd (.r [] 0 (.r [] 0 (.lp (m30 (units w h) (cC l b_1.i) (cE l b_1.i)) [] [] (fun b_2 => (.r [] 0 (.cnd (.r [(1219, .auto, Dr.val [AV.int i64 (uC (units w h) b_2.i), AV.int u8 (uE (units w h) b_2.i)]), (1225, .auto, Dr.val [AV.int i64 (cC l b_1.i)]), (1231, .auto, Dr.val [AV.int u8 (cE l b_1.i)])] 1056 (.cnd (.r [] 0 (.r [] 0 .nil)) (.r [] 0 .nil))) (.r [] 0 (.cnd (.r [] 0 .nil) (.r [] 0 (.cnd (.r [] 0 (.r [] 0 (.r [] 0 .nil))) (.r [] 0 (.r [] 0 .nil)))))))))))) (.r [] 0 .nil))))))))))))))))) ([patV w h l]) ([.int .i64 (rchI w h l)]) ([]) = (
 ((bI (okS w h) 1 0 == 0) = true → 1 = rchI w h l ∧ True) ∧ ((bI (okS w h) 1 0 == 0) = false → 1 = 1 ∧ w = w ∧ h = h ∧ Cont.vals (flatC l) = Cont.vals (flatC l) ∧ length l = length l ∧ 0 = 0 ∧ iI 0 = 0
 ∧ (∃ (n : Nat), 0 = (↑n : Int) ∧ n ≤ length l ∧ badL (drop n l) = badL l) ∧ ∀ (b : L1), (∃ (n : Nat), b.i = (↑n : Int) ∧ n ≤ length l ∧ badL (drop n l) = badL l) → (ltb b.i (↑(length l) : Int) = true
 → leb 0 b.i = true ∧ ltb b.i (↑(length l) : Int) = true ∧ ltn 0 (Cont.size (Cont.vals (flatC l))) = true ∧ (drop 2 (drop (Int.toNat b.i * 3) (flatC l)))[0]? = some (AV.int u8 (cK l b.i)) ∧ (ltb (cK l
 b.i) 1 = true → 1 = rchI w h l ∧ True) ∧ (ltb (cK l b.i) 1 = false → leb 0 b.i = true ∧ ltb b.i (↑(length l) : Int) = true ∧ ltn 0 (Cont.size (Cont.vals (flatC l))) = true ∧ (drop 2 (drop (Int.toNat
 b.i * 3) (flatC l)))[0]? = some (AV.int u8 (cK l b.i)) ∧ (ltb 3 (cK l b.i) = true → 1 = rchI w h l ∧ True) ∧ (ltb 3 (cK l b.i) = false → inR i64 (b.i + 1) = true ∧ 1 = 1 ∧ w = w ∧ h = h ∧ Cont.vals
 (flatC l) = Cont.vals (flatC l) ∧ length l = length l ∧ 0 = 0 ∧ b.i + 1 = b.i + 1 ∧ (∃ (n : Nat), b.i + 1 = (↑n : Int) ∧ n ≤ length l ∧ badL (drop n l) = badL l) ∧ length l - Int.toNat (b.i + 1) <
 length l - Int.toNat b.i ∧ True))) ∧ (ltb b.i (↑(length l) : Int) = false → s5 w h ∧ 1 = 1 ∧ w = w ∧ h = h ∧ Cont.vals (flatC l) = Cont.vals (flatC l) ∧ length l = length l ∧ 0 = 0 ∧ ltb b.i (↑(length
 l) : Int) = ltb b.i (↑(length l) : Int) ∧ Cont.vals (flatU (units w h)) = Cont.vals (flatU (units w h)) ∧ length (units w h) = length (units w h) ∧ iI (-1) = -1 ∧ iI 0 = 0 ∧ iI 0 = 0 ∧ (∃ (n : Nat), 0
 = (↑n : Int) ∧ n ≤ length l ∧ rck (units w h) (-1) 0 (drop n l) = rck (units w h) (-1) 0 l) ∧ ∀ (b_1 : L3i), (∃ (n : Nat), b_1.i = (↑n : Int) ∧ n ≤ length l ∧ rck (units w h) b_1.p b_1.o (drop n l) =
 rck (units w h) (-1) 0 l) → (ltb b_1.i (↑(length l) : Int) = true → 1 = 1 ∧ w = w ∧ h = h ∧ Cont.vals (flatC l) = Cont.vals (flatC l) ∧ length l = length l ∧ 0 = 0 ∧ ltb b.i (↑(length l) : Int) = ltb
 b.i (↑(length l) : Int) ∧ Cont.vals (flatU (units w h)) = Cont.vals (flatU (units w h)) ∧ length (units w h) = length (units w h) ∧ b_1.p = b_1.p ∧ b_1.o = b_1.o ∧ b_1.i = b_1.i ∧ iI (-1) = -1 ∧ iI 0
 = 0 ∧ (∃ (n : Nat), 0 = (↑n : Int) ∧ n ≤ length (units w h) ∧ lkI (cC l b_1.i) (cE l b_1.i) (-1) (↑n : Int) (drop n (units w h)) = lkI (cC l b_1.i) (cE l b_1.i) (-1) 0 (units w h)) ∧ ∀ (b_2 : L2i), (∃
 (n : Nat), b_2.i = (↑n : Int) ∧ n ≤ length (units w h) ∧ lkI (cC l b_1.i) (cE l b_1.i) b_2.n (↑n : Int) (drop n (units w h)) = lkI (cC l b_1.i) (cE l b_1.i) (-1) 0 (units w h)) → (ltb b_2.i (↑(length
 (units w h)) : Int) = true → leb 0 b_2.i = true ∧ ltb b_2.i (↑(length (units w h)) : Int) = true ∧ ltn 0 (Cont.size (Cont.vals (flatU (units w h)))) = true ∧ (drop (Int.toNat b_2.i * 2) (flatU (units
 w h)))[0]? = some (AV.int i64 (uC (units w h) b_2.i)) ∧ (drop (Int.toNat b_2.i * 2) (flatU (units w h)))[1]? = some (AV.int u8 (uE (units w h) b_2.i)) ∧ leb 0 b_1.i = true ∧ ltb b_1.i (↑(length l) :
 Int) = true ∧ ltn 0 (Cont.size (Cont.vals (flatC l))) = true ∧ (drop 0 (drop (Int.toNat b_1.i * 3) (flatC l)))[0]? = some (AV.int i64 (cC l b_1.i)) ∧ leb 0 b_1.i = true ∧ ltb b_1.i (↑(length l) : Int)
 = true ∧ ltn 0 (Cont.size (Cont.vals (flatC l))) = true ∧ (drop 1 (drop (Int.toNat b_1.i * 3) (flatC l)))[0]? = some (AV.int u8 (cE l b_1.i)) ∧ ((uC (units w h) b_2.i == cC l b_1.i && uE (units w h)
 b_2.i == cE l b_1.i) = true → inR i64 (b_2.i + 1) = true ∧ 1 = 1 ∧ w = w ∧ h = h ∧ Cont.vals (flatC l) = Cont.vals (flatC l) ∧ length l = length l ∧ 0 = 0 ∧ ltb b.i (↑(length l) : Int) = ltb b.i
 (↑(length l) : Int) ∧ Cont.vals (flatU (units w h)) = Cont.vals (flatU (units w h)) ∧ length (units w h) = length (units w h) ∧ b_1.p = b_1.p ∧ b_1.o = b_1.o ∧ b_1.i = b_1.i ∧ b_2.i = b_2.i ∧ b_2.i +
 1 = b_2.i + 1 ∧ (∃ (n : Nat), b_2.i + 1 = (↑n : Int) ∧ n ≤ length (units w h) ∧ lkI (cC l b_1.i) (cE l b_1.i) b_2.i (↑n : Int) (drop n (units w h)) = lkI (cC l b_1.i) (cE l b_1.i) (-1) 0 (units w h))
 ∧ length (units w h) - Int.toNat (b_2.i + 1) < length (units w h) - Int.toNat b_2.i ∧ True) ∧ ((uC (units w h) b_2.i == cC l b_1.i && uE (units w h) b_2.i == cE l b_1.i) = false → inR i64 (b_2.i + 1)
 = true ∧ 1 = 1 ∧ w = w ∧ h = h ∧ Cont.vals (flatC l) = Cont.vals (flatC l) ∧ length l = length l ∧ 0 = 0 ∧ ltb b.i (↑(length l) : Int) = ltb b.i (↑(length l) : Int) ∧ Cont.vals (flatU (units w h)) =
 Cont.vals (flatU (units w h)) ∧ length (units w h) = length (units w h) ∧ b_1.p = b_1.p ∧ b_1.o = b_1.o ∧ b_1.i = b_1.i ∧ b_2.n = b_2.n ∧ b_2.i + 1 = b_2.i + 1 ∧ (∃ (n : Nat), b_2.i + 1 = (↑n : Int) ∧
 n ≤ length (units w h) ∧ lkI (cC l b_1.i) (cE l b_1.i) b_2.n (↑n : Int) (drop n (units w h)) = lkI (cC l b_1.i) (cE l b_1.i) (-1) 0 (units w h)) ∧ length (units w h) - Int.toNat (b_2.i + 1) < length
 (units w h) - Int.toNat b_2.i ∧ True)) ∧ (ltb b_2.i (↑(length (units w h)) : Int) = false → (ltb b_2.n 0 = true → 7 = rchI w h l ∧ True) ∧ (ltb b_2.n 0 = false → (leb b_2.n b_1.p = true → inR i64
 (b_1.i + 1) = true ∧ 1 = 1 ∧ w = w ∧ h = h ∧ Cont.vals (flatC l) = Cont.vals (flatC l) ∧ length l = length l ∧ 0 = 0 ∧ ltb b.i (↑(length l) : Int) = ltb b.i (↑(length l) : Int) ∧ Cont.vals (flatU
 (units w h)) = Cont.vals (flatU (units w h)) ∧ length (units w h) = length (units w h) ∧ b_2.n = b_2.n ∧ iI 6 = 6 ∧ b_1.i + 1 = b_1.i + 1 ∧ (∃ (n : Nat), b_1.i + 1 = (↑n : Int) ∧ n ≤ length l ∧ rck
 (units w h) b_2.n 6 (drop n l) = rck (units w h) (-1) 0 l) ∧ length l - Int.toNat (b_1.i + 1) < length l - Int.toNat b_1.i ∧ True) ∧ (leb b_2.n b_1.p = false → inR i64 (b_1.i + 1) = true ∧ 1 = 1 ∧ w =
 w ∧ h = h ∧ Cont.vals (flatC l) = Cont.vals (flatC l) ∧ length l = length l ∧ 0 = 0 ∧ ltb b.i (↑(length l) : Int) = ltb b.i (↑(length l) : Int) ∧ Cont.vals (flatU (units w h)) = Cont.vals (flatU
 (units w h)) ∧ length (units w h) = length (units w h) ∧ b_2.n = b_2.n ∧ b_1.o = b_1.o ∧ b_1.i + 1 = b_1.i + 1 ∧ (∃ (n : Nat), b_1.i + 1 = (↑n : Int) ∧ n ≤ length l ∧ rck (units w h) b_2.n b_1.o (drop
 n l) = rck (units w h) (-1) 0 l) ∧ length l - Int.toNat (b_1.i + 1) < length l - Int.toNat b_1.i ∧ True)))) ∧ (ltb b_1.i (↑(length l) : Int) = false → b_1.o = rchI w h l ∧ True)))) := by kernel_rfl

theorem ob_o25 (w h : Int) (l : List Cr) : fnP (CP5) G 10000 fe25 (.r [] 0 (.r [] 1 (.r [] 0 (.cnd (.r [] 1 (.ghc 65 2 9001 3 (Cont.vals []) .nil)) (.r [] 3 (.r [] 1 (.r [] 0 (.lp (l25 l) [] [] (fun b => (.r [] 0 (.cnd (.r [] 0 (.r [(646, .auto, Dr.val [AV.int u8 (cK l b.i)])] 0 (.r [] 0 .nil))) (.r [] 3 .nil)))))))))))) ([patV w h l]) ([patR (chkI w h l == 0) w h (opR w h l), .int .i64 (chkI w h l)]) ([blkR (opR w h l)]) = (
 (okA (flatC l) (length l) ∧ edg (unC (flatC l))) ∧ ((chkI w h (unC (flatC l)) != 0) = true → 0 = length (opR w h l) ∧ 0 = length (opR w h l) ∧ [] = flatC (opR w h l) ∧ 0 = bI (chkI w h l == 0) w 0 ∧ 0
 = bI (chkI w h l == 0) h 0 ∧ 0 = length (opR w h l) ∧ chkI w h (unC (flatC l)) = chkI w h l ∧ True) ∧ ((chkI w h (unC (flatC l)) != 0) = false → leb (↑(length l) : Int) (↑(length l) : Int) = true ∧
 leb ((↑(length l) : Int) * 16) 140737488355328 = true ∧ Int.toNat (↑(length l) : Int) = Int.toNat (↑(length l) : Int) ∧ length l = Int.toNat (↑(length l) : Int) ∧ Cont.size (Cont.vals (flatC l)) =
 length l * 3 ∧ Int.toNat (↑(length l) : Int) = Int.toNat (↑(length l) : Int) ∧ 1 = 1 ∧ w = w ∧ h = h ∧ Cont.vals (flatC l) = Cont.vals (flatC l) ∧ length l = length l ∧ 1 = 1 ∧ iI 0 = 0 ∧ iI 0 = 0 ∧
 Int.toNat (↑(length l) : Int) = length l ∧ Int.toNat (↑(length l) : Int) = length l ∧ [] ++ flatC l = [] ++ flatC l ∧ 0 = 0 ∧ 0 = 0 ∧ Int.toNat (↑(length l) : Int) = Int.toNat (↑(length l) : Int) ∧
 (↑(Int.toNat (↑(length l) : Int)) : Int) = (↑(Int.toNat (↑(length l) : Int)) : Int) ∧ iI 0 = 0 ∧ (∃ (n : Nat), 0 = (↑n : Int) ∧ n ≤ length l ∧ [] ++ flatC l = flatC (take n (opL l) ++ drop n l)) ∧ ∀
 (b : L25), (∃ (n : Nat), b.i = (↑n : Int) ∧ n ≤ length l ∧ b.l = flatC (take n (opL l) ++ drop n l)) → (ltb b.i (↑(Int.toNat (↑(length l) : Int)) : Int) = true → leb 0 b.i = true ∧ ltb b.i
 (↑(Int.toNat (↑(length l) : Int)) : Int) = true ∧ length l = Int.toNat (↑(length l) : Int) ∧ length l = Int.toNat (↑(length l) : Int) ∧ length l = Int.toNat (↑(length l) : Int) ∧ b.l[Int.toNat b.i * 3
 + 2]? = some (AV.int u8 (cK l b.i)) ∧ leb 0 (cK l b.i) = true ∧ ltb (cK l b.i) 4 = true ∧ ltn 0 (Cont.size (Cont.ints u8 (drop (Int.toNat (cK l b.i)) [0, 2, 1, 3]))) = true ∧ leb 0 b.i = true ∧ ltb
 b.i (↑(Int.toNat (↑(length l) : Int)) : Int) = true ∧ length l = Int.toNat (↑(length l) : Int) ∧ length l = Int.toNat (↑(length l) : Int) ∧ length l = Int.toNat (↑(length l) : Int) ∧ len' (Int.toNat
 b.i * 3 + 2 + 1) (Cont.size (Cont.vals b.l)) = true ∧ inR i64 (b.i + 1) = true ∧ 1 = 1 ∧ w = w ∧ h = h ∧ Cont.vals (flatC l) = Cont.vals (flatC l) ∧ length l = length l ∧ 1 = 1 ∧ iI 0 = 0 ∧ iI 0 = 0 ∧
 length l = length l ∧ length l = length l ∧ set b.l (Int.toNat b.i * 3 + 2) (AV.int u8 (getD (drop (Int.toNat (cK l b.i)) [0, 2, 1, 3]) 0 0)) = set b.l (Int.toNat b.i * 3 + 2) (AV.int u8 (getD (drop
 (Int.toNat (cK l b.i)) [0, 2, 1, 3]) 0 0)) ∧ 0 = 0 ∧ 0 = 0 ∧ Int.toNat (↑(length l) : Int) = Int.toNat (↑(length l) : Int) ∧ (↑(Int.toNat (↑(length l) : Int)) : Int) = (↑(Int.toNat (↑(length l) :
 Int)) : Int) ∧ b.i + 1 = b.i + 1 ∧ (∃ (n : Nat), b.i + 1 = (↑n : Int) ∧ n ≤ length l ∧ set b.l (Int.toNat b.i * 3 + 2) (AV.int u8 (getD (drop (Int.toNat (cK l b.i)) [0, 2, 1, 3]) 0 0)) = flatC (take n
 (opL l) ++ drop n l)) ∧ length l - Int.toNat (b.i + 1) < length l - Int.toNat b.i ∧ True) ∧ (ltb b.i (↑(Int.toNat (↑(length l) : Int)) : Int) = false → length l = length (opR w h l) ∧ length l =
 length (opR w h l) ∧ b.l = flatC (opR w h l) ∧ w = bI (chkI w h l == 0) w 0 ∧ h = bI (chkI w h l == 0) h 0 ∧ Int.toNat (↑(length l) : Int) = length (opR w h l) ∧ 0 = chkI w h l ∧ True))) := by kernel_rfl

theorem ob_o14 (W H : Int) (ks : List Int) : fnP (CQ5) G 10000 fe14 (.r [] 0 (.r [] 307 (.r [] 5 (.r [] 0 (.lp (l14 (6 * dim W * dim H) ks) [] [] (fun b => (.rs 5 [] 0 28 (.r [] 7 (.cnd (.r [] 33 (.r [] 0 .nil)) (.r [] 9 .nil))) (.r [] 3 (.lit (.r [] 9 .nil)))))))))) ([.agg [.int .u8 W, .int .u8 H, .imm (.ints .u8 ks) ks.length none]]) ([.agg [.int .i64 (dim W), .int .i64 (dim H), .full 0 (ofL W H ks).length]]) ([blkC (flatC (ofL W H ks)) (ofL W H ks).length]) = (
 inR i64 (Int.tmod W 4) = true ∧ inR i64 (1 + Int.tmod W 4) = true ∧ inR i64 (Int.tmod H 4) = true ∧ inR i64 (1 + Int.tmod H 4) = true ∧ inR i64 (6 * (1 + Int.tmod W 4)) = true ∧ inR i64 (6 * (1 +
 Int.tmod W 4) * (1 + Int.tmod H 4)) = true ∧ leb 0 (6 * (1 + Int.tmod W 4) * (1 + Int.tmod H 4)) = true ∧ leb (6 * (1 + Int.tmod W 4) * (1 + Int.tmod H 4)) (6 * (1 + Int.tmod W 4) * (1 + Int.tmod H
 4)) = true ∧ leb (6 * (1 + Int.tmod W 4) * (1 + Int.tmod H 4) * 1) 140737488355328 = true ∧ 1 = 1 ∧ W = W ∧ H = H ∧ Cont.ints u8 ks = Cont.ints u8 ks ∧ length ks = length ks ∧ 1 = 1 ∧ iI 0 = 0 ∧ iI 0
 = 0 ∧ 1 = 1 ∧ 1 + Int.tmod W 4 = 1 + Int.tmod W 4 ∧ 1 + Int.tmod H 4 = 1 + Int.tmod H 4 ∧ Int.toNat (6 * (1 + Int.tmod W 4) * (1 + Int.tmod H 4)) = Int.toNat (6 * dim W * dim H) ∧ Int.toNat (6 * (1 +
 Int.tmod W 4) * (1 + Int.tmod H 4)) = Int.toNat (6 * dim W * dim H) ∧ replicate (Int.toNat (6 * (1 + Int.tmod W 4) * (1 + Int.tmod H 4))) (0 : Int) = replicate (Int.toNat (6 * (1 + Int.tmod W 4) * (1
 + Int.tmod H 4))) (0 : Int) ∧ 0 = 0 ∧ 0 = 0 ∧ 0 = 0 ∧ Int.toNat (6 * (1 + Int.tmod W 4) * (1 + Int.tmod H 4)) = Int.toNat (6 * (1 + Int.tmod W 4) * (1 + Int.tmod H 4)) ∧ iI 0 = 0 ∧ (∃ (m : Nat), 0 =
 (↑m : Int) ∧ (↑m : Int) ≤ 6 * dim W * dim H ∧ m ≤ length ks ∧ replicate (Int.toNat (6 * (1 + Int.tmod W 4) * (1 + Int.tmod H 4))) (0 : Int) = map (fun (k : Int) => Int.tmod k 4) (take m ks) ++
 replicate (Int.toNat (6 * dim W * dim H) - m) (0 : Int)) ∧ ∀ (b : L19), (∃ (m : Nat), b.i = (↑m : Int) ∧ (↑m : Int) ≤ 6 * dim W * dim H ∧ m ≤ length ks ∧ b.l = map (fun (k : Int) => Int.tmod k 4)
 (take m ks) ++ replicate (Int.toNat (6 * dim W * dim H) - m) (0 : Int)) → Int.toNat (6 * dim W * dim H) = Int.toNat (6 * (1 + Int.tmod W 4) * (1 + Int.tmod H 4)) ∧ (ltb b.i (↑(Int.toNat (6 * (1 +
 Int.tmod W 4) * (1 + Int.tmod H 4))) : Int) = true → (ltb b.i (↑(length ks) : Int) = true → leb 0 b.i = true ∧ ltb b.i (↑(length ks) : Int) = true ∧ ltn 0 (Cont.size (Cont.ints u8 ks)) = true ∧ ltn 0
 (Cont.size (Cont.ints u8 (drop (Int.toNat b.i) ks))) = true ∧ leb 0 b.i = true ∧ ltb b.i (↑(Int.toNat (6 * (1 + Int.tmod W 4) * (1 + Int.tmod H 4))) : Int) = true ∧ Int.toNat (6 * dim W * dim H) =
 Int.toNat (6 * (1 + Int.tmod W 4) * (1 + Int.tmod H 4)) ∧ Int.toNat (6 * dim W * dim H) = Int.toNat (6 * (1 + Int.tmod W 4) * (1 + Int.tmod H 4)) ∧ len' (Int.toNat b.i + 1) (Cont.size (Cont.ints u8
 b.l)) = true ∧ inR i64 (b.i + 1) = true ∧ 1 = 1 ∧ W = W ∧ H = H ∧ Cont.ints u8 ks = Cont.ints u8 ks ∧ length ks = length ks ∧ 1 = 1 ∧ iI 0 = 0 ∧ iI 0 = 0 ∧ 1 = 1 ∧ 1 + Int.tmod W 4 = 1 + Int.tmod W 4
 ∧ 1 + Int.tmod H 4 = 1 + Int.tmod H 4 ∧ Int.toNat (6 * dim W * dim H) = Int.toNat (6 * dim W * dim H) ∧ Int.toNat (6 * dim W * dim H) = Int.toNat (6 * dim W * dim H) ∧ set b.l (Int.toNat b.i)
 (Int.tmod (getD (drop (Int.toNat b.i) ks) 0 0) 4) = set b.l (Int.toNat b.i) (Int.tmod (getD (drop (Int.toNat b.i) ks) 0 0) 4) ∧ 0 = 0 ∧ 0 = 0 ∧ 0 = 0 ∧ Int.toNat (6 * (1 + Int.tmod W 4) * (1 +
 Int.tmod H 4)) = Int.toNat (6 * (1 + Int.tmod W 4) * (1 + Int.tmod H 4)) ∧ b.i + 1 = b.i + 1 ∧ (∃ (m : Nat), b.i + 1 = (↑m : Int) ∧ (↑m : Int) ≤ 6 * dim W * dim H ∧ m ≤ length ks ∧ set b.l (Int.toNat
 b.i) (Int.tmod (getD (drop (Int.toNat b.i) ks) 0 0) 4) = map (fun (k : Int) => Int.tmod k 4) (take m ks) ++ replicate (Int.toNat (6 * dim W * dim H) - m) (0 : Int)) ∧ Int.toNat (6 * dim W * dim H) -
 Int.toNat (b.i + 1) < Int.toNat (6 * dim W * dim H) - Int.toNat b.i ∧ True) ∧ (ltb b.i (↑(length ks) : Int) = false → Int.toNat (6 * dim W * dim H) = Int.toNat (6 * (1 + Int.tmod W 4) * (1 + Int.tmod
 H 4)) ∧ (s5 (1 + Int.tmod W 4) (1 + Int.tmod H 4) ∧ Int.toNat (6 * (1 + Int.tmod W 4) * (1 + Int.tmod H 4)) = length b.l ∧ length b.l < 1000000000) ∧ length (wthL (units (1 + Int.tmod W 4) (1 +
 Int.tmod H 4)) b.l) = length (ofL W H ks) ∧ flatC (wthL (units (1 + Int.tmod W 4) (1 + Int.tmod H 4)) b.l) = flatC (ofL W H ks) ∧ 1 + Int.tmod W 4 = dim W ∧ 1 + Int.tmod H 4 = dim H ∧ length (wthL
 (units (1 + Int.tmod W 4) (1 + Int.tmod H 4)) b.l) = length (ofL W H ks) ∧ True)) ∧ (ltb b.i (↑(Int.toNat (6 * (1 + Int.tmod W 4) * (1 + Int.tmod H 4))) : Int) = false → Int.toNat (6 * dim W * dim H)
 = Int.toNat (6 * (1 + Int.tmod W 4) * (1 + Int.tmod H 4)) ∧ (s5 (1 + Int.tmod W 4) (1 + Int.tmod H 4) ∧ Int.toNat (6 * (1 + Int.tmod W 4) * (1 + Int.tmod H 4)) = length b.l ∧ length b.l < 1000000000)
 ∧ length (wthL (units (1 + Int.tmod W 4) (1 + Int.tmod H 4)) b.l) = length (ofL W H ks) ∧ flatC (wthL (units (1 + Int.tmod W 4) (1 + Int.tmod H 4)) b.l) = flatC (ofL W H ks) ∧ 1 + Int.tmod W 4 = dim W
 ∧ 1 + Int.tmod H 4 = dim H ∧ length (wthL (units (1 + Int.tmod W 4) (1 + Int.tmod H 4)) b.l) = length (ofL W H ks) ∧ True)) := by kernel_rfl

theorem ob_o35 (W H : Int) : fnP (T0) G 10000 fe35 (.r [] 0 (.r [] 307 .nil)) ([.agg [.int .u8 W, .int .u8 H]]) ([.agg [.int .i64 (dim5 W), .int .i64 (dim5 H)]]) ([]) = (
 inR i64 (Int.tmod W 5) = true ∧ inR i64 (1 + Int.tmod W 5) = true ∧ inR i64 (Int.tmod H 5) = true ∧ inR i64 (1 + Int.tmod H 5) = true ∧ 1 + Int.tmod W 5 = dim5 W ∧ 1 + Int.tmod H 5 = dim5 H ∧ True) := by kernel_rfl

end Go.Proofs.YtfpcbimohikhmaaDoor.X
