/-
 What is to be shown of the functions (made by a program).
-/
import Derived.Test.YtfpcbimohikhmaaDoorD5Z
import Derived.KernelRfl
set_option maxRecDepth 1000000
set_option linter.unusedVariables false
namespace Go.Proofs.YtfpcbimohikhmaaDoor.X
open Go Go.Ab
open List IntKind

theorem ob_o31 (w h : Int) : fnP (CS) G 10000 fe31 (.r [] 0 (.r [] 3 (.r [] 0 (.cnd (.r [] 1 .nil) (.r [] 3 .nil))))) ([.agg [.int .i64 w, .int .i64 h]]) ([.agg [.int .i64 (bI (okS w h) w 0), .int .i64 (bI (okS w h) h 0), .nils], .int .i64 (bI (okS w h) 0 1)]) ([]) = (
 ((bI (okS w h) 0 1 != 0) = true → 0 = bI (okS w h) w 0 ∧ 0 = bI (okS w h) h 0 ∧ bI (okS w h) 0 1 = bI (okS w h) 0 1 ∧ True) ∧ ((bI (okS w h) 0 1 != 0) = false → w = bI (okS w h) w 0 ∧ h = bI (okS w h)
 h 0 ∧ 0 = bI (okS w h) 0 1 ∧ True)) := by kernel_rfl

theorem ob_o30 (w h : Int) (l : List Cr) : fnP (CQ4) G 10000 fe30 (.r [] 0 (.r [] 3 (.cnd (.r [] 0 .nil) (.r [] 0 (.lp (k30 l) [] [] (fun b => (.r [] 1 (.cnd (.rs 8 [(453, .auto, Dr.val [AV.int u8 (cK l b.i)])] 1 28 (.r [(461, .auto, Dr.val [AV.int u8 (cK l b.i)])] 3 (.lit (.r [] 0 .nil))) (.r [(461, .auto, Dr.val [AV.int u8 (cK l b.i)])] 97 (.cnd (.r [] 0 .nil) (.r [] 0 .nil)))) (.r [] 1 (.r [] 0 (.r [] 0 (.r [] 0 (.lp (l30 (units w h) l) [] [] (fun b_1 => (.r [] 1 (.cnd (.r [] 0 (.r [] 0 (.lp (m30 (units w h) (cC l b_1.i) (cE l b_1.i)) [] [] (fun b_2 => (.r [] 0 (.cnd (.r [(1219, .auto, Dr.val [AV.int i64 (uC (units w h) b_2.i), AV.int u8 (uE (units w h) b_2.i)]), (1225, .auto, Dr.val [AV.int i64 (cC l b_1.i)]), (1231, .auto, Dr.val [AV.int u8 (cE l b_1.i)])] 1056 (.cnd (.r [] 0 (.r [] 0 .nil)) (.r [] 0 .nil))) (.r [] 0 (.cnd (.r [] 0 .nil) (.r [] 0 (.cnd (.r [] 0 (.r [] 0 (.r [] 0 .nil))) (.r [] 0 (.r [] 0 .nil)))))))))))) (.r [] 0 .nil))))))))))))))))) ([patV w h l]) ([.int .i64 (rchI w h l)]) ([]) = (
 ((bI (okS w h) 1 0 == 0) = true → 1 = rchI w h l ∧ True) ∧ ((bI (okS w h) 1 0 == 0) = false → 1 = 1 ∧ w = w ∧ h = h ∧ Cont.vals (flatC l) = Cont.vals (flatC l) ∧ length l = length l ∧ 0 = 0 ∧ iI 0 = 0
 ∧ (∃ (n : Nat), 0 = (↑n : Int) ∧ n ≤ length l ∧ badL (drop n l) = badL l) ∧ ∀ (b : L1), (∃ (n : Nat), b.i = (↑n : Int) ∧ n ≤ length l ∧ badL (drop n l) = badL l) → (ltb b.i (↑(length l) : Int) = true
 → leb 0 b.i = true ∧ ltb b.i (↑(length l) : Int) = true ∧ ltn 0 (Cont.size (Cont.vals (flatC l))) = true ∧ (drop 2 (drop (Int.toNat b.i * 3) (flatC l)))[0]? = some (AV.int u8 (cK l b.i)) ∧ (ltb (cK l
 b.i) 1 = true → 1 = rchI w h l ∧ True) ∧ (ltb (cK l b.i) 1 = false → leb 0 b.i = true ∧ ltb b.i (↑(length l) : Int) = true ∧ ltn 0 (Cont.size (Cont.vals (flatC l))) = true ∧ (drop 2 (drop (Int.toNat
 b.i * 3) (flatC l)))[0]? = some (AV.int u8 (cK l b.i)) ∧ (ltb 3 (cK l b.i) = true → 1 = rchI w h l ∧ True) ∧ (ltb 3 (cK l b.i) = false → inR i64 (b.i + 1) = true ∧ 1 = 1 ∧ w = w ∧ h = h ∧ Cont.vals
 (flatC l) = Cont.vals (flatC l) ∧ length l = length l ∧ 0 = 0 ∧ b.i + 1 = b.i + 1 ∧ (∃ (n : Nat), b.i + 1 = (↑n : Int) ∧ n ≤ length l ∧ badL (drop n l) = badL l) ∧ length l - Int.toNat (b.i + 1) <
 length l - Int.toNat b.i ∧ True))) ∧ (ltb b.i (↑(length l) : Int) = false → s5 w h ∧ 1 = 1 ∧ w = w ∧ h = h ∧ Cont.vals (flatC l) = Cont.vals (flatC l) ∧ length l = length l ∧ 0 = 0 ∧ ltb b.i (↑(length
 l) : Int) = ltb b.i (↑(length l) : Int) ∧ Cont.vals (flatU (units w h)) = Cont.vals (flatU (units w h)) ∧ length (units w h) = length (units w h) ∧ iI (-1) = -1 ∧ iI 0 = 0 ∧ iI 0 = 0 ∧ (∃ (n : Nat), 0
 = (↑n : Int) ∧ n ≤ length l ∧ rck (units w h) (-1) 0 (drop n l) = rck (units w h) (-1) 0 l) ∧ ∀ (b_1 : L3i), (∃ (n : Nat), b_1.i = (↑n : Int) ∧ n ≤ length l ∧ rck (units w h) b_1.p b_1.o (drop n l) =
 rck (units w h) (-1) 0 l) → (ltb b_1.i (↑(length l) : Int) = true → 1 = 1 ∧ w = w ∧ h = h ∧ Cont.vals (flatC l) = Cont.vals (flatC l) ∧ length l = length l ∧ 0 = 0 ∧ ltb b.i (↑(length l) : Int) = ltb
 b.i (↑(length l) : Int) ∧ Cont.vals (flatU (units w h)) = Cont.vals (flatU (units w h)) ∧ length (units w h) = length (units w h) ∧ b_1.p = b_1.p ∧ b_1.o = b_1.o ∧ b_1.i = b_1.i ∧ iI (-1) = -1 ∧ iI 0
 = 0 ∧ (∃ (n : Nat), 0 = (↑n : Int) ∧ n ≤ length (units w h) ∧ lkI (cC l b_1.i) (cE l b_1.i) (-1) (↑n : Int) (drop n (units w h)) = lkI (cC l b_1.i) (cE l b_1.i) (-1) 0 (units w h)) ∧ ∀ (b_2 : L2i), (∃
 (n : Nat), b_2.i = (↑n : Int) ∧ n ≤ length (units w h) ∧ lkI (cC l b_1.i) (cE l b_1.i) b_2.n (↑n : Int) (drop n (units w h)) = lkI (cC l b_1.i) (cE l b_1.i) (-1) 0 (units w h)) → (ltb b_2.i (↑(length
 (units w h)) : Int) = true → leb 0 b_2.i = true ∧ ltb b_2.i (↑(length (units w h)) : Int) = true ∧ ltn 0 (Cont.size (Cont.vals (flatU (units w h)))) = true ∧ (drop (Int.toNat b_2.i * 2) (flatU (units
 w h)))[0]? = some (AV.int i64 (uC (units w h) b_2.i)) ∧ (drop (Int.toNat b_2.i * 2) (flatU (units w h)))[1]? = some (AV.int u8 (uE (units w h) b_2.i)) ∧ leb 0 b_1.i = true ∧ ltb b_1.i (↑(length l) :
 Int) = true ∧ ltn 0 (Cont.size (Cont.vals (flatC l))) = true ∧ (drop 0 (drop (Int.toNat b_1.i * 3) (flatC l)))[0]? = some (AV.int i64 (cC l b_1.i)) ∧ leb 0 b_1.i = true ∧ ltb b_1.i (↑(length l) : Int)
 = true ∧ ltn 0 (Cont.size (Cont.vals (flatC l))) = true ∧ (drop 1 (drop (Int.toNat b_1.i * 3) (flatC l)))[0]? = some (AV.int u8 (cE l b_1.i)) ∧ ((uC (units w h) b_2.i == cC l b_1.i && uE (units w h)
 b_2.i == cE l b_1.i) = true → inR i64 (b_2.i + 1) = true ∧ 1 = 1 ∧ w = w ∧ h = h ∧ Cont.vals (flatC l) = Cont.vals (flatC l) ∧ length l = length l ∧ 0 = 0 ∧ ltb b.i (↑(length l) : Int) = ltb b.i
 (↑(length l) : Int) ∧ Cont.vals (flatU (units w h)) = Cont.vals (flatU (units w h)) ∧ length (units w h) = length (units w h) ∧ b_1.p = b_1.p ∧ b_1.o = b_1.o ∧ b_1.i = b_1.i ∧ b_2.i = b_2.i ∧ b_2.i +
 1 = b_2.i + 1 ∧ (∃ (n : Nat), b_2.i + 1 = (↑n : Int) ∧ n ≤ length (units w h) ∧ lkI (cC l b_1.i) (cE l b_1.i) b_2.i (↑n : Int) (drop n (units w h)) = lkI (cC l b_1.i) (cE l b_1.i) (-1) 0 (units w h))
 ∧ length (units w h) - Int.toNat (b_2.i + 1) < length (units w h) - Int.toNat b_2.i ∧ True) ∧ ((uC (units w h) b_2.i == cC l b_1.i && uE (units w h) b_2.i == cE l b_1.i) = false → inR i64 (b_2.i + 1)
 = true ∧ 1 = 1 ∧ w = w ∧ h = h ∧ Cont.vals (flatC l) = Cont.vals (flatC l) ∧ length l = length l ∧ 0 = 0 ∧ ltb b.i (↑(length l) : Int) = ltb b.i (↑(length l) : Int) ∧ Cont.vals (flatU (units w h)) =
 Cont.vals (flatU (units w h)) ∧ length (units w h) = length (units w h) ∧ b_1.p = b_1.p ∧ b_1.o = b_1.o ∧ b_1.i = b_1.i ∧ b_2.n = b_2.n ∧ b_2.i + 1 = b_2.i + 1 ∧ (∃ (n : Nat), b_2.i + 1 = (↑n : Int) ∧
 n ≤ length (units w h) ∧ lkI (cC l b_1.i) (cE l b_1.i) b_2.n (↑n : Int) (drop n (units w h)) = lkI (cC l b_1.i) (cE l b_1.i) (-1) 0 (units w h)) ∧ length (units w h) - Int.toNat (b_2.i + 1) < length
 (units w h) - Int.toNat b_2.i ∧ True)) ∧ (ltb b_2.i (↑(length (units w h)) : Int) = false → (ltb b_2.n 0 = true → 7 = rchI w h l ∧ True) ∧ (ltb b_2.n 0 = false → (leb b_2.n b_1.p = true → inR i64
 (b_1.i + 1) = true ∧ 1 = 1 ∧ w = w ∧ h = h ∧ Cont.vals (flatC l) = Cont.vals (flatC l) ∧ length l = length l ∧ 0 = 0 ∧ ltb b.i (↑(length l) : Int) = ltb b.i (↑(length l) : Int) ∧ Cont.vals (flatU
 (units w h)) = Cont.vals (flatU (units w h)) ∧ length (units w h) = length (units w h) ∧ b_2.n = b_2.n ∧ iI 6 = 6 ∧ b_1.i + 1 = b_1.i + 1 ∧ (∃ (n : Nat), b_1.i + 1 = (↑n : Int) ∧ n ≤ length l ∧ rck
 (units w h) b_2.n 6 (drop n l) = rck (units w h) (-1) 0 l) ∧ length l - Int.toNat (b_1.i + 1) < length l - Int.toNat b_1.i ∧ True) ∧ (leb b_2.n b_1.p = false → inR i64 (b_1.i + 1) = true ∧ 1 = 1 ∧ w =
 w ∧ h = h ∧ Cont.vals (flatC l) = Cont.vals (flatC l) ∧ length l = length l ∧ 0 = 0 ∧ ltb b.i (↑(length l) : Int) = ltb b.i (↑(length l) : Int) ∧ Cont.vals (flatU (units w h)) = Cont.vals (flatU
 (units w h)) ∧ length (units w h) = length (units w h) ∧ b_2.n = b_2.n ∧ b_1.o = b_1.o ∧ b_1.i + 1 = b_1.i + 1 ∧ (∃ (n : Nat), b_1.i + 1 = (↑n : Int) ∧ n ≤ length l ∧ rck (units w h) b_2.n b_1.o (drop
 n l) = rck (units w h) (-1) 0 l) ∧ length l - Int.toNat (b_1.i + 1) < length l - Int.toNat b_1.i ∧ True)))) ∧ (ltb b_1.i (↑(length l) : Int) = false → b_1.o = rchI w h l ∧ True)))) := by kernel_rfl

theorem ob_o25 (w h : Int) (l : List Cr) : fnP (CP5) G 10000 fe25 (.r [] 0 (.r [] 1 (.r [] 0 (.cnd (.r [] 1 (.ghc 65 2 9001 3 (Cont.vals []) .nil)) (.r [] 3 (.r [] 1 (.r [] 0 (.lp (l25 l) [] [] (fun b => (.r [] 0 (.cnd (.r [] 0 (.r [(646, .auto, Dr.val [AV.int u8 (cK l b.i)])] 0 (.r [] 0 .nil))) (.r [] 3 .nil)))))))))))) ([patV w h l]) ([patR (chkI w h l == 0) w h (opR w h l), .int .i64 (chkI w h l)]) ([blkR (opR w h l)]) = (
 (okA (flatC l) (length l) ∧ edg (unC (flatC l))) ∧ ((chkI w h (unC (flatC l)) != 0) = true → 0 = length (opR w h l) ∧ 0 = length (opR w h l) ∧ [] = flatC (opR w h l) ∧ 0 = bI (chkI w h l == 0) w 0 ∧ 0
 = bI (chkI w h l == 0) h 0 ∧ 0 = length (opR w h l) ∧ chkI w h (unC (flatC l)) = chkI w h l ∧ True) ∧ ((chkI w h (unC (flatC l)) != 0) = false → leb (↑(length l) : Int) (↑(length l) : Int) = true ∧
 leb ((↑(length l) : Int) * 16) 140737488355328 = true ∧ Int.toNat (↑(length l) : Int) = Int.toNat (↑(length l) : Int) ∧ length l = Int.toNat (↑(length l) : Int) ∧ Cont.size (Cont.vals (flatC l)) =
 length l * 3 ∧ Int.toNat (↑(length l) : Int) = Int.toNat (↑(length l) : Int) ∧ 1 = 1 ∧ w = w ∧ h = h ∧ Cont.vals (flatC l) = Cont.vals (flatC l) ∧ length l = length l ∧ 1 = 1 ∧ iI 0 = 0 ∧ iI 0 = 0 ∧
 Int.toNat (↑(length l) : Int) = length l ∧ Int.toNat (↑(length l) : Int) = length l ∧ [] ++ flatC l = [] ++ flatC l ∧ 0 = 0 ∧ 0 = 0 ∧ Int.toNat (↑(length l) : Int) = Int.toNat (↑(length l) : Int) ∧
 (↑(Int.toNat (↑(length l) : Int)) : Int) = (↑(Int.toNat (↑(length l) : Int)) : Int) ∧ iI 0 = 0 ∧ (∃ (n : Nat), 0 = (↑n : Int) ∧ n ≤ length l ∧ [] ++ flatC l = flatC (take n (opL l) ++ drop n l)) ∧ ∀
 (b : L25), (∃ (n : Nat), b.i = (↑n : Int) ∧ n ≤ length l ∧ b.l = flatC (take n (opL l) ++ drop n l)) → (ltb b.i (↑(Int.toNat (↑(length l) : Int)) : Int) = true → leb 0 b.i = true ∧ ltb b.i
 (↑(Int.toNat (↑(length l) : Int)) : Int) = true ∧ length l = Int.toNat (↑(length l) : Int) ∧ length l = Int.toNat (↑(length l) : Int) ∧ length l = Int.toNat (↑(length l) : Int) ∧ b.l[Int.toNat b.i * 3
 + 2]? = some (AV.int u8 (cK l b.i)) ∧ leb 0 (cK l b.i) = true ∧ ltb (cK l b.i) 4 = true ∧ ltn 0 (Cont.size (Cont.ints u8 (drop (Int.toNat (cK l b.i)) [0, 2, 1, 3]))) = true ∧ leb 0 b.i = true ∧ ltb
 b.i (↑(Int.toNat (↑(length l) : Int)) : Int) = true ∧ length l = Int.toNat (↑(length l) : Int) ∧ length l = Int.toNat (↑(length l) : Int) ∧ length l = Int.toNat (↑(length l) : Int) ∧ len' (Int.toNat
 b.i * 3 + 2 + 1) (Cont.size (Cont.vals b.l)) = true ∧ inR i64 (b.i + 1) = true ∧ 1 = 1 ∧ w = w ∧ h = h ∧ Cont.vals (flatC l) = Cont.vals (flatC l) ∧ length l = length l ∧ 1 = 1 ∧ iI 0 = 0 ∧ iI 0 = 0 ∧
 length l = length l ∧ length l = length l ∧ set b.l (Int.toNat b.i * 3 + 2) (AV.int u8 (getD (drop (Int.toNat (cK l b.i)) [0, 2, 1, 3]) 0 0)) = set b.l (Int.toNat b.i * 3 + 2) (AV.int u8 (getD (drop
 (Int.toNat (cK l b.i)) [0, 2, 1, 3]) 0 0)) ∧ 0 = 0 ∧ 0 = 0 ∧ Int.toNat (↑(length l) : Int) = Int.toNat (↑(length l) : Int) ∧ (↑(Int.toNat (↑(length l) : Int)) : Int) = (↑(Int.toNat (↑(length l) :
 Int)) : Int) ∧ b.i + 1 = b.i + 1 ∧ (∃ (n : Nat), b.i + 1 = (↑n : Int) ∧ n ≤ length l ∧ set b.l (Int.toNat b.i * 3 + 2) (AV.int u8 (getD (drop (Int.toNat (cK l b.i)) [0, 2, 1, 3]) 0 0)) = flatC (take n
 (opL l) ++ drop n l)) ∧ length l - Int.toNat (b.i + 1) < length l - Int.toNat b.i ∧ True) ∧ (ltb b.i (↑(Int.toNat (↑(length l) : Int)) : Int) = false → length l = length (opR w h l) ∧ length l =
 length (opR w h l) ∧ b.l = flatC (opR w h l) ∧ w = bI (chkI w h l == 0) w 0 ∧ h = bI (chkI w h l == 0) h 0 ∧ Int.toNat (↑(length l) : Int) = length (opR w h l) ∧ 0 = chkI w h l ∧ True))) := by kernel_rfl

end Go.Proofs.YtfpcbimohikhmaaDoor.X
