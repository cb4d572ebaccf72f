/-
 What is to be shown of the functions (made by a program).
-/
import Derived.Test.YtfpcbimohikhmaaDoorKZ
import Derived.KernelRfl
set_option maxRecDepth 1000000
set_option linter.unusedVariables false
namespace Go.Proofs.YtfpcbimohikhmaaDoor.X
open Go Go.Ab
open List IntKind

theorem ob_o24 (w h : Int) (l : List Cr) : fnP (CR1 w h (opL l)) G 10000 fe24 (.r [] 0 (.r [] 29 (.r [] 0 (.cnd (.r [] 1 (.ghc 65 2 9001 3 (Cont.vals []) .nil)) (.r [] 1 (.lp (l24 w h (opL l)) [] [] (fun b => (.r [] 0 (.cnd (.r [(450, .auto, Dr.val (crV (opL l) b.i))] 128 (.r [] 63 (.r [] 21 (.r [(643, .auto, Dr.val [AV.int u8 (mQ (qQ (cC (opL l) b.i)))])] 17 (.r [] 27 (.jn (j24 (min (mId w (cC (opL l) b.i)) (nbI w h (mId w (cC (opL l) b.i)) (mE (cE (opL l) b.i)))) (mE (cE (opL l) b.i))) [10] [] (.r [(774, .auto, Dr.val [AV.int u8 (mE (cE (opL l) b.i))])] 451 .nil) (fun b_1 => (.r [] 15 (.r [] 0 .nil))))))))) (.r [(962, .auto, Dr.heap)] 1 (.r [] 3 .nil))))))))))) ([patV w h l]) ([patR (chkI w h l == 0) w h (trL w h l), .int .i64 (chkI w h l)]) ([blkR (trL w h l)]) = (
 (okA (flatC l) (length l) ∧ length (unC (flatC l)) < 1000000 ∧ edg (unC (flatC l))) ∧ ((chkI w h (unC (flatC l)) != 0) = true → 0 = length (trL w h l) ∧ 0 = length (trL w h l) ∧ [] = flatC (trL w h l)
 ∧ 0 = bI (chkI w h l == 0) w 0 ∧ 0 = bI (chkI w h l == 0) h 0 ∧ 0 = length (trL w h l) ∧ chkI w h (unC (flatC l)) = chkI w h l ∧ True) ∧ ((chkI w h (unC (flatC l)) != 0) = false → length (opR w h (unC
 (flatC l))) = length (opR w h (unC (flatC l))) ∧ 1 = 1 ∧ w = w ∧ h = h ∧ Cont.vals (flatC l) = Cont.vals (flatC l) ∧ length l = length l ∧ 1 = 1 ∧ iI 0 = 0 ∧ iI 0 = 0 ∧ length (opR w h (unC (flatC
 l))) = length (opL l) ∧ length (opR w h (unC (flatC l))) = length (opL l) ∧ flatC (opR w h (unC (flatC l))) = flatC (opR w h (unC (flatC l))) ∧ 1 = 1 ∧ bI (chkI w h (unC (flatC l)) == 0) w 0 = bI
 (chkI w h (unC (flatC l)) == 0) w 0 ∧ bI (chkI w h (unC (flatC l)) == 0) h 0 = bI (chkI w h (unC (flatC l)) == 0) h 0 ∧ length (opR w h (unC (flatC l))) = length (opR w h (unC (flatC l))) ∧ 0 = 0 ∧ 0
 = 0 ∧ 0 = 0 ∧ length (opR w h (unC (flatC l))) = length (opR w h (unC (flatC l))) ∧ (↑(length (opR w h (unC (flatC l)))) : Int) = (↑(length (opR w h (unC (flatC l)))) : Int) ∧ iI 0 = 0 ∧ (∃ (n : Nat),
 0 = (↑n : Int) ∧ n ≤ length (opL l) ∧ flatC (opR w h (unC (flatC l))) = flatC (take n (mrL w h (opL l)) ++ drop n (opL l))) ∧ ∀ (b : L24), (∃ (n : Nat), b.i = (↑n : Int) ∧ n ≤ length (opL l) ∧ b.l =
 flatC (take n (mrL w h (opL l)) ++ drop n (opL l))) → (ltb b.i (↑(length (opR w h (unC (flatC l)))) : Int) = true → leb 0 b.i = true ∧ ltb b.i (↑(length (opR w h (unC (flatC l)))) : Int) = true ∧
 length (opL l) = length (opR w h (unC (flatC l))) ∧ length (opL l) = length (opR w h (unC (flatC l))) ∧ b.l[Int.toNat b.i * 3]? = some (AV.int i64 (cC (opL l) b.i)) ∧ b.l[Int.toNat b.i * 3 + 1]? =
 some (AV.int u8 (cE (opL l) b.i)) ∧ b.l[Int.toNat b.i * 3 + 1 + 1]? = some (AV.int u8 (cK (opL l) b.i)) ∧ inR i64 (w - 1) = true ∧ inR i64 (w - 1 - bI (okI w h (cC (opL l) b.i)) (qX w (cC (opL l)
 b.i)) 0) = true ∧ leb 0 (bI (okI w h (cC (opL l) b.i)) (qQ (cC (opL l) b.i)) 0) = true ∧ ltb (bI (okI w h (cC (opL l) b.i)) (qQ (cC (opL l) b.i)) 0) 4 = true ∧ [AV.int u8 0, AV.int u8 3, AV.int u8 2,
 AV.int u8 1][Int.toNat (bI (okI w h (cC (opL l) b.i)) (qQ (cC (opL l) b.i)) 0)]? = some (AV.int u8 (mQ (qQ (cC (opL l) b.i)))) ∧ (okS w h = true ∧ 0 ≤ mQ (qQ (cC (opL l) b.i)) ∧ mQ (qQ (cC (opL l)
 b.i)) ≤ 3 ∧ (-1000 ≤ w - 1 - bI (okI w h (cC (opL l) b.i)) (qX w (cC (opL l) b.i)) 0 ∧ w - 1 - bI (okI w h (cC (opL l) b.i)) (qX w (cC (opL l) b.i)) 0 ≤ 1000) ∧ -1000 ≤ bI (okI w h (cC (opL l) b.i))
 (qY w (cC (opL l) b.i)) 0 ∧ bI (okI w h (cC (opL l) b.i)) (qY w (cC (opL l) b.i)) 0 ≤ 1000) ∧ (leb 0 (cE (opL l) b.i) = true ∧ ltb (cE (opL l) b.i) 3 = true ∧ [AV.int u8 0, AV.int u8 2, AV.int u8
 1][Int.toNat (cE (opL l) b.i)]? = some (AV.int u8 (mE (cE (opL l) b.i))) ∧ 0 ≤ mE (cE (opL l) b.i) ∧ 1 = 1 ∧ w = w ∧ h = h ∧ Cont.vals (flatC l) = Cont.vals (flatC l) ∧ length l = length l ∧ 1 = 1 ∧
 iI 0 = 0 ∧ iI 0 = 0 ∧ length (opL l) = length (opL l) ∧ length (opL l) = length (opL l) ∧ b.l = b.l ∧ 1 = 1 ∧ bI (chkI w h (unC (flatC l)) == 0) w 0 = bI (chkI w h (unC (flatC l)) == 0) w 0 ∧ bI (chkI
 w h (unC (flatC l)) == 0) h 0 = bI (chkI w h (unC (flatC l)) == 0) h 0 ∧ length (opR w h (unC (flatC l))) = length (opR w h (unC (flatC l))) ∧ 1 = 1 ∧ cC (opL l) b.i = cC (opL l) b.i ∧ cE (opL l) b.i
 = cE (opL l) b.i ∧ cK (opL l) b.i = cK (opL l) b.i ∧ 1 = 1 ∧ w - 1 - bI (okI w h (cC (opL l) b.i)) (qX w (cC (opL l) b.i)) 0 = w - 1 - bI (okI w h (cC (opL l) b.i)) (qX w (cC (opL l) b.i)) 0 ∧ bI (okI
 w h (cC (opL l) b.i)) (qY w (cC (opL l) b.i)) 0 = bI (okI w h (cC (opL l) b.i)) (qY w (cC (opL l) b.i)) 0 ∧ mQ (qQ (cC (opL l) b.i)) = mQ (qQ (cC (opL l) b.i)) ∧ 1 = 1 ∧ nmC w h (bI (inB w h (w - 1 -
 bI (okI w h (cC (opL l) b.i)) (qX w (cC (opL l) b.i)) 0) (bI (okI w h (cC (opL l) b.i)) (qY w (cC (opL l) b.i)) 0)) (4 * (bI (okI w h (cC (opL l) b.i)) (qY w (cC (opL l) b.i)) 0 * w + (w - 1 - bI (okI
 w h (cC (opL l) b.i)) (qX w (cC (opL l) b.i)) 0)) + mQ (qQ (cC (opL l) b.i))) 0) (mE (cE (opL l) b.i)) = nmC w h (bI (inB w h (w - 1 - bI (okI w h (cC (opL l) b.i)) (qX w (cC (opL l) b.i)) 0) (bI (okI
 w h (cC (opL l) b.i)) (qY w (cC (opL l) b.i)) 0)) (4 * (bI (okI w h (cC (opL l) b.i)) (qY w (cC (opL l) b.i)) 0 * w + (w - 1 - bI (okI w h (cC (opL l) b.i)) (qX w (cC (opL l) b.i)) 0)) + mQ (qQ (cC
 (opL l) b.i))) 0) (mE (cE (opL l) b.i)) ∧ nmE w h (bI (inB w h (w - 1 - bI (okI w h (cC (opL l) b.i)) (qX w (cC (opL l) b.i)) 0) (bI (okI w h (cC (opL l) b.i)) (qY w (cC (opL l) b.i)) 0)) (4 * (bI
 (okI w h (cC (opL l) b.i)) (qY w (cC (opL l) b.i)) 0 * w + (w - 1 - bI (okI w h (cC (opL l) b.i)) (qX w (cC (opL l) b.i)) 0)) + mQ (qQ (cC (opL l) b.i))) 0) (mE (cE (opL l) b.i)) = nmE w h (bI (inB w
 h (w - 1 - bI (okI w h (cC (opL l) b.i)) (qX w (cC (opL l) b.i)) 0) (bI (okI w h (cC (opL l) b.i)) (qY w (cC (opL l) b.i)) 0)) (4 * (bI (okI w h (cC (opL l) b.i)) (qY w (cC (opL l) b.i)) 0 * w + (w -
 1 - bI (okI w h (cC (opL l) b.i)) (qX w (cC (opL l) b.i)) 0)) + mQ (qQ (cC (opL l) b.i))) 0) (mE (cE (opL l) b.i)) ∧ 0 = 0 ∧ 0 = 0 ∧ 0 = 0 ∧ length (opR w h (unC (flatC l))) = length (opR w h (unC
 (flatC l))) ∧ (↑(length (opR w h (unC (flatC l)))) : Int) = (↑(length (opR w h (unC (flatC l)))) : Int) ∧ b.i = b.i ∧ 0 = 0 ∧ b.i = b.i ∧ 0 = 0 ∧ (nmC w h (bI (inB w h (w - 1 - bI (okI w h (cC (opL l)
 b.i)) (qX w (cC (opL l) b.i)) 0) (bI (okI w h (cC (opL l) b.i)) (qY w (cC (opL l) b.i)) 0)) (4 * (bI (okI w h (cC (opL l) b.i)) (qY w (cC (opL l) b.i)) 0 * w + (w - 1 - bI (okI w h (cC (opL l) b.i))
 (qX w (cC (opL l) b.i)) 0)) + mQ (qQ (cC (opL l) b.i))) 0) (mE (cE (opL l) b.i)) = min (mId w (cC (opL l) b.i)) (nbI w h (mId w (cC (opL l) b.i)) (mE (cE (opL l) b.i))) ∧ nmE w h (bI (inB w h (w - 1 -
 bI (okI w h (cC (opL l) b.i)) (qX w (cC (opL l) b.i)) 0) (bI (okI w h (cC (opL l) b.i)) (qY w (cC (opL l) b.i)) 0)) (4 * (bI (okI w h (cC (opL l) b.i)) (qY w (cC (opL l) b.i)) 0 * w + (w - 1 - bI (okI
 w h (cC (opL l) b.i)) (qX w (cC (opL l) b.i)) 0)) + mQ (qQ (cC (opL l) b.i))) 0) (mE (cE (opL l) b.i)) = mE (cE (opL l) b.i)) ∧ True) ∧ ∀ (b_1 : L2b), b_1.c = min (mId w (cC (opL l) b.i)) (nbI w h
 (mId w (cC (opL l) b.i)) (mE (cE (opL l) b.i))) ∧ b_1.e = mE (cE (opL l) b.i) → leb 0 b.i = true ∧ ltb b.i (↑(length (opR w h (unC (flatC l)))) : Int) = true ∧ length (opL l) = length (opR w h (unC
 (flatC l))) ∧ length (opL l) = length (opR w h (unC (flatC l))) ∧ len' (Int.toNat b.i * 3 + 3) (Cont.size (Cont.vals b.l)) = true ∧ inR i64 (b.i + 1) = true ∧ 1 = 1 ∧ w = w ∧ h = h ∧ Cont.vals (flatC
 l) = Cont.vals (flatC l) ∧ length l = length l ∧ 1 = 1 ∧ iI 0 = 0 ∧ iI 0 = 0 ∧ length (opL l) = length (opL l) ∧ length (opL l) = length (opL l) ∧ set (set (set b.l (Int.toNat b.i * 3) (AV.int i64
 b_1.c)) (Int.toNat b.i * 3 + 1) (AV.int u8 b_1.e)) (Int.toNat b.i * 3 + 1 + 1) (AV.int u8 (cK (opL l) b.i)) = set (set (set b.l (Int.toNat b.i * 3) (AV.int i64 b_1.c)) (Int.toNat b.i * 3 + 1) (AV.int
 u8 b_1.e)) (Int.toNat b.i * 3 + 1 + 1) (AV.int u8 (cK (opL l) b.i)) ∧ 1 = 1 ∧ bI (chkI w h (unC (flatC l)) == 0) w 0 = bI (chkI w h (unC (flatC l)) == 0) w 0 ∧ bI (chkI w h (unC (flatC l)) == 0) h 0 =
 bI (chkI w h (unC (flatC l)) == 0) h 0 ∧ length (opR w h (unC (flatC l))) = length (opR w h (unC (flatC l))) ∧ 0 = 0 ∧ 0 = 0 ∧ 0 = 0 ∧ length (opR w h (unC (flatC l))) = length (opR w h (unC (flatC
 l))) ∧ (↑(length (opR w h (unC (flatC l)))) : Int) = (↑(length (opR w h (unC (flatC l)))) : Int) ∧ b.i + 1 = b.i + 1 ∧ (∃ (n : Nat), b.i + 1 = (↑n : Int) ∧ n ≤ length (opL l) ∧ set (set (set b.l
 (Int.toNat b.i * 3) (AV.int i64 b_1.c)) (Int.toNat b.i * 3 + 1) (AV.int u8 b_1.e)) (Int.toNat b.i * 3 + 1 + 1) (AV.int u8 (cK (opL l) b.i)) = flatC (take n (mrL w h (opL l)) ++ drop n (opL l))) ∧
 length (opL l) - Int.toNat (b.i + 1) < length (opL l) - Int.toNat b.i ∧ True) ∧ (ltb b.i (↑(length (opR w h (unC (flatC l)))) : Int) = false → ([(8256, HO.blk (Blk.mk (Cont.vals b.l) 3 (length (opL
 l)) (some (length (opL l))) none true false))] = [(8256, HO.blk (Blk.mk (Cont.vals (flatC (mrL w h (opL l)))) 3 (length (opR w h (unC (flatC l)))) (some (length (opR w h (unC (flatC l))))) none true
 false))] ∧ length (opR w h (unC (flatC l))) = length (mrL w h (opL l)) ∧ length (opR w h (unC (flatC l))) < 1000000 ∧ ∀ (x : Cr), x ∈ mrL w h (opL l) → bndC x) ∧ length (opR w h (unC (flatC l))) =
 length (trL w h l) ∧ length (opR w h (unC (flatC l))) = length (trL w h l) ∧ flatC (srtC (mrL w h (opL l))) = flatC (trL w h l) ∧ bI (chkI w h (unC (flatC l)) == 0) w 0 = bI (chkI w h l == 0) w 0 ∧ bI
 (chkI w h (unC (flatC l)) == 0) h 0 = bI (chkI w h l == 0) h 0 ∧ length (opR w h (unC (flatC l))) = length (trL w h l) ∧ 0 = chkI w h l ∧ True))) := by kernel_rfl

theorem ob_o63 (w h c e : Int) : fnP (CE1) G 10000 fe63 (.r [] 0 (.jn (j63 (qX w c) (qY w c) (qQ c)) [2] [] (.r [] 11373 .nil) (fun b => (.r [] 397 (.r [] 0 (.r [] 0 (.gho 8 9001 2 (Cont.vals []) (.lp (l63 b.x b.y b.q e) [] [] (fun b_1 => (.r [] 0 (.cnd (.r [] 0 (.lp (m63 b.x b.y b.q e b_1.i) [] [] (fun b_2 => (.r [] 0 (.cnd (.r [(706, .auto, Dr.val [AV.int i64 (crX b.x b.q b_1.i), AV.int i64 (crY b.y b.q b_1.i)]), (709, .auto, Dr.val
 [AV.int i64 (crX (nbX b.x b.q e) (nbQ b.q e) b_2.i),
  AV.int i64 (crY (nbY b.y b.q e) (nbQ b.q e) b_2.i)])] 0 (.cnd (.r [(771, .auto, Dr.val [AV.int i64 (crX b.x b.q b_1.i), AV.int i64 (crY b.y b.q b_1.i)])] 64 (.r [] 0 .nil)) (.r [] 0 .nil))) (.r [] 0 .nil)))))) (.frz 8 0 (.r [(835, .auto, Dr.val [AV.int i64 (shX b.x b.y b.q e 1)]), (839, .auto, Dr.val [AV.int i64 (shX b.x b.y b.q e 0)]), yM 842, yM 843, yM 844, (845, .may, Dr.val [AV.int i64 (shX b.x b.y b.q e 1)]), yM 846, yM 847, yM 848, (849, .may, Dr.val [AV.int i64 (shX b.x b.y b.q e 0)]), yM 850, yM 851, yM 852, yM 853, yM 854, (855, .may, Dr.val [AV.int i64 (shY b.x b.y b.q e 1)]), yM 856, yM 857, yM 858, (859, .may, Dr.val [AV.int i64 (shY b.x b.y b.q e 0)]), yM 860, yM 861] 4402375098897 (.cnd (.r [(898, .auto, Dr.val [AV.int i64 (shX b.x b.y b.q e 1), AV.int i64 (shY b.x b.y b.q e 1)]), (901, .auto, Dr.val [AV.int i64 (shX b.x b.y b.q e 0), AV.int i64 (shY b.x b.y b.q e 0)])] 1057 .nil) (.r [(962, .auto, Dr.val [AV.int i64 (shX b.x b.y b.q e 0), AV.int i64 (shY b.x b.y b.q e 0)]), (965, .auto, Dr.val [AV.int i64 (shX b.x b.y b.q e 1), AV.int i64 (shY b.x b.y b.q e 1)])] 1057 .nil))))))))))))))) ([.agg [.int .i64 w, .int .i64 h], .agg [.int .i64 c, .int .u8 e]]) ([.agg [.int .i64 (enV w c e 0), .int .i64 (enV w c e 1), .int .i64 (enV w c e 2), .int .i64 (enV w c e 3)]]) ([]) = (
 (inR i64 (Int.tdiv c 4) = true ∧ (!w == 0) = true ∧ inR i64 (4 * w) = true ∧ inR i64 (Int.tdiv c (4 * w)) = true ∧ (!4 * w == 0) = true ∧ inR u8 (Int.tmod c 4) = true ∧ 1 = 1 ∧ w = w ∧ h = h ∧ 1 = 1 ∧
 c = c ∧ e = e ∧ 2 = 2 ∧ iI 0 = 0 ∧ iI 0 = 0 ∧ iI 0 = 0 ∧ iI 0 = 0 ∧ 1 = 1 ∧ Int.tmod (Int.tdiv c 4) w = Int.tmod (Int.tdiv c 4) w ∧ Int.tdiv c (4 * w) = Int.tdiv c (4 * w) ∧ Int.tmod c 4 = Int.tmod c
 4 ∧ 0 = 0 ∧ 0 = 0 ∧ 0 = 0 ∧ (Int.tmod (Int.tdiv c 4) w = qX w c ∧ Int.tdiv c (4 * w) = qY w c ∧ Int.tmod c 4 = qQ c) ∧ True) ∧ ∀ (b : L3b), b.x = qX w c ∧ b.y = qY w c ∧ b.q = qQ c → (sml b.x ∧ sml
 b.y ∧ 0 ≤ b.q ∧ b.q ≤ 3) ∧ inR i64 e = true ∧ (0 ≤ b.x ∧ b.x ≤ 4 ∧ 0 ≤ b.y ∧ b.y ≤ 4 ∧ 0 ≤ b.q ∧ b.q ≤ 3 ∧ 0 ≤ e ∧ e ≤ 2) ∧ (sml (nbX b.x b.q e) ∧ sml (nbY b.y b.q e) ∧ 0 ≤ nbQ b.q e ∧ nbQ b.q e ≤ 3)
 ∧ 1 = 1 ∧ w = w ∧ h = h ∧ 1 = 1 ∧ c = c ∧ e = e ∧ 2 = 2 ∧ iI 0 = 0 ∧ iI 0 = 0 ∧ iI 0 = 0 ∧ iI 0 = 0 ∧ 1 = 1 ∧ b.x = b.x ∧ b.y = b.y ∧ b.q = b.q ∧ 3 = 3 ∧ 2 * b.x + 1 = 2 * b.x + 1 ∧ 2 * b.y + 1 = 2 *
 b.y + 1 ∧ 2 * b.x + hQ b.q = 2 * b.x + hQ b.q ∧ 2 * b.y + hQ b.q = 2 * b.y + hQ b.q ∧ 2 * b.x + gQ b.q = 2 * b.x + gQ b.q ∧ 2 * b.y + (2 - gQ b.q) = 2 * b.y + (2 - gQ b.q) ∧ 3 = 3 ∧ 2 * nbX b.x b.q e
 + 1 = 2 * nbX b.x b.q e + 1 ∧ 2 * nbY b.y b.q e + 1 = 2 * nbY b.y b.q e + 1 ∧ 2 * nbX b.x b.q e + hQ (nbQ b.q e) = 2 * nbX b.x b.q e + hQ (nbQ b.q e) ∧ 2 * nbY b.y b.q e + hQ (nbQ b.q e) = 2 * nbY b.y
 b.q e + hQ (nbQ b.q e) ∧ 2 * nbX b.x b.q e + gQ (nbQ b.q e) = 2 * nbX b.x b.q e + gQ (nbQ b.q e) ∧ 2 * nbY b.y b.q e + (2 - gQ (nbQ b.q e)) = 2 * nbY b.y b.q e + (2 - gQ (nbQ b.q e)) ∧ 0 = 0 ∧ ([] :
 List AV) = [] ∧ 0 = 0 ∧ 0 = 0 ∧ 0 = 0 ∧ 0 = 0 ∧ iI 0 = 0 ∧ (∃ (k : Nat), 0 = (↑k : Int) ∧ k ≤ 3 ∧ [] = flatP b.x b.y b.q (shL b.x b.y b.q e (3 * k)) ∧ 0 = length (shL b.x b.y b.q e (3 * k))) ∧ ∀ (b_1
 : L20), (∃ (k : Nat), b_1.i = (↑k : Int) ∧ k ≤ 3 ∧ b_1.l = flatP b.x b.y b.q (shL b.x b.y b.q e (3 * k)) ∧ b_1.n = length (shL b.x b.y b.q e (3 * k))) → (ltb b_1.i 3 = true → 1 = 1 ∧ w = w ∧ h = h ∧ 1
 = 1 ∧ c = c ∧ e = e ∧ 2 = 2 ∧ iI 0 = 0 ∧ iI 0 = 0 ∧ iI 0 = 0 ∧ iI 0 = 0 ∧ 1 = 1 ∧ b.x = b.x ∧ b.y = b.y ∧ b.q = b.q ∧ 3 = 3 ∧ 2 * b.x + 1 = 2 * b.x + 1 ∧ 2 * b.y + 1 = 2 * b.y + 1 ∧ 2 * b.x + hQ b.q =
 2 * b.x + hQ b.q ∧ 2 * b.y + hQ b.q = 2 * b.y + hQ b.q ∧ 2 * b.x + gQ b.q = 2 * b.x + gQ b.q ∧ 2 * b.y + (2 - gQ b.q) = 2 * b.y + (2 - gQ b.q) ∧ 3 = 3 ∧ 2 * nbX b.x b.q e + 1 = 2 * nbX b.x b.q e + 1 ∧
 2 * nbY b.y b.q e + 1 = 2 * nbY b.y b.q e + 1 ∧ 2 * nbX b.x b.q e + hQ (nbQ b.q e) = 2 * nbX b.x b.q e + hQ (nbQ b.q e) ∧ 2 * nbY b.y b.q e + hQ (nbQ b.q e) = 2 * nbY b.y b.q e + hQ (nbQ b.q e) ∧ 2 *
 nbX b.x b.q e + gQ (nbQ b.q e) = 2 * nbX b.x b.q e + gQ (nbQ b.q e) ∧ 2 * nbY b.y b.q e + (2 - gQ (nbQ b.q e)) = 2 * nbY b.y b.q e + (2 - gQ (nbQ b.q e)) ∧ b_1.n = b_1.n ∧ b_1.l = b_1.l ∧ 0 = 0 ∧ 0 =
 0 ∧ 0 = 0 ∧ b_1.n = b_1.n ∧ b_1.i = b_1.i ∧ iI 0 = 0 ∧ (∃ (k : Nat), 0 = (↑k : Int) ∧ k ≤ 3 ∧ b_1.l = flatP b.x b.y b.q (shL b.x b.y b.q e (3 * Int.toNat b_1.i + k)) ∧ b_1.n = length (shL b.x b.y b.q
 e (3 * Int.toNat b_1.i + k))) ∧ ∀ (b_2 : L20), (∃ (k : Nat), b_2.i = (↑k : Int) ∧ k ≤ 3 ∧ b_2.l = flatP b.x b.y b.q (shL b.x b.y b.q e (3 * Int.toNat b_1.i + k)) ∧ b_2.n = length (shL b.x b.y b.q e (3
 * Int.toNat b_1.i + k))) → (ltb b_2.i 3 = true → leb 0 b_1.i = true ∧ ltb b_1.i 3 = true ∧ [AV.int i64 (2 * b.x + 1), AV.int i64 (2 * b.y + 1), AV.int i64 (2 * b.x + hQ b.q), AV.int i64 (2 * b.y + hQ
 b.q), AV.int i64 (2 * b.x + gQ b.q), AV.int i64 (2 * b.y + (2 - gQ b.q))][Int.toNat b_1.i * 2]? = some (AV.int i64 (crX b.x b.q b_1.i)) ∧ [AV.int i64 (2 * b.x + 1), AV.int i64 (2 * b.y + 1), AV.int
 i64 (2 * b.x + hQ b.q), AV.int i64 (2 * b.y + hQ b.q), AV.int i64 (2 * b.x + gQ b.q), AV.int i64 (2 * b.y + (2 - gQ b.q))][Int.toNat b_1.i * 2 + 1]? = some (AV.int i64 (crY b.y b.q b_1.i)) ∧ leb 0
 b_2.i = true ∧ ltb b_2.i 3 = true ∧ [AV.int i64 (2 * nbX b.x b.q e + 1), AV.int i64 (2 * nbY b.y b.q e + 1), AV.int i64 (2 * nbX b.x b.q e + hQ (nbQ b.q e)), AV.int i64 (2 * nbY b.y b.q e + hQ (nbQ
 b.q e)), AV.int i64 (2 * nbX b.x b.q e + gQ (nbQ b.q e)), AV.int i64 (2 * nbY b.y b.q e + (2 - gQ (nbQ b.q e)))][Int.toNat b_2.i * 2]? = some (AV.int i64 (crX (nbX b.x b.q e) (nbQ b.q e) b_2.i)) ∧
 [AV.int i64 (2 * nbX b.x b.q e + 1), AV.int i64 (2 * nbY b.y b.q e + 1), AV.int i64 (2 * nbX b.x b.q e + hQ (nbQ b.q e)), AV.int i64 (2 * nbY b.y b.q e + hQ (nbQ b.q e)), AV.int i64 (2 * nbX b.x b.q e
 + gQ (nbQ b.q e)), AV.int i64 (2 * nbY b.y b.q e + (2 - gQ (nbQ b.q e)))][Int.toNat b_2.i * 2 + 1]? = some (AV.int i64 (crY (nbY b.y b.q e) (nbQ b.q e) b_2.i)) ∧ ((crX b.x b.q b_1.i == crX (nbX b.x
 b.q e) (nbQ b.q e) b_2.i && crY b.y b.q b_1.i == crY (nbY b.y b.q e) (nbQ b.q e) b_2.i) = true → leb 0 b_1.i = true ∧ ltb b_1.i 3 = true ∧ [AV.int i64 (2 * b.x + 1), AV.int i64 (2 * b.y + 1), AV.int
 i64 (2 * b.x + hQ b.q), AV.int i64 (2 * b.y + hQ b.q), AV.int i64 (2 * b.x + gQ b.q), AV.int i64 (2 * b.y + (2 - gQ b.q))][Int.toNat b_1.i * 2]? = some (AV.int i64 (crX b.x b.q b_1.i)) ∧ [AV.int i64
 (2 * b.x + 1), AV.int i64 (2 * b.y + 1), AV.int i64 (2 * b.x + hQ b.q), AV.int i64 (2 * b.y + hQ b.q), AV.int i64 (2 * b.x + gQ b.q), AV.int i64 (2 * b.y + (2 - gQ b.q))][Int.toNat b_1.i * 2 + 1]? =
 some (AV.int i64 (crY b.y b.q b_1.i)) ∧ b_2.n = b_2.n ∧ len' ((b_2.n + 1) * 16) 140737488355328 = true ∧ inR i64 (b_2.i + 1) = true ∧ 1 = 1 ∧ w = w ∧ h = h ∧ 1 = 1 ∧ c = c ∧ e = e ∧ 2 = 2 ∧ iI 0 = 0 ∧
 iI 0 = 0 ∧ iI 0 = 0 ∧ iI 0 = 0 ∧ 1 = 1 ∧ b.x = b.x ∧ b.y = b.y ∧ b.q = b.q ∧ 3 = 3 ∧ 2 * b.x + 1 = 2 * b.x + 1 ∧ 2 * b.y + 1 = 2 * b.y + 1 ∧ 2 * b.x + hQ b.q = 2 * b.x + hQ b.q ∧ 2 * b.y + hQ b.q = 2
 * b.y + hQ b.q ∧ 2 * b.x + gQ b.q = 2 * b.x + gQ b.q ∧ 2 * b.y + (2 - gQ b.q) = 2 * b.y + (2 - gQ b.q) ∧ 3 = 3 ∧ 2 * nbX b.x b.q e + 1 = 2 * nbX b.x b.q e + 1 ∧ 2 * nbY b.y b.q e + 1 = 2 * nbY b.y b.q
 e + 1 ∧ 2 * nbX b.x b.q e + hQ (nbQ b.q e) = 2 * nbX b.x b.q e + hQ (nbQ b.q e) ∧ 2 * nbY b.y b.q e + hQ (nbQ b.q e) = 2 * nbY b.y b.q e + hQ (nbQ b.q e) ∧ 2 * nbX b.x b.q e + gQ (nbQ b.q e) = 2 * nbX
 b.x b.q e + gQ (nbQ b.q e) ∧ 2 * nbY b.y b.q e + (2 - gQ (nbQ b.q e)) = 2 * nbY b.y b.q e + (2 - gQ (nbQ b.q e)) ∧ b_2.n + 1 = b_2.n + 1 ∧ b_2.l ++ [AV.int i64 (crX b.x b.q b_1.i), AV.int i64 (crY b.y
 b.q b_1.i)] = b_2.l ++ [AV.int i64 (crX b.x b.q b_1.i), AV.int i64 (crY b.y b.q b_1.i)] ∧ 0 = 0 ∧ 0 = 0 ∧ 0 = 0 ∧ b_2.n + 1 = b_2.n + 1 ∧ b_1.i = b_1.i ∧ b_2.i + 1 = b_2.i + 1 ∧ (∃ (k : Nat), b_2.i +
 1 = (↑k : Int) ∧ k ≤ 3 ∧ b_2.l ++ [AV.int i64 (crX b.x b.q b_1.i), AV.int i64 (crY b.y b.q b_1.i)] = flatP b.x b.y b.q (shL b.x b.y b.q e (3 * Int.toNat b_1.i + k)) ∧ b_2.n + 1 = length (shL b.x b.y
 b.q e (3 * Int.toNat b_1.i + k))) ∧ 3 - Int.toNat (b_2.i + 1) < 3 - Int.toNat b_2.i ∧ True) ∧ ((crX b.x b.q b_1.i == crX (nbX b.x b.q e) (nbQ b.q e) b_2.i && crY b.y b.q b_1.i == crY (nbY b.y b.q e)
 (nbQ b.q e) b_2.i) = false → inR i64 (b_2.i + 1) = true ∧ 1 = 1 ∧ w = w ∧ h = h ∧ 1 = 1 ∧ c = c ∧ e = e ∧ 2 = 2 ∧ iI 0 = 0 ∧ iI 0 = 0 ∧ iI 0 = 0 ∧ iI 0 = 0 ∧ 1 = 1 ∧ b.x = b.x ∧ b.y = b.y ∧ b.q = b.q
 ∧ 3 = 3 ∧ 2 * b.x + 1 = 2 * b.x + 1 ∧ 2 * b.y + 1 = 2 * b.y + 1 ∧ 2 * b.x + hQ b.q = 2 * b.x + hQ b.q ∧ 2 * b.y + hQ b.q = 2 * b.y + hQ b.q ∧ 2 * b.x + gQ b.q = 2 * b.x + gQ b.q ∧ 2 * b.y + (2 - gQ
 b.q) = 2 * b.y + (2 - gQ b.q) ∧ 3 = 3 ∧ 2 * nbX b.x b.q e + 1 = 2 * nbX b.x b.q e + 1 ∧ 2 * nbY b.y b.q e + 1 = 2 * nbY b.y b.q e + 1 ∧ 2 * nbX b.x b.q e + hQ (nbQ b.q e) = 2 * nbX b.x b.q e + hQ (nbQ
 b.q e) ∧ 2 * nbY b.y b.q e + hQ (nbQ b.q e) = 2 * nbY b.y b.q e + hQ (nbQ b.q e) ∧ 2 * nbX b.x b.q e + gQ (nbQ b.q e) = 2 * nbX b.x b.q e + gQ (nbQ b.q e) ∧ 2 * nbY b.y b.q e + (2 - gQ (nbQ b.q e)) =
 2 * nbY b.y b.q e + (2 - gQ (nbQ b.q e)) ∧ b_2.n = b_2.n ∧ b_2.l = b_2.l ∧ 0 = 0 ∧ 0 = 0 ∧ 0 = 0 ∧ b_2.n = b_2.n ∧ b_1.i = b_1.i ∧ b_2.i + 1 = b_2.i + 1 ∧ (∃ (k : Nat), b_2.i + 1 = (↑k : Int) ∧ k ≤ 3
 ∧ b_2.l = flatP b.x b.y b.q (shL b.x b.y b.q e (3 * Int.toNat b_1.i + k)) ∧ b_2.n = length (shL b.x b.y b.q e (3 * Int.toNat b_1.i + k))) ∧ 3 - Int.toNat (b_2.i + 1) < 3 - Int.toNat b_2.i ∧ True)) ∧
 (ltb b_2.i 3 = false → inR i64 (b_1.i + 1) = true ∧ 1 = 1 ∧ w = w ∧ h = h ∧ 1 = 1 ∧ c = c ∧ e = e ∧ 2 = 2 ∧ iI 0 = 0 ∧ iI 0 = 0 ∧ iI 0 = 0 ∧ iI 0 = 0 ∧ 1 = 1 ∧ b.x = b.x ∧ b.y = b.y ∧ b.q = b.q ∧ 3 =
 3 ∧ 2 * b.x + 1 = 2 * b.x + 1 ∧ 2 * b.y + 1 = 2 * b.y + 1 ∧ 2 * b.x + hQ b.q = 2 * b.x + hQ b.q ∧ 2 * b.y + hQ b.q = 2 * b.y + hQ b.q ∧ 2 * b.x + gQ b.q = 2 * b.x + gQ b.q ∧ 2 * b.y + (2 - gQ b.q) = 2
 * b.y + (2 - gQ b.q) ∧ 3 = 3 ∧ 2 * nbX b.x b.q e + 1 = 2 * nbX b.x b.q e + 1 ∧ 2 * nbY b.y b.q e + 1 = 2 * nbY b.y b.q e + 1 ∧ 2 * nbX b.x b.q e + hQ (nbQ b.q e) = 2 * nbX b.x b.q e + hQ (nbQ b.q e) ∧
 2 * nbY b.y b.q e + hQ (nbQ b.q e) = 2 * nbY b.y b.q e + hQ (nbQ b.q e) ∧ 2 * nbX b.x b.q e + gQ (nbQ b.q e) = 2 * nbX b.x b.q e + gQ (nbQ b.q e) ∧ 2 * nbY b.y b.q e + (2 - gQ (nbQ b.q e)) = 2 * nbY
 b.y b.q e + (2 - gQ (nbQ b.q e)) ∧ b_2.n = b_2.n ∧ b_2.l = b_2.l ∧ 0 = 0 ∧ 0 = 0 ∧ 0 = 0 ∧ b_2.n = b_2.n ∧ b_1.i + 1 = b_1.i + 1 ∧ (∃ (k : Nat), b_1.i + 1 = (↑k : Int) ∧ k ≤ 3 ∧ b_2.l = flatP b.x b.y
 b.q (shL b.x b.y b.q e (3 * k)) ∧ b_2.n = length (shL b.x b.y b.q e (3 * k))) ∧ 3 - Int.toNat (b_1.i + 1) < 3 - Int.toNat b_1.i ∧ True)) ∧ (ltb b_1.i 3 = false → b_1.n = b_1.n ∧ ltb 1 (↑b_1.n : Int) =
 true ∧ ltn 0 (Cont.size (Cont.vals b_1.l)) = true ∧ (drop 0 (drop 2 b_1.l))[0]? = some (AV.int i64 (shX b.x b.y b.q e 1)) ∧ ltb 0 (↑b_1.n : Int) = true ∧ ltn 0 (Cont.size (Cont.vals b_1.l)) = true ∧
 (drop 0 (drop 0 b_1.l))[0]? = some (AV.int i64 (shX b.x b.y b.q e 0)) ∧ ((!ltb (shX b.x b.y b.q e 1) (shX b.x b.y b.q e 0)) = true → (!ltb (shX b.x b.y b.q e 1) (shX b.x b.y b.q e 0)) = true) ∧ ((!ltb
 (shX b.x b.y b.q e 1) (shX b.x b.y b.q e 0)) = true → ltb 1 (↑b_1.n : Int) = true) ∧ ((!ltb (shX b.x b.y b.q e 1) (shX b.x b.y b.q e 0)) = true → ltn 0 (Cont.size (Cont.vals b_1.l)) = true) ∧ ((!ltb
 (shX b.x b.y b.q e 1) (shX b.x b.y b.q e 0)) = true → (!ltb (shX b.x b.y b.q e 1) (shX b.x b.y b.q e 0)) = true) ∧ ((!ltb (shX b.x b.y b.q e 1) (shX b.x b.y b.q e 0)) = true → (!ltb (shX b.x b.y b.q e
 1) (shX b.x b.y b.q e 0)) = true) ∧ ((!ltb (shX b.x b.y b.q e 1) (shX b.x b.y b.q e 0)) = true → (drop 0 (drop 2 b_1.l))[0]? = some (AV.int i64 (shX b.x b.y b.q e 1))) ∧ ((!ltb (shX b.x b.y b.q e 1)
 (shX b.x b.y b.q e 0)) = true → (!ltb (shX b.x b.y b.q e 1) (shX b.x b.y b.q e 0)) = true) ∧ ((!ltb (shX b.x b.y b.q e 1) (shX b.x b.y b.q e 0)) = true → ltb 0 (↑b_1.n : Int) = true) ∧ ((!ltb (shX b.x
 b.y b.q e 1) (shX b.x b.y b.q e 0)) = true → ltn 0 (Cont.size (Cont.vals b_1.l)) = true) ∧ ((!ltb (shX b.x b.y b.q e 1) (shX b.x b.y b.q e 0)) = true → (!ltb (shX b.x b.y b.q e 1) (shX b.x b.y b.q e
 0)) = true) ∧ ((!ltb (shX b.x b.y b.q e 1) (shX b.x b.y b.q e 0)) = true → (!ltb (shX b.x b.y b.q e 1) (shX b.x b.y b.q e 0)) = true) ∧ ((!ltb (shX b.x b.y b.q e 1) (shX b.x b.y b.q e 0)) = true →
 (drop 0 (drop 0 b_1.l))[0]? = some (AV.int i64 (shX b.x b.y b.q e 0))) ∧ ((!ltb (shX b.x b.y b.q e 1) (shX b.x b.y b.q e 0)) = true → (!ltb (shX b.x b.y b.q e 1) (shX b.x b.y b.q e 0)) = true) ∧
 ((!ltb (shX b.x b.y b.q e 1) (shX b.x b.y b.q e 0)) = true → (!ltb (shX b.x b.y b.q e 1) (shX b.x b.y b.q e 0)) = true) ∧ ((!ltb (shX b.x b.y b.q e 1) (shX b.x b.y b.q e 0) && !ltb (shX b.x b.y b.q e
 1) (shX b.x b.y b.q e 0) && true && shX b.x b.y b.q e 1 == shX b.x b.y b.q e 0) = true → (!ltb (shX b.x b.y b.q e 1) (shX b.x b.y b.q e 0) && !ltb (shX b.x b.y b.q e 1) (shX b.x b.y b.q e 0) && true
 && shX b.x b.y b.q e 1 == shX b.x b.y b.q e 0) = true) ∧ ((!ltb (shX b.x b.y b.q e 1) (shX b.x b.y b.q e 0) && !ltb (shX b.x b.y b.q e 1) (shX b.x b.y b.q e 0) && true && shX b.x b.y b.q e 1 == shX
 b.x b.y b.q e 0) = true → ltb 1 (↑b_1.n : Int) = true) ∧ ((!ltb (shX b.x b.y b.q e 1) (shX b.x b.y b.q e 0) && !ltb (shX b.x b.y b.q e 1) (shX b.x b.y b.q e 0) && true && shX b.x b.y b.q e 1 == shX
 b.x b.y b.q e 0) = true → ltn 0 (Cont.size (Cont.vals b_1.l)) = true) ∧ ((!ltb (shX b.x b.y b.q e 1) (shX b.x b.y b.q e 0) && !ltb (shX b.x b.y b.q e 1) (shX b.x b.y b.q e 0) && true && shX b.x b.y
 b.q e 1 == shX b.x b.y b.q e 0) = true → (!ltb (shX b.x b.y b.q e 1) (shX b.x b.y b.q e 0) && !ltb (shX b.x b.y b.q e 1) (shX b.x b.y b.q e 0) && true && shX b.x b.y b.q e 1 == shX b.x b.y b.q e 0) =
 true) ∧ ((!ltb (shX b.x b.y b.q e 1) (shX b.x b.y b.q e 0) && !ltb (shX b.x b.y b.q e 1) (shX b.x b.y b.q e 0) && true && shX b.x b.y b.q e 1 == shX b.x b.y b.q e 0) = true → (!ltb (shX b.x b.y b.q e
 1) (shX b.x b.y b.q e 0) && !ltb (shX b.x b.y b.q e 1) (shX b.x b.y b.q e 0) && true && shX b.x b.y b.q e 1 == shX b.x b.y b.q e 0) = true) ∧ ((!ltb (shX b.x b.y b.q e 1) (shX b.x b.y b.q e 0) && !ltb
 (shX b.x b.y b.q e 1) (shX b.x b.y b.q e 0) && true && shX b.x b.y b.q e 1 == shX b.x b.y b.q e 0) = true → (drop 1 (drop 2 b_1.l))[0]? = some (AV.int i64 (shY b.x b.y b.q e 1))) ∧ ((!ltb (shX b.x b.y
 b.q e 1) (shX b.x b.y b.q e 0) && !ltb (shX b.x b.y b.q e 1) (shX b.x b.y b.q e 0) && true && shX b.x b.y b.q e 1 == shX b.x b.y b.q e 0) = true → (!ltb (shX b.x b.y b.q e 1) (shX b.x b.y b.q e 0) &&
 !ltb (shX b.x b.y b.q e 1) (shX b.x b.y b.q e 0) && true && shX b.x b.y b.q e 1 == shX b.x b.y b.q e 0) = true) ∧ ((!ltb (shX b.x b.y b.q e 1) (shX b.x b.y b.q e 0) && !ltb (shX b.x b.y b.q e 1) (shX
 b.x b.y b.q e 0) && true && shX b.x b.y b.q e 1 == shX b.x b.y b.q e 0) = true → ltb 0 (↑b_1.n : Int) = true) ∧ ((!ltb (shX b.x b.y b.q e 1) (shX b.x b.y b.q e 0) && !ltb (shX b.x b.y b.q e 1) (shX
 b.x b.y b.q e 0) && true && shX b.x b.y b.q e 1 == shX b.x b.y b.q e 0) = true → ltn 0 (Cont.size (Cont.vals b_1.l)) = true) ∧ ((!ltb (shX b.x b.y b.q e 1) (shX b.x b.y b.q e 0) && !ltb (shX b.x b.y
 b.q e 1) (shX b.x b.y b.q e 0) && true && shX b.x b.y b.q e 1 == shX b.x b.y b.q e 0) = true → (!ltb (shX b.x b.y b.q e 1) (shX b.x b.y b.q e 0) && !ltb (shX b.x b.y b.q e 1) (shX b.x b.y b.q e 0) &&
 true && shX b.x b.y b.q e 1 == shX b.x b.y b.q e 0) = true) ∧ ((!ltb (shX b.x b.y b.q e 1) (shX b.x b.y b.q e 0) && !ltb (shX b.x b.y b.q e 1) (shX b.x b.y b.q e 0) && true && shX b.x b.y b.q e 1 ==
 shX b.x b.y b.q e 0) = true → (!ltb (shX b.x b.y b.q e 1) (shX b.x b.y b.q e 0) && !ltb (shX b.x b.y b.q e 1) (shX b.x b.y b.q e 0) && true && shX b.x b.y b.q e 1 == shX b.x b.y b.q e 0) = true) ∧
 ((!ltb (shX b.x b.y b.q e 1) (shX b.x b.y b.q e 0) && !ltb (shX b.x b.y b.q e 1) (shX b.x b.y b.q e 0) && true && shX b.x b.y b.q e 1 == shX b.x b.y b.q e 0) = true → (drop 1 (drop 0 b_1.l))[0]? =
 some (AV.int i64 (shY b.x b.y b.q e 0))) ∧ ((!ltb (shX b.x b.y b.q e 1) (shX b.x b.y b.q e 0) && !ltb (shX b.x b.y b.q e 1) (shX b.x b.y b.q e 0) && true && shX b.x b.y b.q e 1 == shX b.x b.y b.q e 0)
 = true → (!ltb (shX b.x b.y b.q e 1) (shX b.x b.y b.q e 0) && !ltb (shX b.x b.y b.q e 1) (shX b.x b.y b.q e 0) && true && shX b.x b.y b.q e 1 == shX b.x b.y b.q e 0) = true) ∧ ((!ltb (shX b.x b.y b.q
 e 1) (shX b.x b.y b.q e 0) && !ltb (shX b.x b.y b.q e 1) (shX b.x b.y b.q e 0) && true && shX b.x b.y b.q e 1 == shX b.x b.y b.q e 0) = true → (!ltb (shX b.x b.y b.q e 1) (shX b.x b.y b.q e 0) && !ltb
 (shX b.x b.y b.q e 1) (shX b.x b.y b.q e 0) && true && shX b.x b.y b.q e 1 == shX b.x b.y b.q e 0) = true) ∧ ((!ltb (shX b.x b.y b.q e 1) (shX b.x b.y b.q e 0)) = true → (!ltb (shX b.x b.y b.q e 1)
 (shX b.x b.y b.q e 0) && !ltb (shX b.x b.y b.q e 1) (shX b.x b.y b.q e 0) && true) = true) ∧ ((!ltb (shX b.x b.y b.q e 1) (shX b.x b.y b.q e 0)) = true → (bif shX b.x b.y b.q e 1 == shX b.x b.y b.q e
 0 then !ltb (shX b.x b.y b.q e 1) (shX b.x b.y b.q e 0) && !ltb (shX b.x b.y b.q e 1) (shX b.x b.y b.q e 0) && true && shX b.x b.y b.q e 1 == shX b.x b.y b.q e 0 && true else true) = true) ∧ (bif ltb
 (shX b.x b.y b.q e 1) (shX b.x b.y b.q e 0) then true else !ltb (shX b.x b.y b.q e 1) (shX b.x b.y b.q e 0) && true) = true ∧ ((bif ltb (shX b.x b.y b.q e 1) (shX b.x b.y b.q e 0) then true else bif
 shX b.x b.y b.q e 1 == shX b.x b.y b.q e 0 then ltb (shY b.x b.y b.q e 1) (shY b.x b.y b.q e 0) else false) = true → ltb 1 (↑b_1.n : Int) = true ∧ ltn 0 (Cont.size (Cont.vals b_1.l)) = true ∧ (drop 2
 b_1.l)[0]? = some (AV.int i64 (shX b.x b.y b.q e 1)) ∧ (drop 2 b_1.l)[1]? = some (AV.int i64 (shY b.x b.y b.q e 1)) ∧ ltb 0 (↑b_1.n : Int) = true ∧ ltn 0 (Cont.size (Cont.vals b_1.l)) = true ∧ (drop 0
 b_1.l)[0]? = some (AV.int i64 (shX b.x b.y b.q e 0)) ∧ (drop 0 b_1.l)[1]? = some (AV.int i64 (shY b.x b.y b.q e 0)) ∧ shX b.x b.y b.q e 1 = enV w c e 0 ∧ shY b.x b.y b.q e 1 = enV w c e 1 ∧ shX b.x
 b.y b.q e 0 = enV w c e 2 ∧ shY b.x b.y b.q e 0 = enV w c e 3 ∧ True) ∧ ((bif ltb (shX b.x b.y b.q e 1) (shX b.x b.y b.q e 0) then true else bif shX b.x b.y b.q e 1 == shX b.x b.y b.q e 0 then ltb
 (shY b.x b.y b.q e 1) (shY b.x b.y b.q e 0) else false) = false → ltb 0 (↑b_1.n : Int) = true ∧ ltn 0 (Cont.size (Cont.vals b_1.l)) = true ∧ (drop 0 b_1.l)[0]? = some (AV.int i64 (shX b.x b.y b.q e
 0)) ∧ (drop 0 b_1.l)[1]? = some (AV.int i64 (shY b.x b.y b.q e 0)) ∧ ltb 1 (↑b_1.n : Int) = true ∧ ltn 0 (Cont.size (Cont.vals b_1.l)) = true ∧ (drop 2 b_1.l)[0]? = some (AV.int i64 (shX b.x b.y b.q e
 1)) ∧ (drop 2 b_1.l)[1]? = some (AV.int i64 (shY b.x b.y b.q e 1)) ∧ shX b.x b.y b.q e 0 = enV w c e 0 ∧ shY b.x b.y b.q e 0 = enV w c e 1 ∧ shX b.x b.y b.q e 1 = enV w c e 2 ∧ shY b.x b.y b.q e 1 =
 enV w c e 3 ∧ True))) := by kernel_rfl

theorem ob_o26 (w h : Int) (l : List Cr) : fnP (CE2) G 10000 fe26 (.r [] 0 (.r [] 1 (.r [] 1 (.r [] 1 (.r [] 0 (.lp (l26 w (units w h) (kindsL (units w h) l)) [] [] (fun b => (.r [] 0 (.cnd (.r [(517, .auto, Dr.val [AV.int i64 (uC (units w h) b.i), AV.int u8 (uE (units w h) b.i)])] 129 (.r [] 0 (.lp (m26 w (units w h) (kindsL (units w h) l) b.l b.i) [] [] (fun b_1 => (.r [] 0 (.cnd (.r [(773, .auto, Dr.val [AV.int i64 (uC (units w h) b_1.i), AV.int u8 (uE (units w h) b_1.i)])] 129 (.r [] 1 (.jn (jB 11 (mt1 w (3 * uC (units w h) b.i + uE (units w h) b.i) (3 * uC (units w h) b_1.i + uE (units w h) b_1.i))) [] [] (.rs 13 [] 959 63 (.r [] 4031 .nil) (.r [] 3 .nil)) (fun b_2 => (.jn (jB 12 (mt2 w (3 * uC (units w h) b.i + uE (units w h) b.i) (3 * uC (units w h) b_1.i + uE (units w h) b_1.i))) [9, 10] [] (.rs 13 [] 959 89 (.r [] 4031 .nil) (.r [] 3 .nil)) (fun b_3 => (.jn (j26 (length (units w h))
 (bif mtU w (3 * uC (units w h) b.i + uE (units w h) b.i) (3 * uC (units w h) b_1.i + uE (units w h) b_1.i) then
  set b_1.l (Int.toNat b_1.i) (otK (Option.getD (kindsL (units w h) l)[Int.toNat b.i]? 0))
 else b_1.l)) [11, 12] [] (.rs 2 [] 0 104 (.r [] 3 (.lit (.r [] 32 .nil))) (.r [] 3 (.cnd (.r [] 32 .nil) .nil))) (fun b_4 => (.r [] 0 .nil))))))))) (.r [] 0 .nil))))))) (.r [] 9 .nil)))))))))) ([patV w h l]) ([.agg [.int .i64 w, .int .i64 h, .full 0 (rtL w h l).length]]) ([blkC (flatC (rtL w h l)) (rtL w h l).length]) = (
 s5 w h ∧ (s5 w h ∧ okA (flatC l) (length l)) ∧ leb (↑(length (units w h)) : Int) (↑(length (units w h)) : Int) = true ∧ leb ((↑(length (units w h)) : Int) * 1) 140737488355328 = true ∧ 1 = 1 ∧ w = w ∧
 h = h ∧ Cont.vals (flatC l) = Cont.vals (flatC l) ∧ length l = length l ∧ 1 = 1 ∧ iI 0 = 0 ∧ iI 0 = 0 ∧ length (kindsL (units w h) (unC (flatC l))) = length (kindsL (units w h) (unC (flatC l))) ∧
 kindsL (units w h) (unC (flatC l)) = kindsL (units w h) (unC (flatC l)) ∧ Int.toNat (↑(length (units w h)) : Int) = length (units w h) ∧ Int.toNat (↑(length (units w h)) : Int) = length (units w h) ∧
 replicate (Int.toNat (↑(length (units w h)) : Int)) (0 : Int) = replicate (Int.toNat (↑(length (units w h)) : Int)) (0 : Int) ∧ 0 = 0 ∧ 0 = 0 ∧ Cont.vals (flatU (units w h)) = Cont.vals (flatU (units
 w h)) ∧ length (units w h) = length (units w h) ∧ length (kindsL (units w h) (unC (flatC l))) = length (kindsL (units w h) (unC (flatC l))) ∧ Int.toNat (↑(length (units w h)) : Int) = Int.toNat
 (↑(length (units w h)) : Int) ∧ iI 0 = 0 ∧ (∃ (n : Nat), 0 = (↑n : Int) ∧ n ≤ length (units w h) ∧ length (replicate (Int.toNat (↑(length (units w h)) : Int)) (0 : Int)) = length (units w h) ∧ outO w
 (units w h) (drop n (prO (units w h) (kindsL (units w h) l))) (replicate (Int.toNat (↑(length (units w h)) : Int)) (0 : Int)) = outO w (units w h) (prO (units w h) (kindsL (units w h) l)) (replicate
 (length (units w h)) (0 : Int))) ∧ ∀ (b : L19), (∃ (n : Nat), b.i = (↑n : Int) ∧ n ≤ length (units w h) ∧ length b.l = length (units w h) ∧ outO w (units w h) (drop n (prO (units w h) (kindsL (units w
 h) l))) b.l = outO w (units w h) (prO (units w h) (kindsL (units w h) l)) (replicate (length (units w h)) (0 : Int))) → (ltb b.i (↑(length (units w h)) : Int) = true → leb 0 b.i = true ∧ ltb b.i
 (↑(length (units w h)) : Int) = true ∧ ltn 0 (Cont.size (Cont.vals (flatU (units w h)))) = true ∧ (drop (Int.toNat b.i * 2) (flatU (units w h)))[0]? = some (AV.int i64 (uC (units w h) b.i)) ∧ (drop
 (Int.toNat b.i * 2) (flatU (units w h)))[1]? = some (AV.int u8 (uE (units w h) b.i)) ∧ (s5 w h ∧ 0 ≤ uC (units w h) b.i ∧ uC (units w h) b.i < 4 * w * h ∧ 0 ≤ uE (units w h) b.i ∧ uE (units w h) b.i ≤
 2) ∧ 1 = 1 ∧ w = w ∧ h = h ∧ Cont.vals (flatC l) = Cont.vals (flatC l) ∧ length l = length l ∧ 1 = 1 ∧ iI 0 = 0 ∧ iI 0 = 0 ∧ length (kindsL (units w h) (unC (flatC l))) = length (kindsL (units w h)
 (unC (flatC l))) ∧ kindsL (units w h) (unC (flatC l)) = kindsL (units w h) (unC (flatC l)) ∧ length (units w h) = length (units w h) ∧ length (units w h) = length (units w h) ∧ b.l = b.l ∧ 2 = 2 ∧ enV
 w (uC (units w h) b.i) (uE (units w h) b.i) 0 = enV w (uC (units w h) b.i) (uE (units w h) b.i) 0 ∧ enV w (uC (units w h) b.i) (uE (units w h) b.i) 1 = enV w (uC (units w h) b.i) (uE (units w h) b.i)
 1 ∧ enV w (uC (units w h) b.i) (uE (units w h) b.i) 2 = enV w (uC (units w h) b.i) (uE (units w h) b.i) 2 ∧ enV w (uC (units w h) b.i) (uE (units w h) b.i) 3 = enV w (uC (units w h) b.i) (uE (units w
 h) b.i) 3 ∧ 0 = 0 ∧ 0 = 0 ∧ Cont.vals (flatU (units w h)) = Cont.vals (flatU (units w h)) ∧ length (units w h) = length (units w h) ∧ length (kindsL (units w h) (unC (flatC l))) = length (kindsL
 (units w h) (unC (flatC l))) ∧ Int.toNat (↑(length (units w h)) : Int) = Int.toNat (↑(length (units w h)) : Int) ∧ b.i = b.i ∧ 0 = 0 ∧ iI 0 = 0 ∧ (∃ (n : Nat), 0 = (↑n : Int) ∧ n ≤ length (units w h)
 ∧ b.l = take n (stO w (units w h) (Option.getD (units w h)[Int.toNat b.i]? 0) (otK (Option.getD (kindsL (units w h) l)[Int.toNat b.i]? 0)) b.l) ++ drop n b.l) ∧ ∀ (b_1 : L19), (∃ (n : Nat), b_1.i =
 (↑n : Int) ∧ n ≤ length (units w h) ∧ b_1.l = take n (stO w (units w h) (Option.getD (units w h)[Int.toNat b.i]? 0) (otK (Option.getD (kindsL (units w h) l)[Int.toNat b.i]? 0)) b.l) ++ drop n b.l) →
 (ltb b_1.i (↑(length (units w h)) : Int) = true → leb 0 b_1.i = true ∧ ltb b_1.i (↑(length (units w h)) : Int) = true ∧ ltn 0 (Cont.size (Cont.vals (flatU (units w h)))) = true ∧ (drop (Int.toNat
 b_1.i * 2) (flatU (units w h)))[0]? = some (AV.int i64 (uC (units w h) b_1.i)) ∧ (drop (Int.toNat b_1.i * 2) (flatU (units w h)))[1]? = some (AV.int u8 (uE (units w h) b_1.i)) ∧ (s5 w h ∧ 0 ≤ uC
 (units w h) b_1.i ∧ uC (units w h) b_1.i < 4 * w * h ∧ 0 ≤ uE (units w h) b_1.i ∧ uE (units w h) b_1.i ≤ 2) ∧ inR i64 (2 * w) = true ∧ (inR i64 (2 * w - enV w (uC (units w h) b.i) (uE (units w h) b.i)
 0) = true ∧ ((enV w (uC (units w h) b_1.i) (uE (units w h) b_1.i) 0 == 2 * w - enV w (uC (units w h) b.i) (uE (units w h) b.i) 0 && enV w (uC (units w h) b_1.i) (uE (units w h) b_1.i) 1 == enV w (uC
 (units w h) b.i) (uE (units w h) b.i) 1) = true → inR i64 (2 * w - enV w (uC (units w h) b.i) (uE (units w h) b.i) 2) = true ∧ 1 = 1 ∧ w = w ∧ h = h ∧ Cont.vals (flatC l) = Cont.vals (flatC l) ∧
 length l = length l ∧ 1 = 1 ∧ iI 0 = 0 ∧ iI 0 = 0 ∧ length (kindsL (units w h) (unC (flatC l))) = length (kindsL (units w h) (unC (flatC l))) ∧ kindsL (units w h) (unC (flatC l)) = kindsL (units w h)
 (unC (flatC l)) ∧ length (units w h) = length (units w h) ∧ length (units w h) = length (units w h) ∧ b_1.l = b_1.l ∧ 2 = 2 ∧ enV w (uC (units w h) b.i) (uE (units w h) b.i) 0 = enV w (uC (units w h)
 b.i) (uE (units w h) b.i) 0 ∧ enV w (uC (units w h) b.i) (uE (units w h) b.i) 1 = enV w (uC (units w h) b.i) (uE (units w h) b.i) 1 ∧ enV w (uC (units w h) b.i) (uE (units w h) b.i) 2 = enV w (uC
 (units w h) b.i) (uE (units w h) b.i) 2 ∧ enV w (uC (units w h) b.i) (uE (units w h) b.i) 3 = enV w (uC (units w h) b.i) (uE (units w h) b.i) 3 ∧ 2 = 2 ∧ enV w (uC (units w h) b_1.i) (uE (units w h)
 b_1.i) 0 = enV w (uC (units w h) b_1.i) (uE (units w h) b_1.i) 0 ∧ enV w (uC (units w h) b_1.i) (uE (units w h) b_1.i) 1 = enV w (uC (units w h) b_1.i) (uE (units w h) b_1.i) 1 ∧ enV w (uC (units w h)
 b_1.i) (uE (units w h) b_1.i) 2 = enV w (uC (units w h) b_1.i) (uE (units w h) b_1.i) 2 ∧ enV w (uC (units w h) b_1.i) (uE (units w h) b_1.i) 3 = enV w (uC (units w h) b_1.i) (uE (units w h) b_1.i) 3
 ∧ 0 = 0 ∧ 0 = 0 ∧ Cont.vals (flatU (units w h)) = Cont.vals (flatU (units w h)) ∧ length (units w h) = length (units w h) ∧ length (kindsL (units w h) (unC (flatC l))) = length (kindsL (units w h)
 (unC (flatC l))) ∧ Int.toNat (↑(length (units w h)) : Int) = Int.toNat (↑(length (units w h)) : Int) ∧ b.i = b.i ∧ 0 = 0 ∧ b_1.i = b_1.i ∧ 0 = 0 ∧ 2 * w = 2 * w ∧ (enV w (uC (units w h) b_1.i) (uE
 (units w h) b_1.i) 2 == 2 * w - enV w (uC (units w h) b.i) (uE (units w h) b.i) 2 && enV w (uC (units w h) b_1.i) (uE (units w h) b_1.i) 3 == enV w (uC (units w h) b.i) (uE (units w h) b.i) 3) = (enV
 w (uC (units w h) b_1.i) (uE (units w h) b_1.i) 2 == 2 * w - enV w (uC (units w h) b.i) (uE (units w h) b.i) 2 && enV w (uC (units w h) b_1.i) (uE (units w h) b_1.i) 3 == enV w (uC (units w h) b.i)
 (uE (units w h) b.i) 3) ∧ (enV w (uC (units w h) b_1.i) (uE (units w h) b_1.i) 2 == 2 * w - enV w (uC (units w h) b.i) (uE (units w h) b.i) 2 && enV w (uC (units w h) b_1.i) (uE (units w h) b_1.i) 3
 == enV w (uC (units w h) b.i) (uE (units w h) b.i) 3) = mt1 w (3 * uC (units w h) b.i + uE (units w h) b.i) (3 * uC (units w h) b_1.i + uE (units w h) b_1.i) ∧ True) ∧ ((enV w (uC (units w h) b_1.i)
 (uE (units w h) b_1.i) 0 == 2 * w - enV w (uC (units w h) b.i) (uE (units w h) b.i) 0 && enV w (uC (units w h) b_1.i) (uE (units w h) b_1.i) 1 == enV w (uC (units w h) b.i) (uE (units w h) b.i) 1) =
 false → 1 = 1 ∧ w = w ∧ h = h ∧ Cont.vals (flatC l) = Cont.vals (flatC l) ∧ length l = length l ∧ 1 = 1 ∧ iI 0 = 0 ∧ iI 0 = 0 ∧ length (kindsL (units w h) (unC (flatC l))) = length (kindsL (units w h)
 (unC (flatC l))) ∧ kindsL (units w h) (unC (flatC l)) = kindsL (units w h) (unC (flatC l)) ∧ length (units w h) = length (units w h) ∧ length (units w h) = length (units w h) ∧ b_1.l = b_1.l ∧ 2 = 2 ∧
 enV w (uC (units w h) b.i) (uE (units w h) b.i) 0 = enV w (uC (units w h) b.i) (uE (units w h) b.i) 0 ∧ enV w (uC (units w h) b.i) (uE (units w h) b.i) 1 = enV w (uC (units w h) b.i) (uE (units w h)
 b.i) 1 ∧ enV w (uC (units w h) b.i) (uE (units w h) b.i) 2 = enV w (uC (units w h) b.i) (uE (units w h) b.i) 2 ∧ enV w (uC (units w h) b.i) (uE (units w h) b.i) 3 = enV w (uC (units w h) b.i) (uE
 (units w h) b.i) 3 ∧ 2 = 2 ∧ enV w (uC (units w h) b_1.i) (uE (units w h) b_1.i) 0 = enV w (uC (units w h) b_1.i) (uE (units w h) b_1.i) 0 ∧ enV w (uC (units w h) b_1.i) (uE (units w h) b_1.i) 1 = enV
 w (uC (units w h) b_1.i) (uE (units w h) b_1.i) 1 ∧ enV w (uC (units w h) b_1.i) (uE (units w h) b_1.i) 2 = enV w (uC (units w h) b_1.i) (uE (units w h) b_1.i) 2 ∧ enV w (uC (units w h) b_1.i) (uE
 (units w h) b_1.i) 3 = enV w (uC (units w h) b_1.i) (uE (units w h) b_1.i) 3 ∧ 0 = 0 ∧ 0 = 0 ∧ Cont.vals (flatU (units w h)) = Cont.vals (flatU (units w h)) ∧ length (units w h) = length (units w h) ∧
 length (kindsL (units w h) (unC (flatC l))) = length (kindsL (units w h) (unC (flatC l))) ∧ Int.toNat (↑(length (units w h)) : Int) = Int.toNat (↑(length (units w h)) : Int) ∧ b.i = b.i ∧ 0 = 0 ∧
 b_1.i = b_1.i ∧ 0 = 0 ∧ 2 * w = 2 * w ∧ false = false ∧ false = mt1 w (3 * uC (units w h) b.i + uE (units w h) b.i) (3 * uC (units w h) b_1.i + uE (units w h) b_1.i) ∧ True)) ∧ ∀ (b_2 : VB), b_2.v =
 mt1 w (3 * uC (units w h) b.i + uE (units w h) b.i) (3 * uC (units w h) b_1.i + uE (units w h) b_1.i) → (inR i64 (2 * w - enV w (uC (units w h) b.i) (uE (units w h) b.i) 0) = true ∧ ((enV w (uC (units
 w h) b_1.i) (uE (units w h) b_1.i) 2 == 2 * w - enV w (uC (units w h) b.i) (uE (units w h) b.i) 0 && enV w (uC (units w h) b_1.i) (uE (units w h) b_1.i) 3 == enV w (uC (units w h) b.i) (uE (units w h)
 b.i) 1) = true → inR i64 (2 * w - enV w (uC (units w h) b.i) (uE (units w h) b.i) 2) = true ∧ 1 = 1 ∧ w = w ∧ h = h ∧ Cont.vals (flatC l) = Cont.vals (flatC l) ∧ length l = length l ∧ 1 = 1 ∧ iI 0 = 0
 ∧ iI 0 = 0 ∧ length (kindsL (units w h) (unC (flatC l))) = length (kindsL (units w h) (unC (flatC l))) ∧ kindsL (units w h) (unC (flatC l)) = kindsL (units w h) (unC (flatC l)) ∧ length (units w h) =
 length (units w h) ∧ length (units w h) = length (units w h) ∧ b_1.l = b_1.l ∧ 2 = 2 ∧ enV w (uC (units w h) b.i) (uE (units w h) b.i) 0 = enV w (uC (units w h) b.i) (uE (units w h) b.i) 0 ∧ enV w (uC
 (units w h) b.i) (uE (units w h) b.i) 1 = enV w (uC (units w h) b.i) (uE (units w h) b.i) 1 ∧ enV w (uC (units w h) b.i) (uE (units w h) b.i) 2 = enV w (uC (units w h) b.i) (uE (units w h) b.i) 2 ∧
 enV w (uC (units w h) b.i) (uE (units w h) b.i) 3 = enV w (uC (units w h) b.i) (uE (units w h) b.i) 3 ∧ 2 = 2 ∧ enV w (uC (units w h) b_1.i) (uE (units w h) b_1.i) 0 = enV w (uC (units w h) b_1.i) (uE
 (units w h) b_1.i) 0 ∧ enV w (uC (units w h) b_1.i) (uE (units w h) b_1.i) 1 = enV w (uC (units w h) b_1.i) (uE (units w h) b_1.i) 1 ∧ enV w (uC (units w h) b_1.i) (uE (units w h) b_1.i) 2 = enV w (uC
 (units w h) b_1.i) (uE (units w h) b_1.i) 2 ∧ enV w (uC (units w h) b_1.i) (uE (units w h) b_1.i) 3 = enV w (uC (units w h) b_1.i) (uE (units w h) b_1.i) 3 ∧ 0 = 0 ∧ 0 = 0 ∧ Cont.vals (flatU (units w
 h)) = Cont.vals (flatU (units w h)) ∧ length (units w h) = length (units w h) ∧ length (kindsL (units w h) (unC (flatC l))) = length (kindsL (units w h) (unC (flatC l))) ∧ Int.toNat (↑(length (units w
 h)) : Int) = Int.toNat (↑(length (units w h)) : Int) ∧ b.i = b.i ∧ 0 = 0 ∧ b_1.i = b_1.i ∧ b_2.v = b_2.v ∧ (enV w (uC (units w h) b_1.i) (uE (units w h) b_1.i) 0 == 2 * w - enV w (uC (units w h) b.i)
 (uE (units w h) b.i) 2 && enV w (uC (units w h) b_1.i) (uE (units w h) b_1.i) 1 == enV w (uC (units w h) b.i) (uE (units w h) b.i) 3) = (enV w (uC (units w h) b_1.i) (uE (units w h) b_1.i) 0 == 2 * w
 - enV w (uC (units w h) b.i) (uE (units w h) b.i) 2 && enV w (uC (units w h) b_1.i) (uE (units w h) b_1.i) 1 == enV w (uC (units w h) b.i) (uE (units w h) b.i) 3) ∧ (enV w (uC (units w h) b_1.i) (uE
 (units w h) b_1.i) 0 == 2 * w - enV w (uC (units w h) b.i) (uE (units w h) b.i) 2 && enV w (uC (units w h) b_1.i) (uE (units w h) b_1.i) 1 == enV w (uC (units w h) b.i) (uE (units w h) b.i) 3) = mt2 w
 (3 * uC (units w h) b.i + uE (units w h) b.i) (3 * uC (units w h) b_1.i + uE (units w h) b_1.i) ∧ True) ∧ ((enV w (uC (units w h) b_1.i) (uE (units w h) b_1.i) 2 == 2 * w - enV w (uC (units w h) b.i)
 (uE (units w h) b.i) 0 && enV w (uC (units w h) b_1.i) (uE (units w h) b_1.i) 3 == enV w (uC (units w h) b.i) (uE (units w h) b.i) 1) = false → 1 = 1 ∧ w = w ∧ h = h ∧ Cont.vals (flatC l) = Cont.vals
 (flatC l) ∧ length l = length l ∧ 1 = 1 ∧ iI 0 = 0 ∧ iI 0 = 0 ∧ length (kindsL (units w h) (unC (flatC l))) = length (kindsL (units w h) (unC (flatC l))) ∧ kindsL (units w h) (unC (flatC l)) = kindsL
 (units w h) (unC (flatC l)) ∧ length (units w h) = length (units w h) ∧ length (units w h) = length (units w h) ∧ b_1.l = b_1.l ∧ 2 = 2 ∧ enV w (uC (units w h) b.i) (uE (units w h) b.i) 0 = enV w (uC
 (units w h) b.i) (uE (units w h) b.i) 0 ∧ enV w (uC (units w h) b.i) (uE (units w h) b.i) 1 = enV w (uC (units w h) b.i) (uE (units w h) b.i) 1 ∧ enV w (uC (units w h) b.i) (uE (units w h) b.i) 2 =
 enV w (uC (units w h) b.i) (uE (units w h) b.i) 2 ∧ enV w (uC (units w h) b.i) (uE (units w h) b.i) 3 = enV w (uC (units w h) b.i) (uE (units w h) b.i) 3 ∧ 2 = 2 ∧ enV w (uC (units w h) b_1.i) (uE
 (units w h) b_1.i) 0 = enV w (uC (units w h) b_1.i) (uE (units w h) b_1.i) 0 ∧ enV w (uC (units w h) b_1.i) (uE (units w h) b_1.i) 1 = enV w (uC (units w h) b_1.i) (uE (units w h) b_1.i) 1 ∧ enV w (uC
 (units w h) b_1.i) (uE (units w h) b_1.i) 2 = enV w (uC (units w h) b_1.i) (uE (units w h) b_1.i) 2 ∧ enV w (uC (units w h) b_1.i) (uE (units w h) b_1.i) 3 = enV w (uC (units w h) b_1.i) (uE (units w
 h) b_1.i) 3 ∧ 0 = 0 ∧ 0 = 0 ∧ Cont.vals (flatU (units w h)) = Cont.vals (flatU (units w h)) ∧ length (units w h) = length (units w h) ∧ length (kindsL (units w h) (unC (flatC l))) = length (kindsL
 (units w h) (unC (flatC l))) ∧ Int.toNat (↑(length (units w h)) : Int) = Int.toNat (↑(length (units w h)) : Int) ∧ b.i = b.i ∧ 0 = 0 ∧ b_1.i = b_1.i ∧ b_2.v = b_2.v ∧ false = false ∧ false = mt2 w (3
 * uC (units w h) b.i + uE (units w h) b.i) (3 * uC (units w h) b_1.i + uE (units w h) b_1.i) ∧ True)) ∧ ∀ (b_3 : VB), b_3.v = mt2 w (3 * uC (units w h) b.i + uE (units w h) b.i) (3 * uC (units w h)
 b_1.i + uE (units w h) b_1.i) → ((b_2.v = true → leb 0 b.i = true ∧ ltb b.i (↑(length (kindsL (units w h) (unC (flatC l)))) : Int) = true ∧ length (kindsL (units w h) (unC (flatC l))) = length (kindsL
 (units w h) (unC (flatC l))) ∧ length (kindsL (units w h) (unC (flatC l))) = length (kindsL (units w h) (unC (flatC l))) ∧ ltn (Int.toNat b.i) (Cont.size (Cont.ints u8 (kindsL (units w h) (unC (flatC
 l))))) = true ∧ leb 0 b_1.i = true ∧ ltb b_1.i (↑(Int.toNat (↑(length (units w h)) : Int)) : Int) = true ∧ length (units w h) = Int.toNat (↑(length (units w h)) : Int) ∧ length (units w h) = Int.toNat
 (↑(length (units w h)) : Int) ∧ len' (Int.toNat b_1.i + 1) (Cont.size (Cont.ints u8 b_1.l)) = true ∧ 1 = 1 ∧ w = w ∧ h = h ∧ Cont.vals (flatC l) = Cont.vals (flatC l) ∧ length l = length l ∧ 1 = 1 ∧
 iI 0 = 0 ∧ iI 0 = 0 ∧ length (kindsL (units w h) (unC (flatC l))) = length (kindsL (units w h) (unC (flatC l))) ∧ kindsL (units w h) (unC (flatC l)) = kindsL (units w h) (unC (flatC l)) ∧ length
 (units w h) = length (units w h) ∧ length (units w h) = length (units w h) ∧ set b_1.l (Int.toNat b_1.i) (otK (getD (kindsL (units w h) (unC (flatC l))) (Int.toNat b.i) 0)) = set b_1.l (Int.toNat
 b_1.i) (otK (getD (kindsL (units w h) (unC (flatC l))) (Int.toNat b.i) 0)) ∧ 2 = 2 ∧ enV w (uC (units w h) b.i) (uE (units w h) b.i) 0 = enV w (uC (units w h) b.i) (uE (units w h) b.i) 0 ∧ enV w (uC
 (units w h) b.i) (uE (units w h) b.i) 1 = enV w (uC (units w h) b.i) (uE (units w h) b.i) 1 ∧ enV w (uC (units w h) b.i) (uE (units w h) b.i) 2 = enV w (uC (units w h) b.i) (uE (units w h) b.i) 2 ∧
 enV w (uC (units w h) b.i) (uE (units w h) b.i) 3 = enV w (uC (units w h) b.i) (uE (units w h) b.i) 3 ∧ 2 = 2 ∧ enV w (uC (units w h) b_1.i) (uE (units w h) b_1.i) 0 = enV w (uC (units w h) b_1.i) (uE
 (units w h) b_1.i) 0 ∧ enV w (uC (units w h) b_1.i) (uE (units w h) b_1.i) 1 = enV w (uC (units w h) b_1.i) (uE (units w h) b_1.i) 1 ∧ enV w (uC (units w h) b_1.i) (uE (units w h) b_1.i) 2 = enV w (uC
 (units w h) b_1.i) (uE (units w h) b_1.i) 2 ∧ enV w (uC (units w h) b_1.i) (uE (units w h) b_1.i) 3 = enV w (uC (units w h) b_1.i) (uE (units w h) b_1.i) 3 ∧ 0 = 0 ∧ 0 = 0 ∧ Cont.vals (flatU (units w
 h)) = Cont.vals (flatU (units w h)) ∧ length (units w h) = length (units w h) ∧ length (kindsL (units w h) (unC (flatC l))) = length (kindsL (units w h) (unC (flatC l))) ∧ Int.toNat (↑(length (units w
 h)) : Int) = Int.toNat (↑(length (units w h)) : Int) ∧ b.i = b.i ∧ 0 = 0 ∧ b_1.i = b_1.i ∧ (set b_1.l (Int.toNat b_1.i) (otK (getD (kindsL (units w h) (unC (flatC l))) (Int.toNat b.i) 0)) = bif mtU w
 (3 * uC (units w h) b.i + uE (units w h) b.i) (3 * uC (units w h) b_1.i + uE (units w h) b_1.i) then set b_1.l (Int.toNat b_1.i) (otK (Option.getD (kindsL (units w h) l)[Int.toNat b.i]? 0)) else
 b_1.l) ∧ True) ∧ (b_2.v = false → (b_3.v = true → leb 0 b.i = true ∧ ltb b.i (↑(length (kindsL (units w h) (unC (flatC l)))) : Int) = true ∧ length (kindsL (units w h) (unC (flatC l))) = length
 (kindsL (units w h) (unC (flatC l))) ∧ length (kindsL (units w h) (unC (flatC l))) = length (kindsL (units w h) (unC (flatC l))) ∧ ltn (Int.toNat b.i) (Cont.size (Cont.ints u8 (kindsL (units w h) (unC
 (flatC l))))) = true ∧ leb 0 b_1.i = true ∧ ltb b_1.i (↑(Int.toNat (↑(length (units w h)) : Int)) : Int) = true ∧ length (units w h) = Int.toNat (↑(length (units w h)) : Int) ∧ length (units w h) =
 Int.toNat (↑(length (units w h)) : Int) ∧ len' (Int.toNat b_1.i + 1) (Cont.size (Cont.ints u8 b_1.l)) = true ∧ 1 = 1 ∧ w = w ∧ h = h ∧ Cont.vals (flatC l) = Cont.vals (flatC l) ∧ length l = length l ∧
 1 = 1 ∧ iI 0 = 0 ∧ iI 0 = 0 ∧ length (kindsL (units w h) (unC (flatC l))) = length (kindsL (units w h) (unC (flatC l))) ∧ kindsL (units w h) (unC (flatC l)) = kindsL (units w h) (unC (flatC l)) ∧
 length (units w h) = length (units w h) ∧ length (units w h) = length (units w h) ∧ set b_1.l (Int.toNat b_1.i) (otK (getD (kindsL (units w h) (unC (flatC l))) (Int.toNat b.i) 0)) = set b_1.l
 (Int.toNat b_1.i) (otK (getD (kindsL (units w h) (unC (flatC l))) (Int.toNat b.i) 0)) ∧ 2 = 2 ∧ enV w (uC (units w h) b.i) (uE (units w h) b.i) 0 = enV w (uC (units w h) b.i) (uE (units w h) b.i) 0 ∧
 enV w (uC (units w h) b.i) (uE (units w h) b.i) 1 = enV w (uC (units w h) b.i) (uE (units w h) b.i) 1 ∧ enV w (uC (units w h) b.i) (uE (units w h) b.i) 2 = enV w (uC (units w h) b.i) (uE (units w h)
 b.i) 2 ∧ enV w (uC (units w h) b.i) (uE (units w h) b.i) 3 = enV w (uC (units w h) b.i) (uE (units w h) b.i) 3 ∧ 2 = 2 ∧ enV w (uC (units w h) b_1.i) (uE (units w h) b_1.i) 0 = enV w (uC (units w h)
 b_1.i) (uE (units w h) b_1.i) 0 ∧ enV w (uC (units w h) b_1.i) (uE (units w h) b_1.i) 1 = enV w (uC (units w h) b_1.i) (uE (units w h) b_1.i) 1 ∧ enV w (uC (units w h) b_1.i) (uE (units w h) b_1.i) 2
 = enV w (uC (units w h) b_1.i) (uE (units w h) b_1.i) 2 ∧ enV w (uC (units w h) b_1.i) (uE (units w h) b_1.i) 3 = enV w (uC (units w h) b_1.i) (uE (units w h) b_1.i) 3 ∧ 0 = 0 ∧ 0 = 0 ∧ Cont.vals
 (flatU (units w h)) = Cont.vals (flatU (units w h)) ∧ length (units w h) = length (units w h) ∧ length (kindsL (units w h) (unC (flatC l))) = length (kindsL (units w h) (unC (flatC l))) ∧ Int.toNat
 (↑(length (units w h)) : Int) = Int.toNat (↑(length (units w h)) : Int) ∧ b.i = b.i ∧ 0 = 0 ∧ b_1.i = b_1.i ∧ (set b_1.l (Int.toNat b_1.i) (otK (getD (kindsL (units w h) (unC (flatC l))) (Int.toNat
 b.i) 0)) = bif mtU w (3 * uC (units w h) b.i + uE (units w h) b.i) (3 * uC (units w h) b_1.i + uE (units w h) b_1.i) then set b_1.l (Int.toNat b_1.i) (otK (Option.getD (kindsL (units w h) l)[Int.toNat
 b.i]? 0)) else b_1.l) ∧ True) ∧ (b_3.v = false → 1 = 1 ∧ w = w ∧ h = h ∧ Cont.vals (flatC l) = Cont.vals (flatC l) ∧ length l = length l ∧ 1 = 1 ∧ iI 0 = 0 ∧ iI 0 = 0 ∧ length (kindsL (units w h) (unC
 (flatC l))) = length (kindsL (units w h) (unC (flatC l))) ∧ kindsL (units w h) (unC (flatC l)) = kindsL (units w h) (unC (flatC l)) ∧ length (units w h) = length (units w h) ∧ length (units w h) =
 length (units w h) ∧ b_1.l = b_1.l ∧ 2 = 2 ∧ enV w (uC (units w h) b.i) (uE (units w h) b.i) 0 = enV w (uC (units w h) b.i) (uE (units w h) b.i) 0 ∧ enV w (uC (units w h) b.i) (uE (units w h) b.i) 1 =
 enV w (uC (units w h) b.i) (uE (units w h) b.i) 1 ∧ enV w (uC (units w h) b.i) (uE (units w h) b.i) 2 = enV w (uC (units w h) b.i) (uE (units w h) b.i) 2 ∧ enV w (uC (units w h) b.i) (uE (units w h)
 b.i) 3 = enV w (uC (units w h) b.i) (uE (units w h) b.i) 3 ∧ 2 = 2 ∧ enV w (uC (units w h) b_1.i) (uE (units w h) b_1.i) 0 = enV w (uC (units w h) b_1.i) (uE (units w h) b_1.i) 0 ∧ enV w (uC (units w
 h) b_1.i) (uE (units w h) b_1.i) 1 = enV w (uC (units w h) b_1.i) (uE (units w h) b_1.i) 1 ∧ enV w (uC (units w h) b_1.i) (uE (units w h) b_1.i) 2 = enV w (uC (units w h) b_1.i) (uE (units w h) b_1.i)
 2 ∧ enV w (uC (units w h) b_1.i) (uE (units w h) b_1.i) 3 = enV w (uC (units w h) b_1.i) (uE (units w h) b_1.i) 3 ∧ 0 = 0 ∧ 0 = 0 ∧ Cont.vals (flatU (units w h)) = Cont.vals (flatU (units w h)) ∧
 length (units w h) = length (units w h) ∧ length (kindsL (units w h) (unC (flatC l))) = length (kindsL (units w h) (unC (flatC l))) ∧ Int.toNat (↑(length (units w h)) : Int) = Int.toNat (↑(length
 (units w h)) : Int) ∧ b.i = b.i ∧ 0 = 0 ∧ b_1.i = b_1.i ∧ (b_1.l = bif mtU w (3 * uC (units w h) b.i + uE (units w h) b.i) (3 * uC (units w h) b_1.i + uE (units w h) b_1.i) then set b_1.l (Int.toNat
 b_1.i) (otK (Option.getD (kindsL (units w h) l)[Int.toNat b.i]? 0)) else b_1.l) ∧ True))) ∧ ∀ (b_4 : VL), (b_4.v = bif mtU w (3 * uC (units w h) b.i + uE (units w h) b.i) (3 * uC (units w h) b_1.i +
 uE (units w h) b_1.i) then set b_1.l (Int.toNat b_1.i) (otK (Option.getD (kindsL (units w h) l)[Int.toNat b.i]? 0)) else b_1.l) → inR i64 (b_1.i + 1) = true ∧ 1 = 1 ∧ w = w ∧ h = h ∧ Cont.vals (flatC
 l) = Cont.vals (flatC l) ∧ length l = length l ∧ 1 = 1 ∧ iI 0 = 0 ∧ iI 0 = 0 ∧ length (kindsL (units w h) (unC (flatC l))) = length (kindsL (units w h) (unC (flatC l))) ∧ kindsL (units w h) (unC
 (flatC l)) = kindsL (units w h) (unC (flatC l)) ∧ length (units w h) = length (units w h) ∧ length (units w h) = length (units w h) ∧ b_4.v = b_4.v ∧ 2 = 2 ∧ enV w (uC (units w h) b.i) (uE (units w h)
 b.i) 0 = enV w (uC (units w h) b.i) (uE (units w h) b.i) 0 ∧ enV w (uC (units w h) b.i) (uE (units w h) b.i) 1 = enV w (uC (units w h) b.i) (uE (units w h) b.i) 1 ∧ enV w (uC (units w h) b.i) (uE
 (units w h) b.i) 2 = enV w (uC (units w h) b.i) (uE (units w h) b.i) 2 ∧ enV w (uC (units w h) b.i) (uE (units w h) b.i) 3 = enV w (uC (units w h) b.i) (uE (units w h) b.i) 3 ∧ 0 = 0 ∧ 0 = 0 ∧
 Cont.vals (flatU (units w h)) = Cont.vals (flatU (units w h)) ∧ length (units w h) = length (units w h) ∧ length (kindsL (units w h) (unC (flatC l))) = length (kindsL (units w h) (unC (flatC l))) ∧
 Int.toNat (↑(length (units w h)) : Int) = Int.toNat (↑(length (units w h)) : Int) ∧ b.i = b.i ∧ 0 = 0 ∧ b_1.i + 1 = b_1.i + 1 ∧ (∃ (n : Nat), b_1.i + 1 = (↑n : Int) ∧ n ≤ length (units w h) ∧ b_4.v =
 take n (stO w (units w h) (Option.getD (units w h)[Int.toNat b.i]? 0) (otK (Option.getD (kindsL (units w h) l)[Int.toNat b.i]? 0)) b.l) ++ drop n b.l) ∧ length (units w h) - Int.toNat (b_1.i + 1) <
 length (units w h) - Int.toNat b_1.i ∧ True) ∧ (ltb b_1.i (↑(length (units w h)) : Int) = false → inR i64 (b.i + 1) = true ∧ 1 = 1 ∧ w = w ∧ h = h ∧ Cont.vals (flatC l) = Cont.vals (flatC l) ∧ length
 l = length l ∧ 1 = 1 ∧ iI 0 = 0 ∧ iI 0 = 0 ∧ length (kindsL (units w h) (unC (flatC l))) = length (kindsL (units w h) (unC (flatC l))) ∧ kindsL (units w h) (unC (flatC l)) = kindsL (units w h) (unC
 (flatC l)) ∧ length (units w h) = length (units w h) ∧ length (units w h) = length (units w h) ∧ b_1.l = b_1.l ∧ 0 = 0 ∧ 0 = 0 ∧ Cont.vals (flatU (units w h)) = Cont.vals (flatU (units w h)) ∧ length
 (units w h) = length (units w h) ∧ length (kindsL (units w h) (unC (flatC l))) = length (kindsL (units w h) (unC (flatC l))) ∧ Int.toNat (↑(length (units w h)) : Int) = Int.toNat (↑(length (units w
 h)) : Int) ∧ b.i + 1 = b.i + 1 ∧ (∃ (n : Nat), b.i + 1 = (↑n : Int) ∧ n ≤ length (units w h) ∧ length b_1.l = length (units w h) ∧ outO w (units w h) (drop n (prO (units w h) (kindsL (units w h) l)))
 b_1.l = outO w (units w h) (prO (units w h) (kindsL (units w h) l)) (replicate (length (units w h)) (0 : Int))) ∧ length (units w h) - Int.toNat (b.i + 1) < length (units w h) - Int.toNat b.i ∧ True))
 ∧ (ltb b.i (↑(length (units w h)) : Int) = false → length (units w h) = Int.toNat (↑(length (units w h)) : Int) ∧ (s5 w h ∧ Int.toNat (↑(length (units w h)) : Int) = length b.l ∧ length b.l <
 1000000000) ∧ length (wthL (units w h) b.l) = length (rtL w h l) ∧ flatC (wthL (units w h) b.l) = flatC (rtL w h l) ∧ w = w ∧ h = h ∧ length (wthL (units w h) b.l) = length (rtL w h l) ∧ True)) := by kernel_rfl

end Go.Proofs.YtfpcbimohikhmaaDoor.X
