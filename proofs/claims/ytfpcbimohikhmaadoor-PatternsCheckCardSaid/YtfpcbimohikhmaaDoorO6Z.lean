/-
 What is to be shown of the functions (made by a program).
-/
import Derived.Test.YtfpcbimohikhmaaDoorD6Z
import Derived.KernelRfl
set_option maxRecDepth 1000000
set_option linter.unusedVariables false
namespace Go.Proofs.YtfpcbimohikhmaaDoor.X
open Go Go.Ab
open List IntKind

theorem ob_o24 (w h : Int) (l : List Cr) : fnP (CR1 w h (opL l)) G 10000 fe24 (.r [] 0 (.r [] 29 (.r [] 0 (.cnd (.r [] 1 (.ghc 65 2 9001 3 (Cont.vals []) .nil)) (.r [] 1 (.lp (l24 w h (opL l)) [] [] (fun b => (.r [] 0 (.cnd (.r [(450, .auto, Dr.val (crV (opL l) b.i))] 128 (.r [] 63 (.r [] 21 (.r [(643, .auto, Dr.val [AV.int u8 (mQ (qQ (cC (opL l) b.i)))])] 17 (.r [] 27 (.jn (j24 (min (mId w (cC (opL l) b.i)) (nbI w h (mId w (cC (opL l) b.i)) (mE (cE (opL l) b.i)))) (mE (cE (opL l) b.i))) [10] [] (.r [(774, .auto, Dr.val [AV.int u8 (mE (cE (opL l) b.i))])] 451 .nil) (fun b_1 => (.r [] 15 (.r [] 0 .nil))))))))) (.r [(962, .auto, Dr.heap)] 1 (.r [] 3 .nil))))))))))) ([patV w h l]) ([patR (chkI w h l == 0) w h (trL w h l), .int .i64 (chkI w h l)]) ([blkR (trL w h l)]) = (
 (okA (flatC l) (length l) ∧ length (unC (flatC l)) < 1000000 ∧ edg (unC (flatC l))) ∧ ((chkI w h (unC (flatC l)) != 0) = true → 0 = length (trL w h l) ∧ 0 = length (trL w h l) ∧ [] = flatC (trL w h l)
 ∧ 0 = bI (chkI w h l == 0) w 0 ∧ 0 = bI (chkI w h l == 0) h 0 ∧ 0 = length (trL w h l) ∧ chkI w h (unC (flatC l)) = chkI w h l ∧ True) ∧ ((chkI w h (unC (flatC l)) != 0) = false → length (opR w h (unC
 (flatC l))) = length (opR w h (unC (flatC l))) ∧ 1 = 1 ∧ w = w ∧ h = h ∧ Cont.vals (flatC l) = Cont.vals (flatC l) ∧ length l = length l ∧ 1 = 1 ∧ iI 0 = 0 ∧ iI 0 = 0 ∧ length (opR w h (unC (flatC
 l))) = length (opL l) ∧ length (opR w h (unC (flatC l))) = length (opL l) ∧ flatC (opR w h (unC (flatC l))) = flatC (opR w h (unC (flatC l))) ∧ 1 = 1 ∧ bI (chkI w h (unC (flatC l)) == 0) w 0 = bI
 (chkI w h (unC (flatC l)) == 0) w 0 ∧ bI (chkI w h (unC (flatC l)) == 0) h 0 = bI (chkI w h (unC (flatC l)) == 0) h 0 ∧ length (opR w h (unC (flatC l))) = length (opR w h (unC (flatC l))) ∧ 0 = 0 ∧ 0
 = 0 ∧ 0 = 0 ∧ length (opR w h (unC (flatC l))) = length (opR w h (unC (flatC l))) ∧ (↑(length (opR w h (unC (flatC l)))) : Int) = (↑(length (opR w h (unC (flatC l)))) : Int) ∧ iI 0 = 0 ∧ (∃ (n : Nat),
 0 = (↑n : Int) ∧ n ≤ length (opL l) ∧ flatC (opR w h (unC (flatC l))) = flatC (take n (mrL w h (opL l)) ++ drop n (opL l))) ∧ ∀ (b : L24), (∃ (n : Nat), b.i = (↑n : Int) ∧ n ≤ length (opL l) ∧ b.l =
 flatC (take n (mrL w h (opL l)) ++ drop n (opL l))) → (ltb b.i (↑(length (opR w h (unC (flatC l)))) : Int) = true → leb 0 b.i = true ∧ ltb b.i (↑(length (opR w h (unC (flatC l)))) : Int) = true ∧
 length (opL l) = length (opR w h (unC (flatC l))) ∧ length (opL l) = length (opR w h (unC (flatC l))) ∧ b.l[Int.toNat b.i * 3]? = some (AV.int i64 (cC (opL l) b.i)) ∧ b.l[Int.toNat b.i * 3 + 1]? =
 some (AV.int u8 (cE (opL l) b.i)) ∧ b.l[Int.toNat b.i * 3 + 1 + 1]? = some (AV.int u8 (cK (opL l) b.i)) ∧ inR i64 (w - 1) = true ∧ inR i64 (w - 1 - bI (okI w h (cC (opL l) b.i)) (qX w (cC (opL l)
 b.i)) 0) = true ∧ leb 0 (bI (okI w h (cC (opL l) b.i)) (qQ (cC (opL l) b.i)) 0) = true ∧ ltb (bI (okI w h (cC (opL l) b.i)) (qQ (cC (opL l) b.i)) 0) 4 = true ∧ [AV.int u8 0, AV.int u8 3, AV.int u8 2,
 AV.int u8 1][Int.toNat (bI (okI w h (cC (opL l) b.i)) (qQ (cC (opL l) b.i)) 0)]? = some (AV.int u8 (mQ (qQ (cC (opL l) b.i)))) ∧ (okS w h = true ∧ 0 ≤ mQ (qQ (cC (opL l) b.i)) ∧ mQ (qQ (cC (opL l)
 b.i)) ≤ 3 ∧ (-1000 ≤ w - 1 - bI (okI w h (cC (opL l) b.i)) (qX w (cC (opL l) b.i)) 0 ∧ w - 1 - bI (okI w h (cC (opL l) b.i)) (qX w (cC (opL l) b.i)) 0 ≤ 1000) ∧ -1000 ≤ bI (okI w h (cC (opL l) b.i))
 (qY w (cC (opL l) b.i)) 0 ∧ bI (okI w h (cC (opL l) b.i)) (qY w (cC (opL l) b.i)) 0 ≤ 1000) ∧ (leb 0 (cE (opL l) b.i) = true ∧ ltb (cE (opL l) b.i) 3 = true ∧ [AV.int u8 0, AV.int u8 2, AV.int u8
 1][Int.toNat (cE (opL l) b.i)]? = some (AV.int u8 (mE (cE (opL l) b.i))) ∧ 0 ≤ mE (cE (opL l) b.i) ∧ 1 = 1 ∧ w = w ∧ h = h ∧ Cont.vals (flatC l) = Cont.vals (flatC l) ∧ length l = length l ∧ 1 = 1 ∧
 iI 0 = 0 ∧ iI 0 = 0 ∧ length (opL l) = length (opL l) ∧ length (opL l) = length (opL l) ∧ b.l = b.l ∧ 1 = 1 ∧ bI (chkI w h (unC (flatC l)) == 0) w 0 = bI (chkI w h (unC (flatC l)) == 0) w 0 ∧ bI (chkI
 w h (unC (flatC l)) == 0) h 0 = bI (chkI w h (unC (flatC l)) == 0) h 0 ∧ length (opR w h (unC (flatC l))) = length (opR w h (unC (flatC l))) ∧ 1 = 1 ∧ cC (opL l) b.i = cC (opL l) b.i ∧ cE (opL l) b.i
 = cE (opL l) b.i ∧ cK (opL l) b.i = cK (opL l) b.i ∧ 1 = 1 ∧ w - 1 - bI (okI w h (cC (opL l) b.i)) (qX w (cC (opL l) b.i)) 0 = w - 1 - bI (okI w h (cC (opL l) b.i)) (qX w (cC (opL l) b.i)) 0 ∧ bI (okI
 w h (cC (opL l) b.i)) (qY w (cC (opL l) b.i)) 0 = bI (okI w h (cC (opL l) b.i)) (qY w (cC (opL l) b.i)) 0 ∧ mQ (qQ (cC (opL l) b.i)) = mQ (qQ (cC (opL l) b.i)) ∧ 1 = 1 ∧ nmC w h (bI (inB w h (w - 1 -
 bI (okI w h (cC (opL l) b.i)) (qX w (cC (opL l) b.i)) 0) (bI (okI w h (cC (opL l) b.i)) (qY w (cC (opL l) b.i)) 0)) (4 * (bI (okI w h (cC (opL l) b.i)) (qY w (cC (opL l) b.i)) 0 * w + (w - 1 - bI (okI
 w h (cC (opL l) b.i)) (qX w (cC (opL l) b.i)) 0)) + mQ (qQ (cC (opL l) b.i))) 0) (mE (cE (opL l) b.i)) = nmC w h (bI (inB w h (w - 1 - bI (okI w h (cC (opL l) b.i)) (qX w (cC (opL l) b.i)) 0) (bI (okI
 w h (cC (opL l) b.i)) (qY w (cC (opL l) b.i)) 0)) (4 * (bI (okI w h (cC (opL l) b.i)) (qY w (cC (opL l) b.i)) 0 * w + (w - 1 - bI (okI w h (cC (opL l) b.i)) (qX w (cC (opL l) b.i)) 0)) + mQ (qQ (cC
 (opL l) b.i))) 0) (mE (cE (opL l) b.i)) ∧ nmE w h (bI (inB w h (w - 1 - bI (okI w h (cC (opL l) b.i)) (qX w (cC (opL l) b.i)) 0) (bI (okI w h (cC (opL l) b.i)) (qY w (cC (opL l) b.i)) 0)) (4 * (bI
 (okI w h (cC (opL l) b.i)) (qY w (cC (opL l) b.i)) 0 * w + (w - 1 - bI (okI w h (cC (opL l) b.i)) (qX w (cC (opL l) b.i)) 0)) + mQ (qQ (cC (opL l) b.i))) 0) (mE (cE (opL l) b.i)) = nmE w h (bI (inB w
 h (w - 1 - bI (okI w h (cC (opL l) b.i)) (qX w (cC (opL l) b.i)) 0) (bI (okI w h (cC (opL l) b.i)) (qY w (cC (opL l) b.i)) 0)) (4 * (bI (okI w h (cC (opL l) b.i)) (qY w (cC (opL l) b.i)) 0 * w + (w -
 1 - bI (okI w h (cC (opL l) b.i)) (qX w (cC (opL l) b.i)) 0)) + mQ (qQ (cC (opL l) b.i))) 0) (mE (cE (opL l) b.i)) ∧ 0 = 0 ∧ 0 = 0 ∧ 0 = 0 ∧ length (opR w h (unC (flatC l))) = length (opR w h (unC
 (flatC l))) ∧ (↑(length (opR w h (unC (flatC l)))) : Int) = (↑(length (opR w h (unC (flatC l)))) : Int) ∧ b.i = b.i ∧ 0 = 0 ∧ b.i = b.i ∧ 0 = 0 ∧ (nmC w h (bI (inB w h (w - 1 - bI (okI w h (cC (opL l)
 b.i)) (qX w (cC (opL l) b.i)) 0) (bI (okI w h (cC (opL l) b.i)) (qY w (cC (opL l) b.i)) 0)) (4 * (bI (okI w h (cC (opL l) b.i)) (qY w (cC (opL l) b.i)) 0 * w + (w - 1 - bI (okI w h (cC (opL l) b.i))
 (qX w (cC (opL l) b.i)) 0)) + mQ (qQ (cC (opL l) b.i))) 0) (mE (cE (opL l) b.i)) = min (mId w (cC (opL l) b.i)) (nbI w h (mId w (cC (opL l) b.i)) (mE (cE (opL l) b.i))) ∧ nmE w h (bI (inB w h (w - 1 -
 bI (okI w h (cC (opL l) b.i)) (qX w (cC (opL l) b.i)) 0) (bI (okI w h (cC (opL l) b.i)) (qY w (cC (opL l) b.i)) 0)) (4 * (bI (okI w h (cC (opL l) b.i)) (qY w (cC (opL l) b.i)) 0 * w + (w - 1 - bI (okI
 w h (cC (opL l) b.i)) (qX w (cC (opL l) b.i)) 0)) + mQ (qQ (cC (opL l) b.i))) 0) (mE (cE (opL l) b.i)) = mE (cE (opL l) b.i)) ∧ True) ∧ ∀ (b_1 : L2b), b_1.c = min (mId w (cC (opL l) b.i)) (nbI w h
 (mId w (cC (opL l) b.i)) (mE (cE (opL l) b.i))) ∧ b_1.e = mE (cE (opL l) b.i) → leb 0 b.i = true ∧ ltb b.i (↑(length (opR w h (unC (flatC l)))) : Int) = true ∧ length (opL l) = length (opR w h (unC
 (flatC l))) ∧ length (opL l) = length (opR w h (unC (flatC l))) ∧ len' (Int.toNat b.i * 3 + 3) (Cont.size (Cont.vals b.l)) = true ∧ inR i64 (b.i + 1) = true ∧ 1 = 1 ∧ w = w ∧ h = h ∧ Cont.vals (flatC
 l) = Cont.vals (flatC l) ∧ length l = length l ∧ 1 = 1 ∧ iI 0 = 0 ∧ iI 0 = 0 ∧ length (opL l) = length (opL l) ∧ length (opL l) = length (opL l) ∧ set (set (set b.l (Int.toNat b.i * 3) (AV.int i64
 b_1.c)) (Int.toNat b.i * 3 + 1) (AV.int u8 b_1.e)) (Int.toNat b.i * 3 + 1 + 1) (AV.int u8 (cK (opL l) b.i)) = set (set (set b.l (Int.toNat b.i * 3) (AV.int i64 b_1.c)) (Int.toNat b.i * 3 + 1) (AV.int
 u8 b_1.e)) (Int.toNat b.i * 3 + 1 + 1) (AV.int u8 (cK (opL l) b.i)) ∧ 1 = 1 ∧ bI (chkI w h (unC (flatC l)) == 0) w 0 = bI (chkI w h (unC (flatC l)) == 0) w 0 ∧ bI (chkI w h (unC (flatC l)) == 0) h 0 =
 bI (chkI w h (unC (flatC l)) == 0) h 0 ∧ length (opR w h (unC (flatC l))) = length (opR w h (unC (flatC l))) ∧ 0 = 0 ∧ 0 = 0 ∧ 0 = 0 ∧ length (opR w h (unC (flatC l))) = length (opR w h (unC (flatC
 l))) ∧ (↑(length (opR w h (unC (flatC l)))) : Int) = (↑(length (opR w h (unC (flatC l)))) : Int) ∧ b.i + 1 = b.i + 1 ∧ (∃ (n : Nat), b.i + 1 = (↑n : Int) ∧ n ≤ length (opL l) ∧ set (set (set b.l
 (Int.toNat b.i * 3) (AV.int i64 b_1.c)) (Int.toNat b.i * 3 + 1) (AV.int u8 b_1.e)) (Int.toNat b.i * 3 + 1 + 1) (AV.int u8 (cK (opL l) b.i)) = flatC (take n (mrL w h (opL l)) ++ drop n (opL l))) ∧
 length (opL l) - Int.toNat (b.i + 1) < length (opL l) - Int.toNat b.i ∧ True) ∧ (ltb b.i (↑(length (opR w h (unC (flatC l)))) : Int) = false → ([(8256, HO.blk (Blk.mk (Cont.vals b.l) 3 (length (opL
 l)) (some (length (opL l))) none true false))] = [(8256, HO.blk (Blk.mk (Cont.vals (flatC (mrL w h (opL l)))) 3 (length (opR w h (unC (flatC l)))) (some (length (opR w h (unC (flatC l))))) none true
 false))] ∧ length (opR w h (unC (flatC l))) = length (mrL w h (opL l)) ∧ length (opR w h (unC (flatC l))) < 1000000 ∧ ∀ (x : Cr), x ∈ mrL w h (opL l) → bndC x) ∧ length (opR w h (unC (flatC l))) =
 length (trL w h l) ∧ length (opR w h (unC (flatC l))) = length (trL w h l) ∧ flatC (srtC (mrL w h (opL l))) = flatC (trL w h l) ∧ bI (chkI w h (unC (flatC l)) == 0) w 0 = bI (chkI w h l == 0) w 0 ∧ bI
 (chkI w h (unC (flatC l)) == 0) h 0 = bI (chkI w h l == 0) h 0 ∧ length (opR w h (unC (flatC l))) = length (trL w h l) ∧ 0 = chkI w h l ∧ True))) := by kernel_rfl

end Go.Proofs.YtfpcbimohikhmaaDoor.X
