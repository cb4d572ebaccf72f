/-
  What is to be shown of the functions (made by a program).
-/
import Derived.Test.YtpkmnabefnhcfaaDoorTD4Z
import Derived.KernelRfl
set_option maxRecDepth 1000000
set_option linter.unusedVariables false
namespace Go.Proofs.YtpkmnabefnhcfaaDoor.X
open Go Go.Ab

theorem ob_o28 (s : List UInt8) : fnP (T28) G 10000 fe28 (.r [] 0 (.r [] 0 (.r [] 0 (.lp (lPr s) [] [] (fun b => (.br (ltn b.p (List.length s)) (.r [] 2 (.lit (.r [] 3 (.r [] 0 (.cnd (.r [] 4 .nil) (.rs 3 [] 0 22 (.rs 4 [] 3 26 (.rs 4 [] 3 30 (.rs 4 [] 3 34 (.r [] 7 (.cnd (.r [] 33 .nil) .nil)) (.r [] 3 (.lit .nil))) (.r [] 15 (.lit .nil))) (.r [] 63 (.lit .nil))) (.r [] 255 (.lit .nil)))))))) (.r [(256, .auto, Dr.wrap)] 2 (.lit (.r [] 1 (.cnd (.r [] 5 (.rs 3 [] 0 55 (.r [] 3 (.lit (.r [] 1 .nil))) (.r [] 13 (.cnd (.r [] 1 .nil) (.r [] 3 .nil))))) (.rs 3 [] 0 55 (.r [] 3 (.lit (.r [] 1 .nil))) (.r [] 13 (.cnd (.r [] 1 .nil) (.r [] 3 .nil)))))))))))))) ([.str s]) ([.agg [.int .u8 (bI (pOk s) (pK s) 0), .int .i64 (bI (pOk s) (pC s) 0)], .int .i64 (bI (pOk s) 0 4)]) ([]) = (
1 = 1 ∧ iI 0 = 0 ∧ iI 0 = 0 ∧ 1 = 1 ∧ iI 0 = 0 ∧ iI 0 = 0 ∧ s = s ∧ 0 = 0 ∧ s = s ∧ 0 = 0 ∧ 0 = 0 ∧ 0 = 0 ∧ prI s 0 0 0 ∧ ∀ (b : LPr), prI s b.p b.k b.c → (ltn b.p (List.length s) = true → ltn b.p
(List.length s) = true ∧ (((↑b.p : Int) == 0) = true → (0 ≤ (↑(Utf8.decode (ByteArray.mk (Array.mk s)) b.p).fst : Int) ∧ (↑(Utf8.decode (ByteArray.mk (Array.mk s)) b.p).fst : Int) ≤ 1114111) ∧ inR
IntKind.u8 (if 0 > ixR (↑(Utf8.decode (ByteArray.mk (Array.mk s)) b.p).fst : Int) then 0 else ixR (↑(Utf8.decode (ByteArray.mk (Array.mk s)) b.p).fst : Int)) = true ∧ 1 = 1 ∧ iI 0 = 0 ∧ iI 0 = 0 ∧ 1 =
1 ∧ ((if 0 > ixR (↑(Utf8.decode (ByteArray.mk (Array.mk s)) b.p).fst : Int) then 0 else ixR (↑(Utf8.decode (ByteArray.mk (Array.mk s)) b.p).fst : Int)) = if 0 > ixR (↑(Utf8.decode (ByteArray.mk
(Array.mk s)) b.p).fst : Int) then 0 else ixR (↑(Utf8.decode (ByteArray.mk (Array.mk s)) b.p).fst : Int)) ∧ b.c = b.c ∧ s = s ∧ nxtP s b.p = nxtP s b.p ∧ s = s ∧ 0 = 0 ∧ 0 = 0 ∧ 0 = 0 ∧ prI s (nxtP s
b.p) (if 0 > ixR (↑(Utf8.decode (ByteArray.mk (Array.mk s)) b.p).fst : Int) then 0 else ixR (↑(Utf8.decode (ByteArray.mk (Array.mk s)) b.p).fst : Int)) b.c ∧ List.length s - nxtP s b.p < List.length s
- b.p ∧ True) ∧ (((↑b.p : Int) == 0) = false → (ltb 1 (↑b.p : Int) = true → (((↑(Utf8.decode (ByteArray.mk (Array.mk s)) b.p).fst : Int) != 45) = true → (leb 48 (↑(Utf8.decode (ByteArray.mk (Array.mk
s)) b.p).fst : Int) = true → (leb (↑(Utf8.decode (ByteArray.mk (Array.mk s)) b.p).fst : Int) 57 = true → (leb b.c 4096 = true → inR IntKind.i64 (10 * b.c) = true ∧ inR IntKind.i32 ((↑(Utf8.decode
(ByteArray.mk (Array.mk s)) b.p).fst : Int) - 48) = true ∧ inR IntKind.i64 ((↑(Utf8.decode (ByteArray.mk (Array.mk s)) b.p).fst : Int) - 48) = true ∧ inR IntKind.i64 (10 * b.c + ((↑(Utf8.decode
(ByteArray.mk (Array.mk s)) b.p).fst : Int) - 48)) = true ∧ 1 = 1 ∧ iI 0 = 0 ∧ iI 0 = 0 ∧ 1 = 1 ∧ b.k = b.k ∧ 10 * b.c + ((↑(Utf8.decode (ByteArray.mk (Array.mk s)) b.p).fst : Int) - 48) = 10 * b.c +
((↑(Utf8.decode (ByteArray.mk (Array.mk s)) b.p).fst : Int) - 48) ∧ s = s ∧ nxtP s b.p = nxtP s b.p ∧ s = s ∧ 0 = 0 ∧ 0 = 0 ∧ 0 = 0 ∧ prI s (nxtP s b.p) b.k (10 * b.c + ((↑(Utf8.decode (ByteArray.mk
(Array.mk s)) b.p).fst : Int) - 48)) ∧ List.length s - nxtP s b.p < List.length s - b.p ∧ True) ∧ (leb b.c 4096 = false → 1 = 1 ∧ iI 0 = 0 ∧ iI 0 = 0 ∧ 1 = 1 ∧ b.k = b.k ∧ b.c = b.c ∧ s = s ∧ nxtP s
b.p = nxtP s b.p ∧ s = s ∧ 0 = 0 ∧ 0 = 0 ∧ 0 = 0 ∧ prI s (nxtP s b.p) b.k b.c ∧ List.length s - nxtP s b.p < List.length s - b.p ∧ True)) ∧ (leb (↑(Utf8.decode (ByteArray.mk (Array.mk s)) b.p).fst :
Int) 57 = false → 1 = 1 ∧ iI 0 = 0 ∧ iI 0 = 0 ∧ 1 = 1 ∧ b.k = b.k ∧ b.c = b.c ∧ s = s ∧ nxtP s b.p = nxtP s b.p ∧ s = s ∧ 0 = 0 ∧ 0 = 0 ∧ 0 = 0 ∧ prI s (nxtP s b.p) b.k b.c ∧ List.length s - nxtP s
b.p < List.length s - b.p ∧ True)) ∧ (leb 48 (↑(Utf8.decode (ByteArray.mk (Array.mk s)) b.p).fst : Int) = false → 1 = 1 ∧ iI 0 = 0 ∧ iI 0 = 0 ∧ 1 = 1 ∧ b.k = b.k ∧ b.c = b.c ∧ s = s ∧ nxtP s b.p =
nxtP s b.p ∧ s = s ∧ 0 = 0 ∧ 0 = 0 ∧ 0 = 0 ∧ prI s (nxtP s b.p) b.k b.c ∧ List.length s - nxtP s b.p < List.length s - b.p ∧ True)) ∧ (((↑(Utf8.decode (ByteArray.mk (Array.mk s)) b.p).fst : Int) !=
45) = false → 1 = 1 ∧ iI 0 = 0 ∧ iI 0 = 0 ∧ 1 = 1 ∧ b.k = b.k ∧ b.c = b.c ∧ s = s ∧ nxtP s b.p = nxtP s b.p ∧ s = s ∧ 0 = 0 ∧ 0 = 0 ∧ 0 = 0 ∧ prI s (nxtP s b.p) b.k b.c ∧ List.length s - nxtP s b.p <
List.length s - b.p ∧ True)) ∧ (ltb 1 (↑b.p : Int) = false → 1 = 1 ∧ iI 0 = 0 ∧ iI 0 = 0 ∧ 1 = 1 ∧ b.k = b.k ∧ b.c = b.c ∧ s = s ∧ nxtP s b.p = nxtP s b.p ∧ s = s ∧ 0 = 0 ∧ 0 = 0 ∧ 0 = 0 ∧ prI s (nxtP
s b.p) b.k b.c ∧ List.length s - nxtP s b.p < List.length s - b.p ∧ True))) ∧ (ltn b.p (List.length s) = false → (!ltn b.p (List.length s)) = true ∧ (hasM s = true → inR IntKind.i64 (0 - b.c) = true ∧
((s == []) = true → 0 = bI (pOk s) (pK s) 0 ∧ 0 = bI (pOk s) (pC s) 0 ∧ 4 = bI (pOk s) 0 4 ∧ True) ∧ ((s == []) = false → (0 ≤ b.k ∧ b.k ≤ 255) ∧ ((!tx b.k (0 - b.c) == s) = true → 0 = bI (pOk s) (pK
s) 0 ∧ 0 = bI (pOk s) (pC s) 0 ∧ 4 = bI (pOk s) 0 4 ∧ True) ∧ ((!tx b.k (0 - b.c) == s) = false → b.k = bI (pOk s) (pK s) 0 ∧ 0 - b.c = bI (pOk s) (pC s) 0 ∧ 0 = bI (pOk s) 0 4 ∧ True))) ∧ (hasM s =
false → ((s == []) = true → 0 = bI (pOk s) (pK s) 0 ∧ 0 = bI (pOk s) (pC s) 0 ∧ 4 = bI (pOk s) 0 4 ∧ True) ∧ ((s == []) = false → (0 ≤ b.k ∧ b.k ≤ 255) ∧ ((!tx b.k b.c == s) = true → 0 = bI (pOk s)
(pK s) 0 ∧ 0 = bI (pOk s) (pC s) 0 ∧ 4 = bI (pOk s) 0 4 ∧ True) ∧ ((!tx b.k b.c == s) = false → b.k = bI (pOk s) (pK s) 0 ∧ b.c = bI (pOk s) (pC s) 0 ∧ 0 = bI (pOk s) 0 4 ∧ True))))) := by kernel_rfl

theorem ob_o9 (k c : Int) (s : List UInt8) : fnP (T9) G 10000 fe9 (.r [] 0 (.r [] 0 (.cnd (.r [] 0 .nil) (.r [] 0 (.r [] 3 (.cnd (.r [] 1 (.r [] 14 (.rs 4 [] 3 26 (.r [] 3 (.lit (.r [] 0 .nil))) (.r [] 3 (.cnd (.r [] 0 .nil) (.r [] 1 (.cnd (.r [] 0 .nil) (.r [] 14 (.r [] 0 (.cnd (.rs 3 [] 0 43 (.rs 5 [] 7 48 (.r [] 7 .nil) (.r [] 3 .nil)) (.r [] 15 .nil)) (.rs 4 [] 3 54 (.rs 6 [] 13 60 (.r [] 7 .nil) (.r [] 3 .nil)) (.r [] 15 .nil)))))))))))) (.r [] 1 (.cnd (.r [] 0 .nil) (.r [] 14 (.r [] 0 (.cnd (.rs 3 [] 0 43 (.rs 5 [] 7 48 (.r [] 7 .nil) (.r [] 3 .nil)) (.r [] 15 .nil)) (.rs 4 [] 3 54 (.rs 6 [] 13 60 (.r [] 7 .nil) (.r [] 3 .nil)) (.r [] 15 .nil))))))))))))) ([lnV k c, .str s]) ([.bool true]) ([]) = (
(ltb 20 (↑(List.length s) : Int) = true → true = true ∧ True) ∧ (ltb 20 (↑(List.length s) : Int) = false → ((bI (vl k c) 1 0 == 1) = true → vl k c = true ∧ List.length (List.getD letters (Int.toNat k)
0 :: 32 :: decI c) < 1000000 ∧ ((!(bI (pOk (List.getD letters (Int.toNat k) 0 :: 32 :: decI c)) (pK (List.getD letters (Int.toNat k) 0 :: 32 :: decI c)) 0 == k && bI (pOk (List.getD letters (Int.toNat
k) 0 :: 32 :: decI c)) (pC (List.getD letters (Int.toNat k) 0 :: 32 :: decI c)) 0 == c)) = true → false = true ∧ True) ∧ ((!(bI (pOk (List.getD letters (Int.toNat k) 0 :: 32 :: decI c)) (pK (List.getD
letters (Int.toNat k) 0 :: 32 :: decI c)) 0 == k && bI (pOk (List.getD letters (Int.toNat k) 0 :: 32 :: decI c)) (pC (List.getD letters (Int.toNat k) 0 :: 32 :: decI c)) 0 == c)) = false → ((bI (pOk
(List.getD letters (Int.toNat k) 0 :: 32 :: decI c)) 0 4 != 0) = true → false = true ∧ True) ∧ ((bI (pOk (List.getD letters (Int.toNat k) 0 :: 32 :: decI c)) 0 4 != 0) = false → (0 ≤ k ∧ k ≤ 255) ∧
((!tx k c == List.getD letters (Int.toNat k) 0 :: 32 :: decI c) = true → false = true ∧ True) ∧ ((!tx k c == List.getD letters (Int.toNat k) 0 :: 32 :: decI c) = false → List.length s < 1000000 ∧ ((bI
(pOk s) 0 4 != 0) = true → ((bI (pOk s) 0 4 == 4) = true → ((bI (pOk s) (pK s) 0 == 0 && bI (pOk s) (pC s) 0 == 0) = true → true = true ∧ True) ∧ ((bI (pOk s) (pK s) 0 == 0 && bI (pOk s) (pC s) 0 ==
0) = false → false = true ∧ True)) ∧ ((bI (pOk s) 0 4 == 4) = false → false = true ∧ True)) ∧ ((bI (pOk s) 0 4 != 0) = false → ((bI (vl (bI (pOk s) (pK s) 0) (bI (pOk s) (pC s) 0)) 1 0 == 1) = true →
vl (bI (pOk s) (pK s) 0) (bI (pOk s) (pC s) 0) = true ∧ ((List.getD letters (Int.toNat (bI (pOk s) (pK s) 0)) 0 :: 32 :: decI (bI (pOk s) (pC s) 0) == s) = true → true = true ∧ True) ∧ ((List.getD
letters (Int.toNat (bI (pOk s) (pK s) 0)) 0 :: 32 :: decI (bI (pOk s) (pC s) 0) == s) = false → false = true ∧ True)) ∧ ((bI (vl (bI (pOk s) (pK s) 0) (bI (pOk s) (pC s) 0)) 1 0 == 1) = false → false
= true ∧ True)))))) ∧ ((bI (vl k c) 1 0 == 1) = false → (0 ≤ k ∧ k ≤ 255) ∧ ((!tx k c == []) = true → false = true ∧ True) ∧ ((!tx k c == []) = false → List.length s < 1000000 ∧ ((bI (pOk s) 0 4 != 0)
= true → ((bI (pOk s) 0 4 == 4) = true → ((bI (pOk s) (pK s) 0 == 0 && bI (pOk s) (pC s) 0 == 0) = true → true = true ∧ True) ∧ ((bI (pOk s) (pK s) 0 == 0 && bI (pOk s) (pC s) 0 == 0) = false → false
= true ∧ True)) ∧ ((bI (pOk s) 0 4 == 4) = false → false = true ∧ True)) ∧ ((bI (pOk s) 0 4 != 0) = false → ((bI (vl (bI (pOk s) (pK s) 0) (bI (pOk s) (pC s) 0)) 1 0 == 1) = true → vl (bI (pOk s) (pK
s) 0) (bI (pOk s) (pC s) 0) = true ∧ ((List.getD letters (Int.toNat (bI (pOk s) (pK s) 0)) 0 :: 32 :: decI (bI (pOk s) (pC s) 0) == s) = true → true = true ∧ True) ∧ ((List.getD letters (Int.toNat (bI
(pOk s) (pK s) 0)) 0 :: 32 :: decI (bI (pOk s) (pC s) 0) == s) = false → false = true ∧ True)) ∧ ((bI (vl (bI (pOk s) (pK s) 0) (bI (pOk s) (pC s) 0)) 1 0 == 1) = false → false = true ∧ True)))))) := by kernel_rfl

end Go.Proofs.YtpkmnabefnhcfaaDoor.X
