/-
  What is to be shown of the functions (made by a program).
-/
import Derived.Test.YtidpllnmghgomaaDoorD5Z
import Derived.KernelRfl
set_option maxRecDepth 1000000
set_option linter.unusedVariables false
namespace Go.Proofs.YtidpllnmghgomaaDoor.X
open Go Go.Ab
open List IntKind

theorem ob_o27 (a k : List Int) : fnP (T6a) G 10000 fe27 (.r [] 0 (.r [] 0 .nil)) ([.fn 38 [] [.iptr (fanC a k)]]) ([.imm (.ints .i64 (shps a k)) (shps a k).length none]) ([]) = (
 (length a = length a ∧ length k = length k ∧ length a = length k ∧ length a < 1000000000000) ∧ Cont.ints i64 (shps a k) = Cont.ints i64 (shps a k) ∧ length (shps a k) = length (shps a k) ∧ True) := by kernel_rfl

theorem ob_o15 (a k : List Int) : fnP (T6) G 10000 fe15 (.r [] 0 (.r [] 1 (.r [] 0 (.ff (.r [] 1 .nil))))) ([fanV a k]) ([.imm (.ints .i64 (shps a k)) (shps a k).length (some (shps a k).length), .int .i64 0]) ([]) = (
 (length a = length a ∧ length k = length k ∧ length a < 1000000000000) ∧ (chk a k != 0) = false ∧ (length a = length a ∧ length k = length k) ∧ (length a = length a ∧ length k = length k ∧ length a =
 length k ∧ length a < 1000000000000) ∧ length (shps a k) = length (shps a k) ∧ Cont.ints i64 (shps a k) = Cont.ints i64 (shps a k) ∧ length (shps a k) = length (shps a k) ∧ length (shps a k) = length
 (shps a k) ∧ iI 0 = 0 ∧ True) := by kernel_rfl

theorem ob_o15n (a k : List Int) : fnP (T6) G 10000 fe15 (.r [] 0 (.r [] 1 (.r [] 0 (.tt (.r [] 0 .nil))))) ([fanV a k]) ([.nils, .int .i64 (chk a k)]) ([]) = (
 (length a = length a ∧ length k = length k ∧ length a < 1000000000000) ∧ (chk a k != 0) = true ∧ chk a k = chk a k ∧ True) := by kernel_rfl

theorem ob_o13 (a b : List Int) : fnP (T0) G 10000 fe13 (.r [] 0 (.rs 6 [] 0 11 (.r [] 3 (.lit (.r [] 0 .nil))) (.r [] 3 (.cnd (.r [] 0 .nil) (.r [] 0 (.lp (l13 a b) [] [] (fun b_1 => (.r [] 0 (.cnd (.cnd (.r [] 0 .nil) (.r [] 0 .nil)) (.r [] 0 .nil)))))))))) ([.imm (.ints .i64 a) a.length (some a.length), .imm (.ints .i64 b) b.length none]) ([.bool (eqL a b)]) ([]) = (
 (((↑(length a) : Int) != (↑(length b) : Int)) = true → false = eqL a b ∧ True) ∧ (((↑(length a) : Int) != (↑(length b) : Int)) = false → (((↑(length a) : Int) != (↑(length a) : Int)) = true → false =
 eqL a b ∧ True) ∧ (((↑(length a) : Int) != (↑(length a) : Int)) = false → Cont.ints i64 a = Cont.ints i64 a ∧ length a = length a ∧ length a = length a ∧ Cont.ints i64 b = Cont.ints i64 b ∧ length b =
 length b ∧ iI 0 = 0 ∧ (∃ (n : Nat), 0 = (↑n : Int) ∧ n ≤ length a ∧ length a = length b ∧ take n a = take n b) ∧ ∀ (b_1 : L13), (∃ (n : Nat), b_1.i = (↑n : Int) ∧ n ≤ length a ∧ length a = length b ∧
 take n a = take n b) → (ltb b_1.i (↑(length a) : Int) = true → leb 0 b_1.i = true ∧ ltb b_1.i (↑(length a) : Int) = true ∧ ltn 0 (Cont.size (Cont.ints i64 a)) = true ∧ ltn 0 (Cont.size (Cont.ints i64
 (drop (Int.toNat b_1.i) a))) = true ∧ leb 0 b_1.i = true ∧ ltb b_1.i (↑(length b) : Int) = true ∧ ltn 0 (Cont.size (Cont.ints i64 b)) = true ∧ ltn 0 (Cont.size (Cont.ints i64 (drop (Int.toNat b_1.i)
 b))) = true ∧ ((getD (drop (Int.toNat b_1.i) a) 0 0 != getD (drop (Int.toNat b_1.i) b) 0 0) = true → false = eqL a b ∧ True) ∧ ((getD (drop (Int.toNat b_1.i) a) 0 0 != getD (drop (Int.toNat b_1.i) b)
 0 0) = false → inR i64 (b_1.i + 1) = true ∧ Cont.ints i64 a = Cont.ints i64 a ∧ length a = length a ∧ length a = length a ∧ Cont.ints i64 b = Cont.ints i64 b ∧ length b = length b ∧ b_1.i + 1 = b_1.i
 + 1 ∧ (∃ (n : Nat), b_1.i + 1 = (↑n : Int) ∧ n ≤ length a ∧ length a = length b ∧ take n a = take n b) ∧ length a - Int.toNat (b_1.i + 1) < length a - Int.toNat b_1.i ∧ True)) ∧ (ltb b_1.i (↑(length
 a) : Int) = false → true = eqL a b ∧ True)))) := by kernel_rfl

theorem ob_o4 (c l : Int) (ks : List Int) : fnP (T7) G 10000 fe4 (.r [] 0 (.r [] 5 (.r [] 49 (.r [] 1 (.r [] 0 (.r [] 0 (.gho 7 9001 1 (Cont.ints i64 []) (.lp (l4 (ofA c l ks) (ofK c ks)) [] [] (fun b => (.rs 4 [] 0 24 (.r [] 3 (.cnd (.r [] 0 (.r [] 0 (.jn (jI 9 i64 (befI (length (ofA c l ks)) b.i)) [35] [] (.cnd (.r [] 0 .nil) .nil) (fun b_1 => (.r [] 0 (.jn (jI 10 i64 (nexI (length (ofA c l ks)) b.i)) [41] [] (.cnd (.r [] 0 .nil) .nil) (fun b_2 => (.br (ltb (getD (ofA c l ks) (Int.toNat b.i) 0) (getD (ofA c l ks) (Int.toNat b_1.v) 0)) (.br (ltb (getD (ofA c l ks) (Int.toNat b.i) 0) (getD (ofA c l ks) (Int.toNat b_2.v) 0)) (.br (getD (ofK c ks) (Int.toNat b.i) 0 == getD (ofK c ks) (Int.toNat b_2.v) 0) (.r [yO 908, yO 909, yO 910, yO 911, yO 912, yO 913, yO 914, yO 915, yO 916, yO 917, yO 918, (919, .auto, Dr.pk true), yO 921, yO 922, yO 923, yO 924, yO 925, yO 926, yO 927, yO 928, yO 929, yO 930, yO 931, (932, .auto, Dr.pk true), yO 934, yO 935, yO 936, yO 937, yO 938, yO 939, (940, .auto, Dr.pk true)] 377874637073983681347649 (.cnd (.r [] 4 (.r [] 0 .nil)) (.r [] 0 .nil))) (.r [yO 908, yO 909, yO 910, yO 911, yO 912, yO 913, yO 914, yO 915, yO 916, yO 917, yO 918, (919, .auto, Dr.pk true), yO 921, yO 922, yO 923, yO 924, yO 925, yO 926, yO 927, yO 928, yO 929, yO 930, yO 931, (932, .auto, Dr.pk true), (934, .off, Dr.plain), (935, .off, Dr.plain), (936, .off, Dr.plain), (937, .off, Dr.plain), (938, .off, Dr.plain), (939, .off, Dr.plain), (940, .auto, Dr.pk false)] 5914489571704282562625 (.lit (.r [] 0 .nil)))) (.r [yO 908, yO 909, yO 910, yO 911, yO 912, yO 913, yO 914, yO 915, yO 916, yO 917, yO 918, (919, .auto, Dr.pk true), (921, .off, Dr.plain), (922, .off, Dr.plain), (923, .off, Dr.plain), (924, .off, Dr.plain), (925, .off, Dr.plain), (926, .off, Dr.plain), (927, .off, Dr.plain), (928, .off, Dr.plain), (929, .off, Dr.plain), (930, .off, Dr.plain), (931, .off, Dr.plain), (932, .auto, Dr.pk false)] 16325720481480769 (.lit (.r [] 0 .nil)))) (.r [(908, .off, Dr.plain), (909, .off, Dr.plain), (910, .off, Dr.plain), (911, .off, Dr.plain), (912, .off, Dr.plain), (913, .off, Dr.plain), (914, .off, Dr.plain), (915, .off, Dr.plain), (916, .off, Dr.plain), (917, .off, Dr.plain), (918, .off, Dr.plain), (919, .auto, Dr.pk false)] 1048576065 (.lit (.r [] 0 .nil))))))))))) (.r [yL 1027, yL 1037] 60496 .nil))) (.r [] 3 (.lit (.r [yL 1027, yL 1037] 60496 .nil))))))))))))) ([fV c l ks]) ([.bool true]) ([]) = ((fun (A K : List Int) =>
 (length ks = length ks ∧ okK ks) ∧ length A = length A ∧ length K = length K ∧ (length A = length A ∧ length K = length K ∧ length A < 1000000000000) ∧ length A = length A ∧ 1 = 1 ∧ c = c ∧ l = l ∧
 Cont.ints u8 ks = Cont.ints u8 ks ∧ length ks = length ks ∧ length A = length A ∧ ofA c l ks = ofA c l ks ∧ length K = length K ∧ ofK c ks = ofK c ks ∧ 1 = 1 ∧ length A = length A ∧ length K = length
 K ∧ 0 = 0 ∧ iL [] = [] ∧ 0 = 0 ∧ Cont.ints i64 (bL (isOk A K) (shps A K)) = Cont.ints i64 (bL (isOk A K) (shps A K)) ∧ length (bL (isOk A K) (shps A K)) = length (bL (isOk A K) (shps A K)) ∧ length
 (bL (isOk A K) (shps A K)) = length (bL (isOk A K) (shps A K)) ∧ chk A K = chk A K ∧ (↑(length A) : Int) = (↑(length A) : Int) ∧ 0 = 0 ∧ iI 0 = 0 ∧ (∃ (n : Nat), 0 = (↑n : Int) ∧ n ≤ length A ∧ 0 ≤ n
 ∧ (n = 0 ∨ 4 ≤ length A) ∧ [] = shpL A K n) ∧ ∀ (b : L4), (fun (u0 : Int) => (∃ (n : Nat), b.i = (↑n : Int) ∧ n ≤ length A ∧ length b.l ≤ n ∧ (n = 0 ∨ 4 ≤ length A) ∧ b.l = shpL A K n) → (ltb b.i
 (↑(length A) : Int) = true → (ltb 3 (↑(length A) : Int) = true → inR i64 (b.i - 1) = true ∧ inR i64 (b.i + 1) = true ∧ (((b.i == 0) = true → inR i64 ((↑(length A) : Int) - 1) = true ∧ 1 = 1 ∧ c = c ∧
 l = l ∧ Cont.ints u8 ks = Cont.ints u8 ks ∧ length ks = length ks ∧ length A = length A ∧ ofA c l ks = ofA c l ks ∧ length K = length K ∧ ofK c ks = ofK c ks ∧ 1 = 1 ∧ length A = length A ∧ length K =
 length K ∧ length b.l = length b.l ∧ b.l = b.l ∧ 0 = 0 ∧ Cont.ints i64 (bL (isOk A K) (shps A K)) = Cont.ints i64 (bL (isOk A K) (shps A K)) ∧ length (bL (isOk A K) (shps A K)) = length (bL (isOk A K)
 (shps A K)) ∧ length (bL (isOk A K) (shps A K)) = length (bL (isOk A K) (shps A K)) ∧ chk A K = chk A K ∧ (↑(length A) : Int) = (↑(length A) : Int) ∧ length b.l = length b.l ∧ b.i = b.i ∧ (↑(length A)
 : Int) = (↑(length A) : Int) ∧ ltb 3 (↑(length A) : Int) = ltb 3 (↑(length A) : Int) ∧ (↑(length A) : Int) - 1 = (↑(length A) : Int) - 1 ∧ b.i + 1 = b.i + 1 ∧ (↑(length A) : Int) - 1 = befI (length A)
 b.i ∧ True) ∧ ((b.i == 0) = false → 1 = 1 ∧ c = c ∧ l = l ∧ Cont.ints u8 ks = Cont.ints u8 ks ∧ length ks = length ks ∧ length A = length A ∧ ofA c l ks = ofA c l ks ∧ length K = length K ∧ ofK c ks =
 ofK c ks ∧ 1 = 1 ∧ length A = length A ∧ length K = length K ∧ length b.l = length b.l ∧ b.l = b.l ∧ 0 = 0 ∧ Cont.ints i64 (bL (isOk A K) (shps A K)) = Cont.ints i64 (bL (isOk A K) (shps A K)) ∧
 length (bL (isOk A K) (shps A K)) = length (bL (isOk A K) (shps A K)) ∧ length (bL (isOk A K) (shps A K)) = length (bL (isOk A K) (shps A K)) ∧ chk A K = chk A K ∧ (↑(length A) : Int) = (↑(length A) :
 Int) ∧ length b.l = length b.l ∧ b.i = b.i ∧ (↑(length A) : Int) = (↑(length A) : Int) ∧ ltb 3 (↑(length A) : Int) = ltb 3 (↑(length A) : Int) ∧ b.i - 1 = b.i - 1 ∧ b.i + 1 = b.i + 1 ∧ b.i - 1 = befI
 (length A) b.i ∧ True)) ∧ ∀ (b_1 : VI), b_1.v = befI (length A) b.i → inR i64 ((↑(length A) : Int) - 1) = true ∧ (((b.i == (↑(length A) : Int) - 1) = true → 1 = 1 ∧ c = c ∧ l = l ∧ Cont.ints u8 ks =
 Cont.ints u8 ks ∧ length ks = length ks ∧ length A = length A ∧ ofA c l ks = ofA c l ks ∧ length K = length K ∧ ofK c ks = ofK c ks ∧ 1 = 1 ∧ length A = length A ∧ length K = length K ∧ length b.l =
 length b.l ∧ b.l = b.l ∧ 0 = 0 ∧ Cont.ints i64 (bL (isOk A K) (shps A K)) = Cont.ints i64 (bL (isOk A K) (shps A K)) ∧ length (bL (isOk A K) (shps A K)) = length (bL (isOk A K) (shps A K)) ∧ length
 (bL (isOk A K) (shps A K)) = length (bL (isOk A K) (shps A K)) ∧ chk A K = chk A K ∧ (↑(length A) : Int) = (↑(length A) : Int) ∧ length b.l = length b.l ∧ b.i = b.i ∧ (↑(length A) : Int) = (↑(length
 A) : Int) ∧ ltb 3 (↑(length A) : Int) = ltb 3 (↑(length A) : Int) ∧ b_1.v = b_1.v ∧ iI 0 = 0 ∧ 0 = nexI (length A) b.i ∧ True) ∧ ((b.i == (↑(length A) : Int) - 1) = false → 1 = 1 ∧ c = c ∧ l = l ∧
 Cont.ints u8 ks = Cont.ints u8 ks ∧ length ks = length ks ∧ length A = length A ∧ ofA c l ks = ofA c l ks ∧ length K = length K ∧ ofK c ks = ofK c ks ∧ 1 = 1 ∧ length A = length A ∧ length K = length
 K ∧ length b.l = length b.l ∧ b.l = b.l ∧ 0 = 0 ∧ Cont.ints i64 (bL (isOk A K) (shps A K)) = Cont.ints i64 (bL (isOk A K) (shps A K)) ∧ length (bL (isOk A K) (shps A K)) = length (bL (isOk A K) (shps
 A K)) ∧ length (bL (isOk A K) (shps A K)) = length (bL (isOk A K) (shps A K)) ∧ chk A K = chk A K ∧ (↑(length A) : Int) = (↑(length A) : Int) ∧ length b.l = length b.l ∧ b.i = b.i ∧ (↑(length A) :
 Int) = (↑(length A) : Int) ∧ ltb 3 (↑(length A) : Int) = ltb 3 (↑(length A) : Int) ∧ b_1.v = b_1.v ∧ b.i + 1 = b.i + 1 ∧ b.i + 1 = nexI (length A) b.i ∧ True)) ∧ ∀ (b_2 : VI), b_2.v = nexI (length A)
 b.i → (ltb u0 (getD A (Int.toNat b_1.v) 0) = true → (ltb u0 (getD A (Int.toNat b_2.v) 0) = true → ((getD K (Int.toNat b.i) 0 == getD K (Int.toNat b_2.v) 0) = true → leb 0 b_1.v = true ∧ ltb b_1.v
 (↑(length A) : Int) = true ∧ length A = length A ∧ length A = length A ∧ ltn (Int.toNat b_1.v) (Cont.size (Cont.ints i64 A)) = true ∧ leb 0 b.i = true ∧ ltb b.i (↑(length A) : Int) = true ∧ length A =
 length A ∧ length A = length A ∧ ltn (Int.toNat b.i) (Cont.size (Cont.ints i64 A)) = true ∧ ltb u0 (getD A (Int.toNat b_1.v) 0) = true ∧ ltb u0 (getD A (Int.toNat b_1.v) 0) = true ∧ ltb u0 (getD A
 (Int.toNat b_1.v) 0) = true ∧ ltb u0 (getD A (Int.toNat b_1.v) 0) = true ∧ leb 0 b_2.v = true ∧ ltb b_2.v (↑(length A) : Int) = true ∧ length A = length A ∧ ltb u0 (getD A (Int.toNat b_1.v) 0) = true
 ∧ length A = length A ∧ ltn (Int.toNat b_2.v) (Cont.size (Cont.ints i64 A)) = true ∧ ltb u0 (getD A (Int.toNat b_1.v) 0) = true ∧ ltb u0 (getD A (Int.toNat b_1.v) 0) = true ∧ ltb u0 (getD A (Int.toNat
 b_1.v) 0) = true ∧ ltb u0 (getD A (Int.toNat b_1.v) 0) = true ∧ leb 0 b.i = true ∧ ltb b.i (↑(length A) : Int) = true ∧ length A = length A ∧ ltb u0 (getD A (Int.toNat b_1.v) 0) = true ∧ length A =
 length A ∧ ltn (Int.toNat b.i) (Cont.size (Cont.ints i64 A)) = true ∧ ltb u0 (getD A (Int.toNat b_1.v) 0) = true ∧ ltb u0 (getD A (Int.toNat b_1.v) 0) = true ∧ ltb u0 (getD A (Int.toNat b_2.v) 0) =
 true ∧ ltb u0 (getD A (Int.toNat b_2.v) 0) = true ∧ ltb u0 (getD A (Int.toNat b_2.v) 0) = true ∧ ltb u0 (getD A (Int.toNat b_2.v) 0) = true ∧ leb 0 b.i = true ∧ ltb b.i (↑(length K) : Int) = true ∧
 length K = length K ∧ ltb u0 (getD A (Int.toNat b_2.v) 0) = true ∧ length K = length K ∧ ltn (Int.toNat b.i) (Cont.size (Cont.ints u8 K)) = true ∧ ltb u0 (getD A (Int.toNat b_2.v) 0) = true ∧ ltb u0
 (getD A (Int.toNat b_2.v) 0) = true ∧ ltb u0 (getD A (Int.toNat b_2.v) 0) = true ∧ ltb u0 (getD A (Int.toNat b_2.v) 0) = true ∧ leb 0 b_2.v = true ∧ ltb b_2.v (↑(length K) : Int) = true ∧ length K =
 length K ∧ ltb u0 (getD A (Int.toNat b_2.v) 0) = true ∧ length K = length K ∧ ltn (Int.toNat b_2.v) (Cont.size (Cont.ints u8 K)) = true ∧ ltb u0 (getD A (Int.toNat b_2.v) 0) = true ∧ ltb u0 (getD A
 (Int.toNat b_2.v) 0) = true ∧ (getD K (Int.toNat b.i) 0 == getD K (Int.toNat b_2.v) 0) = true ∧ (getD K (Int.toNat b.i) 0 == getD K (Int.toNat b_2.v) 0) = true ∧ (getD K (Int.toNat b.i) 0 == getD K
 (Int.toNat b_2.v) 0) = true ∧ (getD K (Int.toNat b.i) 0 == getD K (Int.toNat b_2.v) 0) = true ∧ leb 0 b.i = true ∧ ltb b.i (↑(length K) : Int) = true ∧ length K = length K ∧ (getD K (Int.toNat b.i) 0
 == getD K (Int.toNat b_2.v) 0) = true ∧ length K = length K ∧ ltn (Int.toNat b.i) (Cont.size (Cont.ints u8 K)) = true ∧ (getD K (Int.toNat b.i) 0 == getD K (Int.toNat b_2.v) 0) = true ∧ (getD K
 (Int.toNat b.i) 0 == getD K (Int.toNat b_2.v) 0) = true ∧ (ltb (getD K (Int.toNat b.i) 0) 3 = true → length b.l = length b.l ∧ len' ((length b.l + 1) * 8) 140737488355328 = true ∧ inR i64 (b.i + 1) =
 true ∧ 1 = 1 ∧ c = c ∧ l = l ∧ Cont.ints u8 ks = Cont.ints u8 ks ∧ length ks = length ks ∧ length A = length A ∧ ofA c l ks = ofA c l ks ∧ length K = length K ∧ ofK c ks = ofK c ks ∧ 1 = 1 ∧ length A
 = length A ∧ length K = length K ∧ length b.l + 1 = length (b.l ++ [b.i]) ∧ b.l ++ [b.i] = b.l ++ [b.i] ∧ 0 = 0 ∧ Cont.ints i64 (bL (isOk A K) (shps A K)) = Cont.ints i64 (bL (isOk A K) (shps A K)) ∧
 length (bL (isOk A K) (shps A K)) = length (bL (isOk A K) (shps A K)) ∧ length (bL (isOk A K) (shps A K)) = length (bL (isOk A K) (shps A K)) ∧ chk A K = chk A K ∧ (↑(length A) : Int) = (↑(length A) :
 Int) ∧ length b.l + 1 = length (b.l ++ [b.i]) ∧ b.i + 1 = b.i + 1 ∧ (∃ (n : Nat), b.i + 1 = (↑n : Int) ∧ n ≤ length A ∧ length (b.l ++ [b.i]) ≤ n ∧ (n = 0 ∨ 4 ≤ length A) ∧ b.l ++ [b.i] = shpL A K n)
 ∧ length A - Int.toNat (b.i + 1) < length A - Int.toNat b.i ∧ True) ∧ (ltb (getD K (Int.toNat b.i) 0) 3 = false → inR i64 (b.i + 1) = true ∧ 1 = 1 ∧ c = c ∧ l = l ∧ Cont.ints u8 ks = Cont.ints u8 ks ∧
 length ks = length ks ∧ length A = length A ∧ ofA c l ks = ofA c l ks ∧ length K = length K ∧ ofK c ks = ofK c ks ∧ 1 = 1 ∧ length A = length A ∧ length K = length K ∧ length b.l = length b.l ∧ b.l =
 b.l ∧ 0 = 0 ∧ Cont.ints i64 (bL (isOk A K) (shps A K)) = Cont.ints i64 (bL (isOk A K) (shps A K)) ∧ length (bL (isOk A K) (shps A K)) = length (bL (isOk A K) (shps A K)) ∧ length (bL (isOk A K) (shps
 A K)) = length (bL (isOk A K) (shps A K)) ∧ chk A K = chk A K ∧ (↑(length A) : Int) = (↑(length A) : Int) ∧ length b.l = length b.l ∧ b.i + 1 = b.i + 1 ∧ (∃ (n : Nat), b.i + 1 = (↑n : Int) ∧ n ≤
 length A ∧ length b.l ≤ n ∧ (n = 0 ∨ 4 ≤ length A) ∧ b.l = shpL A K n) ∧ length A - Int.toNat (b.i + 1) < length A - Int.toNat b.i ∧ True)) ∧ ((getD K (Int.toNat b.i) 0 == getD K (Int.toNat b_2.v) 0)
 = false → leb 0 b_1.v = true ∧ ltb b_1.v (↑(length A) : Int) = true ∧ length A = length A ∧ length A = length A ∧ ltn (Int.toNat b_1.v) (Cont.size (Cont.ints i64 A)) = true ∧ leb 0 b.i = true ∧ ltb
 b.i (↑(length A) : Int) = true ∧ length A = length A ∧ length A = length A ∧ ltn (Int.toNat b.i) (Cont.size (Cont.ints i64 A)) = true ∧ ltb u0 (getD A (Int.toNat b_1.v) 0) = true ∧ ltb u0 (getD A
 (Int.toNat b_1.v) 0) = true ∧ ltb u0 (getD A (Int.toNat b_1.v) 0) = true ∧ ltb u0 (getD A (Int.toNat b_1.v) 0) = true ∧ leb 0 b_2.v = true ∧ ltb b_2.v (↑(length A) : Int) = true ∧ length A = length A
 ∧ ltb u0 (getD A (Int.toNat b_1.v) 0) = true ∧ length A = length A ∧ ltn (Int.toNat b_2.v) (Cont.size (Cont.ints i64 A)) = true ∧ ltb u0 (getD A (Int.toNat b_1.v) 0) = true ∧ ltb u0 (getD A (Int.toNat
 b_1.v) 0) = true ∧ ltb u0 (getD A (Int.toNat b_1.v) 0) = true ∧ ltb u0 (getD A (Int.toNat b_1.v) 0) = true ∧ leb 0 b.i = true ∧ ltb b.i (↑(length A) : Int) = true ∧ length A = length A ∧ ltb u0 (getD
 A (Int.toNat b_1.v) 0) = true ∧ length A = length A ∧ ltn (Int.toNat b.i) (Cont.size (Cont.ints i64 A)) = true ∧ ltb u0 (getD A (Int.toNat b_1.v) 0) = true ∧ ltb u0 (getD A (Int.toNat b_1.v) 0) = true
 ∧ ltb u0 (getD A (Int.toNat b_2.v) 0) = true ∧ ltb u0 (getD A (Int.toNat b_2.v) 0) = true ∧ ltb u0 (getD A (Int.toNat b_2.v) 0) = true ∧ ltb u0 (getD A (Int.toNat b_2.v) 0) = true ∧ leb 0 b.i = true ∧
 ltb b.i (↑(length K) : Int) = true ∧ length K = length K ∧ ltb u0 (getD A (Int.toNat b_2.v) 0) = true ∧ length K = length K ∧ ltn (Int.toNat b.i) (Cont.size (Cont.ints u8 K)) = true ∧ ltb u0 (getD A
 (Int.toNat b_2.v) 0) = true ∧ ltb u0 (getD A (Int.toNat b_2.v) 0) = true ∧ ltb u0 (getD A (Int.toNat b_2.v) 0) = true ∧ ltb u0 (getD A (Int.toNat b_2.v) 0) = true ∧ leb 0 b_2.v = true ∧ ltb b_2.v
 (↑(length K) : Int) = true ∧ length K = length K ∧ ltb u0 (getD A (Int.toNat b_2.v) 0) = true ∧ length K = length K ∧ ltn (Int.toNat b_2.v) (Cont.size (Cont.ints u8 K)) = true ∧ ltb u0 (getD A
 (Int.toNat b_2.v) 0) = true ∧ ltb u0 (getD A (Int.toNat b_2.v) 0) = true ∧ (!getD K (Int.toNat b.i) 0 == getD K (Int.toNat b_2.v) 0) = true ∧ (!getD K (Int.toNat b.i) 0 == getD K (Int.toNat b_2.v) 0)
 = true ∧ (!getD K (Int.toNat b.i) 0 == getD K (Int.toNat b_2.v) 0) = true ∧ (!getD K (Int.toNat b.i) 0 == getD K (Int.toNat b_2.v) 0) = true ∧ (!getD K (Int.toNat b.i) 0 == getD K (Int.toNat b_2.v) 0)
 = true ∧ (!getD K (Int.toNat b.i) 0 == getD K (Int.toNat b_2.v) 0) = true ∧ (!getD K (Int.toNat b.i) 0 == getD K (Int.toNat b_2.v) 0) = true ∧ inR i64 (b.i + 1) = true ∧ 1 = 1 ∧ c = c ∧ l = l ∧
 Cont.ints u8 ks = Cont.ints u8 ks ∧ length ks = length ks ∧ length A = length A ∧ ofA c l ks = ofA c l ks ∧ length K = length K ∧ ofK c ks = ofK c ks ∧ 1 = 1 ∧ length A = length A ∧ length K = length
 K ∧ length b.l = length b.l ∧ b.l = b.l ∧ 0 = 0 ∧ Cont.ints i64 (bL (isOk A K) (shps A K)) = Cont.ints i64 (bL (isOk A K) (shps A K)) ∧ length (bL (isOk A K) (shps A K)) = length (bL (isOk A K) (shps
 A K)) ∧ length (bL (isOk A K) (shps A K)) = length (bL (isOk A K) (shps A K)) ∧ chk A K = chk A K ∧ (↑(length A) : Int) = (↑(length A) : Int) ∧ length b.l = length b.l ∧ b.i + 1 = b.i + 1 ∧ (∃ (n :
 Nat), b.i + 1 = (↑n : Int) ∧ n ≤ length A ∧ length b.l ≤ n ∧ (n = 0 ∨ 4 ≤ length A) ∧ b.l = shpL A K n) ∧ length A - Int.toNat (b.i + 1) < length A - Int.toNat b.i ∧ True)) ∧ (ltb u0 (getD A
 (Int.toNat b_2.v) 0) = false → leb 0 b_1.v = true ∧ ltb b_1.v (↑(length A) : Int) = true ∧ length A = length A ∧ length A = length A ∧ ltn (Int.toNat b_1.v) (Cont.size (Cont.ints i64 A)) = true ∧ leb
 0 b.i = true ∧ ltb b.i (↑(length A) : Int) = true ∧ length A = length A ∧ length A = length A ∧ ltn (Int.toNat b.i) (Cont.size (Cont.ints i64 A)) = true ∧ ltb u0 (getD A (Int.toNat b_1.v) 0) = true ∧
 ltb u0 (getD A (Int.toNat b_1.v) 0) = true ∧ ltb u0 (getD A (Int.toNat b_1.v) 0) = true ∧ ltb u0 (getD A (Int.toNat b_1.v) 0) = true ∧ leb 0 b_2.v = true ∧ ltb b_2.v (↑(length A) : Int) = true ∧
 length A = length A ∧ ltb u0 (getD A (Int.toNat b_1.v) 0) = true ∧ length A = length A ∧ ltn (Int.toNat b_2.v) (Cont.size (Cont.ints i64 A)) = true ∧ ltb u0 (getD A (Int.toNat b_1.v) 0) = true ∧ ltb
 u0 (getD A (Int.toNat b_1.v) 0) = true ∧ ltb u0 (getD A (Int.toNat b_1.v) 0) = true ∧ ltb u0 (getD A (Int.toNat b_1.v) 0) = true ∧ leb 0 b.i = true ∧ ltb b.i (↑(length A) : Int) = true ∧ length A =
 length A ∧ ltb u0 (getD A (Int.toNat b_1.v) 0) = true ∧ length A = length A ∧ ltn (Int.toNat b.i) (Cont.size (Cont.ints i64 A)) = true ∧ ltb u0 (getD A (Int.toNat b_1.v) 0) = true ∧ ltb u0 (getD A
 (Int.toNat b_1.v) 0) = true ∧ (!ltb u0 (getD A (Int.toNat b_2.v) 0)) = true ∧ (!ltb u0 (getD A (Int.toNat b_2.v) 0)) = true ∧ (!ltb u0 (getD A (Int.toNat b_2.v) 0)) = true ∧ (!ltb u0 (getD A
 (Int.toNat b_2.v) 0)) = true ∧ (!ltb u0 (getD A (Int.toNat b_2.v) 0)) = true ∧ (!ltb u0 (getD A (Int.toNat b_2.v) 0)) = true ∧ (!ltb u0 (getD A (Int.toNat b_2.v) 0)) = true ∧ (!ltb u0 (getD A
 (Int.toNat b_2.v) 0)) = true ∧ (!ltb u0 (getD A (Int.toNat b_2.v) 0)) = true ∧ (!ltb u0 (getD A (Int.toNat b_2.v) 0)) = true ∧ (!ltb u0 (getD A (Int.toNat b_2.v) 0)) = true ∧ (!ltb u0 (getD A
 (Int.toNat b_2.v) 0)) = true ∧ inR i64 (b.i + 1) = true ∧ 1 = 1 ∧ c = c ∧ l = l ∧ Cont.ints u8 ks = Cont.ints u8 ks ∧ length ks = length ks ∧ length A = length A ∧ ofA c l ks = ofA c l ks ∧ length K =
 length K ∧ ofK c ks = ofK c ks ∧ 1 = 1 ∧ length A = length A ∧ length K = length K ∧ length b.l = length b.l ∧ b.l = b.l ∧ 0 = 0 ∧ Cont.ints i64 (bL (isOk A K) (shps A K)) = Cont.ints i64 (bL (isOk A
 K) (shps A K)) ∧ length (bL (isOk A K) (shps A K)) = length (bL (isOk A K) (shps A K)) ∧ length (bL (isOk A K) (shps A K)) = length (bL (isOk A K) (shps A K)) ∧ chk A K = chk A K ∧ (↑(length A) : Int)
 = (↑(length A) : Int) ∧ length b.l = length b.l ∧ b.i + 1 = b.i + 1 ∧ (∃ (n : Nat), b.i + 1 = (↑n : Int) ∧ n ≤ length A ∧ length b.l ≤ n ∧ (n = 0 ∨ 4 ≤ length A) ∧ b.l = shpL A K n) ∧ length A -
 Int.toNat (b.i + 1) < length A - Int.toNat b.i ∧ True)) ∧ (ltb u0 (getD A (Int.toNat b_1.v) 0) = false → leb 0 b_1.v = true ∧ ltb b_1.v (↑(length A) : Int) = true ∧ length A = length A ∧ length A =
 length A ∧ ltn (Int.toNat b_1.v) (Cont.size (Cont.ints i64 A)) = true ∧ leb 0 b.i = true ∧ ltb b.i (↑(length A) : Int) = true ∧ length A = length A ∧ length A = length A ∧ ltn (Int.toNat b.i)
 (Cont.size (Cont.ints i64 A)) = true ∧ (!ltb u0 (getD A (Int.toNat b_1.v) 0)) = true ∧ (!ltb u0 (getD A (Int.toNat b_1.v) 0)) = true ∧ (!ltb u0 (getD A (Int.toNat b_1.v) 0)) = true ∧ (!ltb u0 (getD A
 (Int.toNat b_1.v) 0)) = true ∧ (!ltb u0 (getD A (Int.toNat b_1.v) 0)) = true ∧ (!ltb u0 (getD A (Int.toNat b_1.v) 0)) = true ∧ (!ltb u0 (getD A (Int.toNat b_1.v) 0)) = true ∧ (!ltb u0 (getD A
 (Int.toNat b_1.v) 0)) = true ∧ (!ltb u0 (getD A (Int.toNat b_1.v) 0)) = true ∧ (!ltb u0 (getD A (Int.toNat b_1.v) 0)) = true ∧ (!ltb u0 (getD A (Int.toNat b_1.v) 0)) = true ∧ (!ltb u0 (getD A
 (Int.toNat b_1.v) 0)) = true ∧ inR i64 (b.i + 1) = true ∧ 1 = 1 ∧ c = c ∧ l = l ∧ Cont.ints u8 ks = Cont.ints u8 ks ∧ length ks = length ks ∧ length A = length A ∧ ofA c l ks = ofA c l ks ∧ length K =
 length K ∧ ofK c ks = ofK c ks ∧ 1 = 1 ∧ length A = length A ∧ length K = length K ∧ length b.l = length b.l ∧ b.l = b.l ∧ 0 = 0 ∧ Cont.ints i64 (bL (isOk A K) (shps A K)) = Cont.ints i64 (bL (isOk A
 K) (shps A K)) ∧ length (bL (isOk A K) (shps A K)) = length (bL (isOk A K) (shps A K)) ∧ length (bL (isOk A K) (shps A K)) = length (bL (isOk A K) (shps A K)) ∧ chk A K = chk A K ∧ (↑(length A) : Int)
 = (↑(length A) : Int) ∧ length b.l = length b.l ∧ b.i + 1 = b.i + 1 ∧ (∃ (n : Nat), b.i + 1 = (↑n : Int) ∧ n ≤ length A ∧ length b.l ≤ n ∧ (n = 0 ∨ 4 ≤ length A) ∧ b.l = shpL A K n) ∧ length A -
 Int.toNat (b.i + 1) < length A - Int.toNat b.i ∧ True)) ∧ (ltb 3 (↑(length A) : Int) = false → (chk A K == 0) = true ∧ length b.l = length b.l ∧ length b.l = length b.l ∧ length b.l = length b.l ∧
 Int.toNat (↑(length b.l) : Int) = length b.l ∧ Int.toNat (↑(length b.l) : Int) = length b.l ∧ Cont.size (Cont.ints i64 b.l) = length b.l ∧ (length (bL (isOk A K) (shps A K)) = length (bL (isOk A K)
 (shps A K)) ∧ length (bL (isOk A K) (shps A K)) = length (bL (isOk A K) (shps A K)) ∧ length b.l = length b.l ∧ length (bL (isOk A K) (shps A K)) < 1000000000000) ∧ eqL (bL (isOk A K) (shps A K)) b.l
 = true ∧ true = true ∧ True)) ∧ (ltb b.i (↑(length A) : Int) = false → (chk A K == 0) = true ∧ length b.l = length b.l ∧ length b.l = length b.l ∧ length b.l = length b.l ∧ Int.toNat (↑(length b.l) :
 Int) = length b.l ∧ Int.toNat (↑(length b.l) : Int) = length b.l ∧ Cont.size (Cont.ints i64 b.l) = length b.l ∧ (length (bL (isOk A K) (shps A K)) = length (bL (isOk A K) (shps A K)) ∧ length (bL
 (isOk A K) (shps A K)) = length (bL (isOk A K) (shps A K)) ∧ length b.l = length b.l ∧ length (bL (isOk A K) (shps A K)) < 1000000000000) ∧ eqL (bL (isOk A K) (shps A K)) b.l = true ∧ true = true ∧
 True)) (getD A (Int.toNat b.i) 0)) (ofA c l ks) (ofK c ks)) := by kernel_rfl

end Go.Proofs.YtidpllnmghgomaaDoor.X
