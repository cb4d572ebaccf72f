/-
  What is to be shown of the functions (made by a program).
-/
import Derived.Test.YtidpllnmghgomaaDoorD5Z
import Derived.KernelRfl
set_option maxRecDepth 1000000
set_option linter.unusedVariables false
namespace Go.Proofs.YtidpllnmghgomaaDoor.X
open Go Go.Ab

theorem ob_o27 (a k : List Int) : fnP (T6a) G 10000 fe27 (.r [] 0 (.r [] 0 .nil)) ([.fn 38 [] [.iptr (fanC a k)]]) ([.imm (.ints .i64 (shps a k)) (shps a k).length none]) ([]) = (
(List.length a = List.length a ∧ List.length k = List.length k ∧ List.length a = List.length k ∧ List.length a < 1000000000000) ∧ Cont.ints IntKind.i64 (shps a k) = Cont.ints IntKind.i64 (shps a k) ∧
List.length (shps a k) = List.length (shps a k) ∧ True) := by kernel_rfl

theorem ob_o15 (a k : List Int) : fnP (T6) G 10000 fe15 (.r [] 0 (.r [] 1 (.r [] 0 (.ff (.r [] 1 .nil))))) ([fanV a k]) ([.imm (.ints .i64 (shps a k)) (shps a k).length (some (shps a k).length), .int .i64 0]) ([]) = (
(List.length a = List.length a ∧ List.length k = List.length k ∧ List.length a < 1000000000000) ∧ (chk a k != 0) = false ∧ (List.length a = List.length a ∧ List.length k = List.length k) ∧
(List.length a = List.length a ∧ List.length k = List.length k ∧ List.length a = List.length k ∧ List.length a < 1000000000000) ∧ List.length (shps a k) = List.length (shps a k) ∧ Cont.ints
IntKind.i64 (shps a k) = Cont.ints IntKind.i64 (shps a k) ∧ List.length (shps a k) = List.length (shps a k) ∧ List.length (shps a k) = List.length (shps a k) ∧ iI 0 = 0 ∧ True) := by kernel_rfl

theorem ob_o15n (a k : List Int) : fnP (T6) G 10000 fe15 (.r [] 0 (.r [] 1 (.r [] 0 (.tt (.r [] 0 .nil))))) ([fanV a k]) ([.nils, .int .i64 (chk a k)]) ([]) = (
(List.length a = List.length a ∧ List.length k = List.length k ∧ List.length a < 1000000000000) ∧ (chk a k != 0) = true ∧ chk a k = chk a k ∧ True) := by kernel_rfl

theorem ob_o13 (a b : List Int) : fnP (T0) G 10000 fe13 (.r [] 0 (.rs 6 [] 0 11 (.r [] 3 (.lit (.r [] 0 .nil))) (.r [] 3 (.cnd (.r [] 0 .nil) (.r [] 0 (.lp (l13 a b) [] [] (fun b_1 => (.r [] 0 (.cnd (.cnd (.r [] 0 .nil) (.r [] 0 .nil)) (.r [] 0 .nil)))))))))) ([.imm (.ints .i64 a) a.length (some a.length), .imm (.ints .i64 b) b.length none]) ([.bool (eqL a b)]) ([]) = (
(((↑(List.length a) : Int) != (↑(List.length b) : Int)) = true → false = eqL a b ∧ True) ∧ (((↑(List.length a) : Int) != (↑(List.length b) : Int)) = false → (((↑(List.length a) : Int) !=
(↑(List.length a) : Int)) = true → false = eqL a b ∧ True) ∧ (((↑(List.length a) : Int) != (↑(List.length a) : Int)) = false → Cont.ints IntKind.i64 a = Cont.ints IntKind.i64 a ∧ List.length a =
List.length a ∧ List.length a = List.length a ∧ Cont.ints IntKind.i64 b = Cont.ints IntKind.i64 b ∧ List.length b = List.length b ∧ iI 0 = 0 ∧ (∃ (n : Nat), 0 = (↑n : Int) ∧ n ≤ List.length a ∧
List.length a = List.length b ∧ List.take n a = List.take n b) ∧ ∀ (b_1 : L13), (∃ (n : Nat), b_1.i = (↑n : Int) ∧ n ≤ List.length a ∧ List.length a = List.length b ∧ List.take n a = List.take n b) →
(ltb b_1.i (↑(List.length a) : Int) = true → leb 0 b_1.i = true ∧ ltb b_1.i (↑(List.length a) : Int) = true ∧ ltn 0 (Cont.size (Cont.ints IntKind.i64 a)) = true ∧ ltn 0 (Cont.size (Cont.ints
IntKind.i64 (List.drop (Int.toNat b_1.i) a))) = true ∧ leb 0 b_1.i = true ∧ ltb b_1.i (↑(List.length b) : Int) = true ∧ ltn 0 (Cont.size (Cont.ints IntKind.i64 b)) = true ∧ ltn 0 (Cont.size (Cont.ints
IntKind.i64 (List.drop (Int.toNat b_1.i) b))) = true ∧ ((List.getD (List.drop (Int.toNat b_1.i) a) 0 0 != List.getD (List.drop (Int.toNat b_1.i) b) 0 0) = true → false = eqL a b ∧ True) ∧ ((List.getD
(List.drop (Int.toNat b_1.i) a) 0 0 != List.getD (List.drop (Int.toNat b_1.i) b) 0 0) = false → inR IntKind.i64 (b_1.i + 1) = true ∧ Cont.ints IntKind.i64 a = Cont.ints IntKind.i64 a ∧ List.length a =
List.length a ∧ List.length a = List.length a ∧ Cont.ints IntKind.i64 b = Cont.ints IntKind.i64 b ∧ List.length b = List.length b ∧ b_1.i + 1 = b_1.i + 1 ∧ (∃ (n : Nat), b_1.i + 1 = (↑n : Int) ∧ n ≤
List.length a ∧ List.length a = List.length b ∧ List.take n a = List.take n b) ∧ List.length a - Int.toNat (b_1.i + 1) < List.length a - Int.toNat b_1.i ∧ True)) ∧ (ltb b_1.i (↑(List.length a) : Int)
= false → true = eqL a b ∧ True)))) := by kernel_rfl

theorem ob_o4 (c l : Int) (ks : List Int) : fnP (T7) G 10000 fe4 (.r [] 0 (.r [] 5 (.r [] 49 (.r [] 1 (.r [] 0 (.r [] 0 (.gho 7 9001 1 (Cont.ints IntKind.i64 []) (.lp (l4 (ofA c l ks) (ofK c ks)) [] [] (fun b => (.rs 4 [] 0 24 (.r [] 3 (.cnd (.r [] 0 (.r [] 0 (.jn (jI 9 IntKind.i64 (befI (List.length (ofA c l ks)) b.i)) [35] [] (.cnd (.r [] 0 .nil) .nil) (fun b_1 => (.r [] 0 (.jn (jI 10 IntKind.i64 (nexI (List.length (ofA c l ks)) b.i)) [41] [] (.cnd (.r [] 0 .nil) .nil) (fun b_2 => (.br (ltb (List.getD (ofA c l ks) (Int.toNat b.i) 0) (List.getD (ofA c l ks) (Int.toNat b_1.v) 0)) (.br (ltb (List.getD (ofA c l ks) (Int.toNat b.i) 0) (List.getD (ofA c l ks) (Int.toNat b_2.v) 0)) (.br (List.getD (ofK c ks) (Int.toNat b.i) 0 == List.getD (ofK c ks) (Int.toNat b_2.v) 0) (.r [yO 908, yO 909, yO 910, yO 911, yO 912, yO 913, yO 914, yO 915, yO 916, yO 917, yO 918, (919, .auto, Dr.pk true), yO 921, yO 922, yO 923, yO 924, yO 925, yO 926, yO 927, yO 928, yO 929, yO 930, yO 931, (932, .auto, Dr.pk true), yO 934, yO 935, yO 936, yO 937, yO 938, yO 939, (940, .auto, Dr.pk true)] 377874637073983681347649 (.cnd (.r [] 4 (.r [] 0 .nil)) (.r [] 0 .nil))) (.r [yO 908, yO 909, yO 910, yO 911, yO 912, yO 913, yO 914, yO 915, yO 916, yO 917, yO 918, (919, .auto, Dr.pk true), yO 921, yO 922, yO 923, yO 924, yO 925, yO 926, yO 927, yO 928, yO 929, yO 930, yO 931, (932, .auto, Dr.pk true), (934, .off, Dr.plain), (935, .off, Dr.plain), (936, .off, Dr.plain), (937, .off, Dr.plain), (938, .off, Dr.plain), (939, .off, Dr.plain), (940, .auto, Dr.pk false)] 5914489571704282562625 (.lit (.r [] 0 .nil)))) (.r [yO 908, yO 909, yO 910, yO 911, yO 912, yO 913, yO 914, yO 915, yO 916, yO 917, yO 918, (919, .auto, Dr.pk true), (921, .off, Dr.plain), (922, .off, Dr.plain), (923, .off, Dr.plain), (924, .off, Dr.plain), (925, .off, Dr.plain), (926, .off, Dr.plain), (927, .off, Dr.plain), (928, .off, Dr.plain), (929, .off, Dr.plain), (930, .off, Dr.plain), (931, .off, Dr.plain), (932, .auto, Dr.pk false)] 16325720481480769 (.lit (.r [] 0 .nil)))) (.r [(908, .off, Dr.plain), (909, .off, Dr.plain), (910, .off, Dr.plain), (911, .off, Dr.plain), (912, .off, Dr.plain), (913, .off, Dr.plain), (914, .off, Dr.plain), (915, .off, Dr.plain), (916, .off, Dr.plain), (917, .off, Dr.plain), (918, .off, Dr.plain), (919, .auto, Dr.pk false)] 1048576065 (.lit (.r [] 0 .nil))))))))))) (.r [yL 1027, yL 1037] 60496 .nil))) (.r [] 3 (.lit (.r [yL 1027, yL 1037] 60496 .nil))))))))))))) ([fV c l ks]) ([.bool true]) ([]) = (
(List.length ks = List.length ks ∧ okK ks) ∧ List.length (ofA c l ks) = List.length (ofA c l ks) ∧ List.length (ofK c ks) = List.length (ofK c ks) ∧ (List.length (ofA c l ks) = List.length (ofA c l
ks) ∧ List.length (ofK c ks) = List.length (ofK c ks) ∧ List.length (ofA c l ks) < 1000000000000) ∧ List.length (ofA c l ks) = List.length (ofA c l ks) ∧ 1 = 1 ∧ c = c ∧ l = l ∧ Cont.ints IntKind.u8
ks = Cont.ints IntKind.u8 ks ∧ List.length ks = List.length ks ∧ List.length (ofA c l ks) = List.length (ofA c l ks) ∧ ofA c l ks = ofA c l ks ∧ List.length (ofK c ks) = List.length (ofK c ks) ∧ ofK c
ks = ofK c ks ∧ 1 = 1 ∧ List.length (ofA c l ks) = List.length (ofA c l ks) ∧ List.length (ofK c ks) = List.length (ofK c ks) ∧ 0 = 0 ∧ iL [] = [] ∧ 0 = 0 ∧ Cont.ints IntKind.i64 (bL (isOk (ofA c l
ks) (ofK c ks)) (shps (ofA c l ks) (ofK c ks))) = Cont.ints IntKind.i64 (bL (isOk (ofA c l ks) (ofK c ks)) (shps (ofA c l ks) (ofK c ks))) ∧ List.length (bL (isOk (ofA c l ks) (ofK c ks)) (shps (ofA c
l ks) (ofK c ks))) = List.length (bL (isOk (ofA c l ks) (ofK c ks)) (shps (ofA c l ks) (ofK c ks))) ∧ List.length (bL (isOk (ofA c l ks) (ofK c ks)) (shps (ofA c l ks) (ofK c ks))) = List.length (bL
(isOk (ofA c l ks) (ofK c ks)) (shps (ofA c l ks) (ofK c ks))) ∧ chk (ofA c l ks) (ofK c ks) = chk (ofA c l ks) (ofK c ks) ∧ (↑(List.length (ofA c l ks)) : Int) = (↑(List.length (ofA c l ks)) : Int) ∧
0 = 0 ∧ iI 0 = 0 ∧ (∃ (n : Nat), 0 = (↑n : Int) ∧ n ≤ List.length (ofA c l ks) ∧ 0 ≤ n ∧ (n = 0 ∨ 4 ≤ List.length (ofA c l ks)) ∧ [] = shpL (ofA c l ks) (ofK c ks) n) ∧ ∀ (b : L4), (∃ (n : Nat), b.i =
(↑n : Int) ∧ n ≤ List.length (ofA c l ks) ∧ List.length b.l ≤ n ∧ (n = 0 ∨ 4 ≤ List.length (ofA c l ks)) ∧ b.l = shpL (ofA c l ks) (ofK c ks) n) → (ltb b.i (↑(List.length (ofA c l ks)) : Int) = true →
(ltb 3 (↑(List.length (ofA c l ks)) : Int) = true → inR IntKind.i64 (b.i - 1) = true ∧ inR IntKind.i64 (b.i + 1) = true ∧ (((b.i == 0) = true → inR IntKind.i64 ((↑(List.length (ofA c l ks)) : Int) -
1) = true ∧ 1 = 1 ∧ c = c ∧ l = l ∧ Cont.ints IntKind.u8 ks = Cont.ints IntKind.u8 ks ∧ List.length ks = List.length ks ∧ List.length (ofA c l ks) = List.length (ofA c l ks) ∧ ofA c l ks = ofA c l ks
∧ List.length (ofK c ks) = List.length (ofK c ks) ∧ ofK c ks = ofK c ks ∧ 1 = 1 ∧ List.length (ofA c l ks) = List.length (ofA c l ks) ∧ List.length (ofK c ks) = List.length (ofK c ks) ∧ List.length
b.l = List.length b.l ∧ b.l = b.l ∧ 0 = 0 ∧ Cont.ints IntKind.i64 (bL (isOk (ofA c l ks) (ofK c ks)) (shps (ofA c l ks) (ofK c ks))) = Cont.ints IntKind.i64 (bL (isOk (ofA c l ks) (ofK c ks)) (shps
(ofA c l ks) (ofK c ks))) ∧ List.length (bL (isOk (ofA c l ks) (ofK c ks)) (shps (ofA c l ks) (ofK c ks))) = List.length (bL (isOk (ofA c l ks) (ofK c ks)) (shps (ofA c l ks) (ofK c ks))) ∧
List.length (bL (isOk (ofA c l ks) (ofK c ks)) (shps (ofA c l ks) (ofK c ks))) = List.length (bL (isOk (ofA c l ks) (ofK c ks)) (shps (ofA c l ks) (ofK c ks))) ∧ chk (ofA c l ks) (ofK c ks) = chk (ofA
c l ks) (ofK c ks) ∧ (↑(List.length (ofA c l ks)) : Int) = (↑(List.length (ofA c l ks)) : Int) ∧ List.length b.l = List.length b.l ∧ b.i = b.i ∧ (↑(List.length (ofA c l ks)) : Int) = (↑(List.length
(ofA c l ks)) : Int) ∧ ltb 3 (↑(List.length (ofA c l ks)) : Int) = ltb 3 (↑(List.length (ofA c l ks)) : Int) ∧ (↑(List.length (ofA c l ks)) : Int) - 1 = (↑(List.length (ofA c l ks)) : Int) - 1 ∧ b.i +
1 = b.i + 1 ∧ (↑(List.length (ofA c l ks)) : Int) - 1 = befI (List.length (ofA c l ks)) b.i ∧ True) ∧ ((b.i == 0) = false → 1 = 1 ∧ c = c ∧ l = l ∧ Cont.ints IntKind.u8 ks = Cont.ints IntKind.u8 ks ∧
List.length ks = List.length ks ∧ List.length (ofA c l ks) = List.length (ofA c l ks) ∧ ofA c l ks = ofA c l ks ∧ List.length (ofK c ks) = List.length (ofK c ks) ∧ ofK c ks = ofK c ks ∧ 1 = 1 ∧
List.length (ofA c l ks) = List.length (ofA c l ks) ∧ List.length (ofK c ks) = List.length (ofK c ks) ∧ List.length b.l = List.length b.l ∧ b.l = b.l ∧ 0 = 0 ∧ Cont.ints IntKind.i64 (bL (isOk (ofA c l
ks) (ofK c ks)) (shps (ofA c l ks) (ofK c ks))) = Cont.ints IntKind.i64 (bL (isOk (ofA c l ks) (ofK c ks)) (shps (ofA c l ks) (ofK c ks))) ∧ List.length (bL (isOk (ofA c l ks) (ofK c ks)) (shps (ofA c
l ks) (ofK c ks))) = List.length (bL (isOk (ofA c l ks) (ofK c ks)) (shps (ofA c l ks) (ofK c ks))) ∧ List.length (bL (isOk (ofA c l ks) (ofK c ks)) (shps (ofA c l ks) (ofK c ks))) = List.length (bL
(isOk (ofA c l ks) (ofK c ks)) (shps (ofA c l ks) (ofK c ks))) ∧ chk (ofA c l ks) (ofK c ks) = chk (ofA c l ks) (ofK c ks) ∧ (↑(List.length (ofA c l ks)) : Int) = (↑(List.length (ofA c l ks)) : Int) ∧
List.length b.l = List.length b.l ∧ b.i = b.i ∧ (↑(List.length (ofA c l ks)) : Int) = (↑(List.length (ofA c l ks)) : Int) ∧ ltb 3 (↑(List.length (ofA c l ks)) : Int) = ltb 3 (↑(List.length (ofA c l
ks)) : Int) ∧ b.i - 1 = b.i - 1 ∧ b.i + 1 = b.i + 1 ∧ b.i - 1 = befI (List.length (ofA c l ks)) b.i ∧ True)) ∧ ∀ (b_1 : VI), b_1.v = befI (List.length (ofA c l ks)) b.i → inR IntKind.i64
((↑(List.length (ofA c l ks)) : Int) - 1) = true ∧ (((b.i == (↑(List.length (ofA c l ks)) : Int) - 1) = true → 1 = 1 ∧ c = c ∧ l = l ∧ Cont.ints IntKind.u8 ks = Cont.ints IntKind.u8 ks ∧ List.length
ks = List.length ks ∧ List.length (ofA c l ks) = List.length (ofA c l ks) ∧ ofA c l ks = ofA c l ks ∧ List.length (ofK c ks) = List.length (ofK c ks) ∧ ofK c ks = ofK c ks ∧ 1 = 1 ∧ List.length (ofA c
l ks) = List.length (ofA c l ks) ∧ List.length (ofK c ks) = List.length (ofK c ks) ∧ List.length b.l = List.length b.l ∧ b.l = b.l ∧ 0 = 0 ∧ Cont.ints IntKind.i64 (bL (isOk (ofA c l ks) (ofK c ks))
(shps (ofA c l ks) (ofK c ks))) = Cont.ints IntKind.i64 (bL (isOk (ofA c l ks) (ofK c ks)) (shps (ofA c l ks) (ofK c ks))) ∧ List.length (bL (isOk (ofA c l ks) (ofK c ks)) (shps (ofA c l ks) (ofK c
ks))) = List.length (bL (isOk (ofA c l ks) (ofK c ks)) (shps (ofA c l ks) (ofK c ks))) ∧ List.length (bL (isOk (ofA c l ks) (ofK c ks)) (shps (ofA c l ks) (ofK c ks))) = List.length (bL (isOk (ofA c l
ks) (ofK c ks)) (shps (ofA c l ks) (ofK c ks))) ∧ chk (ofA c l ks) (ofK c ks) = chk (ofA c l ks) (ofK c ks) ∧ (↑(List.length (ofA c l ks)) : Int) = (↑(List.length (ofA c l ks)) : Int) ∧ List.length
b.l = List.length b.l ∧ b.i = b.i ∧ (↑(List.length (ofA c l ks)) : Int) = (↑(List.length (ofA c l ks)) : Int) ∧ ltb 3 (↑(List.length (ofA c l ks)) : Int) = ltb 3 (↑(List.length (ofA c l ks)) : Int) ∧
b_1.v = b_1.v ∧ iI 0 = 0 ∧ 0 = nexI (List.length (ofA c l ks)) b.i ∧ True) ∧ ((b.i == (↑(List.length (ofA c l ks)) : Int) - 1) = false → 1 = 1 ∧ c = c ∧ l = l ∧ Cont.ints IntKind.u8 ks = Cont.ints
IntKind.u8 ks ∧ List.length ks = List.length ks ∧ List.length (ofA c l ks) = List.length (ofA c l ks) ∧ ofA c l ks = ofA c l ks ∧ List.length (ofK c ks) = List.length (ofK c ks) ∧ ofK c ks = ofK c ks
∧ 1 = 1 ∧ List.length (ofA c l ks) = List.length (ofA c l ks) ∧ List.length (ofK c ks) = List.length (ofK c ks) ∧ List.length b.l = List.length b.l ∧ b.l = b.l ∧ 0 = 0 ∧ Cont.ints IntKind.i64 (bL
(isOk (ofA c l ks) (ofK c ks)) (shps (ofA c l ks) (ofK c ks))) = Cont.ints IntKind.i64 (bL (isOk (ofA c l ks) (ofK c ks)) (shps (ofA c l ks) (ofK c ks))) ∧ List.length (bL (isOk (ofA c l ks) (ofK c
ks)) (shps (ofA c l ks) (ofK c ks))) = List.length (bL (isOk (ofA c l ks) (ofK c ks)) (shps (ofA c l ks) (ofK c ks))) ∧ List.length (bL (isOk (ofA c l ks) (ofK c ks)) (shps (ofA c l ks) (ofK c ks))) =
List.length (bL (isOk (ofA c l ks) (ofK c ks)) (shps (ofA c l ks) (ofK c ks))) ∧ chk (ofA c l ks) (ofK c ks) = chk (ofA c l ks) (ofK c ks) ∧ (↑(List.length (ofA c l ks)) : Int) = (↑(List.length (ofA c
l ks)) : Int) ∧ List.length b.l = List.length b.l ∧ b.i = b.i ∧ (↑(List.length (ofA c l ks)) : Int) = (↑(List.length (ofA c l ks)) : Int) ∧ ltb 3 (↑(List.length (ofA c l ks)) : Int) = ltb 3
(↑(List.length (ofA c l ks)) : Int) ∧ b_1.v = b_1.v ∧ b.i + 1 = b.i + 1 ∧ b.i + 1 = nexI (List.length (ofA c l ks)) b.i ∧ True)) ∧ ∀ (b_2 : VI), b_2.v = nexI (List.length (ofA c l ks)) b.i → (ltb
(List.getD (ofA c l ks) (Int.toNat b.i) 0) (List.getD (ofA c l ks) (Int.toNat b_1.v) 0) = true → (ltb (List.getD (ofA c l ks) (Int.toNat b.i) 0) (List.getD (ofA c l ks) (Int.toNat b_2.v) 0) = true →
((List.getD (ofK c ks) (Int.toNat b.i) 0 == List.getD (ofK c ks) (Int.toNat b_2.v) 0) = true → leb 0 b_1.v = true ∧ ltb b_1.v (↑(List.length (ofA c l ks)) : Int) = true ∧ List.length (ofA c l ks) =
List.length (ofA c l ks) ∧ List.length (ofA c l ks) = List.length (ofA c l ks) ∧ ltn (Int.toNat b_1.v) (Cont.size (Cont.ints IntKind.i64 (ofA c l ks))) = true ∧ leb 0 b.i = true ∧ ltb b.i
(↑(List.length (ofA c l ks)) : Int) = true ∧ List.length (ofA c l ks) = List.length (ofA c l ks) ∧ List.length (ofA c l ks) = List.length (ofA c l ks) ∧ ltn (Int.toNat b.i) (Cont.size (Cont.ints
IntKind.i64 (ofA c l ks))) = true ∧ ltb (List.getD (ofA c l ks) (Int.toNat b.i) 0) (List.getD (ofA c l ks) (Int.toNat b_1.v) 0) = true ∧ ltb (List.getD (ofA c l ks) (Int.toNat b.i) 0) (List.getD (ofA
c l ks) (Int.toNat b_1.v) 0) = true ∧ ltb (List.getD (ofA c l ks) (Int.toNat b.i) 0) (List.getD (ofA c l ks) (Int.toNat b_1.v) 0) = true ∧ ltb (List.getD (ofA c l ks) (Int.toNat b.i) 0) (List.getD
(ofA c l ks) (Int.toNat b_1.v) 0) = true ∧ leb 0 b_2.v = true ∧ ltb b_2.v (↑(List.length (ofA c l ks)) : Int) = true ∧ List.length (ofA c l ks) = List.length (ofA c l ks) ∧ ltb (List.getD (ofA c l ks)
(Int.toNat b.i) 0) (List.getD (ofA c l ks) (Int.toNat b_1.v) 0) = true ∧ List.length (ofA c l ks) = List.length (ofA c l ks) ∧ ltn (Int.toNat b_2.v) (Cont.size (Cont.ints IntKind.i64 (ofA c l ks))) =
true ∧ ltb (List.getD (ofA c l ks) (Int.toNat b.i) 0) (List.getD (ofA c l ks) (Int.toNat b_1.v) 0) = true ∧ ltb (List.getD (ofA c l ks) (Int.toNat b.i) 0) (List.getD (ofA c l ks) (Int.toNat b_1.v) 0)
= true ∧ ltb (List.getD (ofA c l ks) (Int.toNat b.i) 0) (List.getD (ofA c l ks) (Int.toNat b_1.v) 0) = true ∧ ltb (List.getD (ofA c l ks) (Int.toNat b.i) 0) (List.getD (ofA c l ks) (Int.toNat b_1.v)
0) = true ∧ leb 0 b.i = true ∧ ltb b.i (↑(List.length (ofA c l ks)) : Int) = true ∧ List.length (ofA c l ks) = List.length (ofA c l ks) ∧ ltb (List.getD (ofA c l ks) (Int.toNat b.i) 0) (List.getD (ofA
c l ks) (Int.toNat b_1.v) 0) = true ∧ List.length (ofA c l ks) = List.length (ofA c l ks) ∧ ltn (Int.toNat b.i) (Cont.size (Cont.ints IntKind.i64 (ofA c l ks))) = true ∧ ltb (List.getD (ofA c l ks)
(Int.toNat b.i) 0) (List.getD (ofA c l ks) (Int.toNat b_1.v) 0) = true ∧ ltb (List.getD (ofA c l ks) (Int.toNat b.i) 0) (List.getD (ofA c l ks) (Int.toNat b_1.v) 0) = true ∧ ltb (List.getD (ofA c l
ks) (Int.toNat b.i) 0) (List.getD (ofA c l ks) (Int.toNat b_2.v) 0) = true ∧ ltb (List.getD (ofA c l ks) (Int.toNat b.i) 0) (List.getD (ofA c l ks) (Int.toNat b_2.v) 0) = true ∧ ltb (List.getD (ofA c
l ks) (Int.toNat b.i) 0) (List.getD (ofA c l ks) (Int.toNat b_2.v) 0) = true ∧ ltb (List.getD (ofA c l ks) (Int.toNat b.i) 0) (List.getD (ofA c l ks) (Int.toNat b_2.v) 0) = true ∧ leb 0 b.i = true ∧
ltb b.i (↑(List.length (ofK c ks)) : Int) = true ∧ List.length (ofK c ks) = List.length (ofK c ks) ∧ ltb (List.getD (ofA c l ks) (Int.toNat b.i) 0) (List.getD (ofA c l ks) (Int.toNat b_2.v) 0) = true
∧ List.length (ofK c ks) = List.length (ofK c ks) ∧ ltn (Int.toNat b.i) (Cont.size (Cont.ints IntKind.u8 (ofK c ks))) = true ∧ ltb (List.getD (ofA c l ks) (Int.toNat b.i) 0) (List.getD (ofA c l ks)
(Int.toNat b_2.v) 0) = true ∧ ltb (List.getD (ofA c l ks) (Int.toNat b.i) 0) (List.getD (ofA c l ks) (Int.toNat b_2.v) 0) = true ∧ ltb (List.getD (ofA c l ks) (Int.toNat b.i) 0) (List.getD (ofA c l
ks) (Int.toNat b_2.v) 0) = true ∧ ltb (List.getD (ofA c l ks) (Int.toNat b.i) 0) (List.getD (ofA c l ks) (Int.toNat b_2.v) 0) = true ∧ leb 0 b_2.v = true ∧ ltb b_2.v (↑(List.length (ofK c ks)) : Int)
= true ∧ List.length (ofK c ks) = List.length (ofK c ks) ∧ ltb (List.getD (ofA c l ks) (Int.toNat b.i) 0) (List.getD (ofA c l ks) (Int.toNat b_2.v) 0) = true ∧ List.length (ofK c ks) = List.length
(ofK c ks) ∧ ltn (Int.toNat b_2.v) (Cont.size (Cont.ints IntKind.u8 (ofK c ks))) = true ∧ ltb (List.getD (ofA c l ks) (Int.toNat b.i) 0) (List.getD (ofA c l ks) (Int.toNat b_2.v) 0) = true ∧ ltb
(List.getD (ofA c l ks) (Int.toNat b.i) 0) (List.getD (ofA c l ks) (Int.toNat b_2.v) 0) = true ∧ (List.getD (ofK c ks) (Int.toNat b.i) 0 == List.getD (ofK c ks) (Int.toNat b_2.v) 0) = true ∧
(List.getD (ofK c ks) (Int.toNat b.i) 0 == List.getD (ofK c ks) (Int.toNat b_2.v) 0) = true ∧ (List.getD (ofK c ks) (Int.toNat b.i) 0 == List.getD (ofK c ks) (Int.toNat b_2.v) 0) = true ∧ (List.getD
(ofK c ks) (Int.toNat b.i) 0 == List.getD (ofK c ks) (Int.toNat b_2.v) 0) = true ∧ leb 0 b.i = true ∧ ltb b.i (↑(List.length (ofK c ks)) : Int) = true ∧ List.length (ofK c ks) = List.length (ofK c ks)
∧ (List.getD (ofK c ks) (Int.toNat b.i) 0 == List.getD (ofK c ks) (Int.toNat b_2.v) 0) = true ∧ List.length (ofK c ks) = List.length (ofK c ks) ∧ ltn (Int.toNat b.i) (Cont.size (Cont.ints IntKind.u8
(ofK c ks))) = true ∧ (List.getD (ofK c ks) (Int.toNat b.i) 0 == List.getD (ofK c ks) (Int.toNat b_2.v) 0) = true ∧ (List.getD (ofK c ks) (Int.toNat b.i) 0 == List.getD (ofK c ks) (Int.toNat b_2.v) 0)
= true ∧ (ltb (List.getD (ofK c ks) (Int.toNat b.i) 0) 3 = true → List.length b.l = List.length b.l ∧ len' ((List.length b.l + 1) * 8) 140737488355328 = true ∧ inR IntKind.i64 (b.i + 1) = true ∧ 1 = 1
∧ c = c ∧ l = l ∧ Cont.ints IntKind.u8 ks = Cont.ints IntKind.u8 ks ∧ List.length ks = List.length ks ∧ List.length (ofA c l ks) = List.length (ofA c l ks) ∧ ofA c l ks = ofA c l ks ∧ List.length (ofK
c ks) = List.length (ofK c ks) ∧ ofK c ks = ofK c ks ∧ 1 = 1 ∧ List.length (ofA c l ks) = List.length (ofA c l ks) ∧ List.length (ofK c ks) = List.length (ofK c ks) ∧ List.length b.l + 1 = List.length
(b.l ++ [b.i]) ∧ b.l ++ [b.i] = b.l ++ [b.i] ∧ 0 = 0 ∧ Cont.ints IntKind.i64 (bL (isOk (ofA c l ks) (ofK c ks)) (shps (ofA c l ks) (ofK c ks))) = Cont.ints IntKind.i64 (bL (isOk (ofA c l ks) (ofK c
ks)) (shps (ofA c l ks) (ofK c ks))) ∧ List.length (bL (isOk (ofA c l ks) (ofK c ks)) (shps (ofA c l ks) (ofK c ks))) = List.length (bL (isOk (ofA c l ks) (ofK c ks)) (shps (ofA c l ks) (ofK c ks))) ∧
List.length (bL (isOk (ofA c l ks) (ofK c ks)) (shps (ofA c l ks) (ofK c ks))) = List.length (bL (isOk (ofA c l ks) (ofK c ks)) (shps (ofA c l ks) (ofK c ks))) ∧ chk (ofA c l ks) (ofK c ks) = chk (ofA
c l ks) (ofK c ks) ∧ (↑(List.length (ofA c l ks)) : Int) = (↑(List.length (ofA c l ks)) : Int) ∧ List.length b.l + 1 = List.length (b.l ++ [b.i]) ∧ b.i + 1 = b.i + 1 ∧ (∃ (n : Nat), b.i + 1 = (↑n :
Int) ∧ n ≤ List.length (ofA c l ks) ∧ List.length (b.l ++ [b.i]) ≤ n ∧ (n = 0 ∨ 4 ≤ List.length (ofA c l ks)) ∧ b.l ++ [b.i] = shpL (ofA c l ks) (ofK c ks) n) ∧ List.length (ofA c l ks) - Int.toNat
(b.i + 1) < List.length (ofA c l ks) - Int.toNat b.i ∧ True) ∧ (ltb (List.getD (ofK c ks) (Int.toNat b.i) 0) 3 = false → inR IntKind.i64 (b.i + 1) = true ∧ 1 = 1 ∧ c = c ∧ l = l ∧ Cont.ints IntKind.u8
ks = Cont.ints IntKind.u8 ks ∧ List.length ks = List.length ks ∧ List.length (ofA c l ks) = List.length (ofA c l ks) ∧ ofA c l ks = ofA c l ks ∧ List.length (ofK c ks) = List.length (ofK c ks) ∧ ofK c
ks = ofK c ks ∧ 1 = 1 ∧ List.length (ofA c l ks) = List.length (ofA c l ks) ∧ List.length (ofK c ks) = List.length (ofK c ks) ∧ List.length b.l = List.length b.l ∧ b.l = b.l ∧ 0 = 0 ∧ Cont.ints
IntKind.i64 (bL (isOk (ofA c l ks) (ofK c ks)) (shps (ofA c l ks) (ofK c ks))) = Cont.ints IntKind.i64 (bL (isOk (ofA c l ks) (ofK c ks)) (shps (ofA c l ks) (ofK c ks))) ∧ List.length (bL (isOk (ofA c
l ks) (ofK c ks)) (shps (ofA c l ks) (ofK c ks))) = List.length (bL (isOk (ofA c l ks) (ofK c ks)) (shps (ofA c l ks) (ofK c ks))) ∧ List.length (bL (isOk (ofA c l ks) (ofK c ks)) (shps (ofA c l ks)
(ofK c ks))) = List.length (bL (isOk (ofA c l ks) (ofK c ks)) (shps (ofA c l ks) (ofK c ks))) ∧ chk (ofA c l ks) (ofK c ks) = chk (ofA c l ks) (ofK c ks) ∧ (↑(List.length (ofA c l ks)) : Int) =
(↑(List.length (ofA c l ks)) : Int) ∧ List.length b.l = List.length b.l ∧ b.i + 1 = b.i + 1 ∧ (∃ (n : Nat), b.i + 1 = (↑n : Int) ∧ n ≤ List.length (ofA c l ks) ∧ List.length b.l ≤ n ∧ (n = 0 ∨ 4 ≤
List.length (ofA c l ks)) ∧ b.l = shpL (ofA c l ks) (ofK c ks) n) ∧ List.length (ofA c l ks) - Int.toNat (b.i + 1) < List.length (ofA c l ks) - Int.toNat b.i ∧ True)) ∧ ((List.getD (ofK c ks)
(Int.toNat b.i) 0 == List.getD (ofK c ks) (Int.toNat b_2.v) 0) = false → leb 0 b_1.v = true ∧ ltb b_1.v (↑(List.length (ofA c l ks)) : Int) = true ∧ List.length (ofA c l ks) = List.length (ofA c l ks)
∧ List.length (ofA c l ks) = List.length (ofA c l ks) ∧ ltn (Int.toNat b_1.v) (Cont.size (Cont.ints IntKind.i64 (ofA c l ks))) = true ∧ leb 0 b.i = true ∧ ltb b.i (↑(List.length (ofA c l ks)) : Int) =
true ∧ List.length (ofA c l ks) = List.length (ofA c l ks) ∧ List.length (ofA c l ks) = List.length (ofA c l ks) ∧ ltn (Int.toNat b.i) (Cont.size (Cont.ints IntKind.i64 (ofA c l ks))) = true ∧ ltb
(List.getD (ofA c l ks) (Int.toNat b.i) 0) (List.getD (ofA c l ks) (Int.toNat b_1.v) 0) = true ∧ ltb (List.getD (ofA c l ks) (Int.toNat b.i) 0) (List.getD (ofA c l ks) (Int.toNat b_1.v) 0) = true ∧
ltb (List.getD (ofA c l ks) (Int.toNat b.i) 0) (List.getD (ofA c l ks) (Int.toNat b_1.v) 0) = true ∧ ltb (List.getD (ofA c l ks) (Int.toNat b.i) 0) (List.getD (ofA c l ks) (Int.toNat b_1.v) 0) = true
∧ leb 0 b_2.v = true ∧ ltb b_2.v (↑(List.length (ofA c l ks)) : Int) = true ∧ List.length (ofA c l ks) = List.length (ofA c l ks) ∧ ltb (List.getD (ofA c l ks) (Int.toNat b.i) 0) (List.getD (ofA c l
ks) (Int.toNat b_1.v) 0) = true ∧ List.length (ofA c l ks) = List.length (ofA c l ks) ∧ ltn (Int.toNat b_2.v) (Cont.size (Cont.ints IntKind.i64 (ofA c l ks))) = true ∧ ltb (List.getD (ofA c l ks)
(Int.toNat b.i) 0) (List.getD (ofA c l ks) (Int.toNat b_1.v) 0) = true ∧ ltb (List.getD (ofA c l ks) (Int.toNat b.i) 0) (List.getD (ofA c l ks) (Int.toNat b_1.v) 0) = true ∧ ltb (List.getD (ofA c l
ks) (Int.toNat b.i) 0) (List.getD (ofA c l ks) (Int.toNat b_1.v) 0) = true ∧ ltb (List.getD (ofA c l ks) (Int.toNat b.i) 0) (List.getD (ofA c l ks) (Int.toNat b_1.v) 0) = true ∧ leb 0 b.i = true ∧ ltb
b.i (↑(List.length (ofA c l ks)) : Int) = true ∧ List.length (ofA c l ks) = List.length (ofA c l ks) ∧ ltb (List.getD (ofA c l ks) (Int.toNat b.i) 0) (List.getD (ofA c l ks) (Int.toNat b_1.v) 0) =
true ∧ List.length (ofA c l ks) = List.length (ofA c l ks) ∧ ltn (Int.toNat b.i) (Cont.size (Cont.ints IntKind.i64 (ofA c l ks))) = true ∧ ltb (List.getD (ofA c l ks) (Int.toNat b.i) 0) (List.getD
(ofA c l ks) (Int.toNat b_1.v) 0) = true ∧ ltb (List.getD (ofA c l ks) (Int.toNat b.i) 0) (List.getD (ofA c l ks) (Int.toNat b_1.v) 0) = true ∧ ltb (List.getD (ofA c l ks) (Int.toNat b.i) 0)
(List.getD (ofA c l ks) (Int.toNat b_2.v) 0) = true ∧ ltb (List.getD (ofA c l ks) (Int.toNat b.i) 0) (List.getD (ofA c l ks) (Int.toNat b_2.v) 0) = true ∧ ltb (List.getD (ofA c l ks) (Int.toNat b.i)
0) (List.getD (ofA c l ks) (Int.toNat b_2.v) 0) = true ∧ ltb (List.getD (ofA c l ks) (Int.toNat b.i) 0) (List.getD (ofA c l ks) (Int.toNat b_2.v) 0) = true ∧ leb 0 b.i = true ∧ ltb b.i (↑(List.length
(ofK c ks)) : Int) = true ∧ List.length (ofK c ks) = List.length (ofK c ks) ∧ ltb (List.getD (ofA c l ks) (Int.toNat b.i) 0) (List.getD (ofA c l ks) (Int.toNat b_2.v) 0) = true ∧ List.length (ofK c
ks) = List.length (ofK c ks) ∧ ltn (Int.toNat b.i) (Cont.size (Cont.ints IntKind.u8 (ofK c ks))) = true ∧ ltb (List.getD (ofA c l ks) (Int.toNat b.i) 0) (List.getD (ofA c l ks) (Int.toNat b_2.v) 0) =
true ∧ ltb (List.getD (ofA c l ks) (Int.toNat b.i) 0) (List.getD (ofA c l ks) (Int.toNat b_2.v) 0) = true ∧ ltb (List.getD (ofA c l ks) (Int.toNat b.i) 0) (List.getD (ofA c l ks) (Int.toNat b_2.v) 0)
= true ∧ ltb (List.getD (ofA c l ks) (Int.toNat b.i) 0) (List.getD (ofA c l ks) (Int.toNat b_2.v) 0) = true ∧ leb 0 b_2.v = true ∧ ltb b_2.v (↑(List.length (ofK c ks)) : Int) = true ∧ List.length (ofK
c ks) = List.length (ofK c ks) ∧ ltb (List.getD (ofA c l ks) (Int.toNat b.i) 0) (List.getD (ofA c l ks) (Int.toNat b_2.v) 0) = true ∧ List.length (ofK c ks) = List.length (ofK c ks) ∧ ltn (Int.toNat
b_2.v) (Cont.size (Cont.ints IntKind.u8 (ofK c ks))) = true ∧ ltb (List.getD (ofA c l ks) (Int.toNat b.i) 0) (List.getD (ofA c l ks) (Int.toNat b_2.v) 0) = true ∧ ltb (List.getD (ofA c l ks)
(Int.toNat b.i) 0) (List.getD (ofA c l ks) (Int.toNat b_2.v) 0) = true ∧ (!List.getD (ofK c ks) (Int.toNat b.i) 0 == List.getD (ofK c ks) (Int.toNat b_2.v) 0) = true ∧ (!List.getD (ofK c ks)
(Int.toNat b.i) 0 == List.getD (ofK c ks) (Int.toNat b_2.v) 0) = true ∧ (!List.getD (ofK c ks) (Int.toNat b.i) 0 == List.getD (ofK c ks) (Int.toNat b_2.v) 0) = true ∧ (!List.getD (ofK c ks) (Int.toNat
b.i) 0 == List.getD (ofK c ks) (Int.toNat b_2.v) 0) = true ∧ (!List.getD (ofK c ks) (Int.toNat b.i) 0 == List.getD (ofK c ks) (Int.toNat b_2.v) 0) = true ∧ (!List.getD (ofK c ks) (Int.toNat b.i) 0 ==
List.getD (ofK c ks) (Int.toNat b_2.v) 0) = true ∧ (!List.getD (ofK c ks) (Int.toNat b.i) 0 == List.getD (ofK c ks) (Int.toNat b_2.v) 0) = true ∧ inR IntKind.i64 (b.i + 1) = true ∧ 1 = 1 ∧ c = c ∧ l =
l ∧ Cont.ints IntKind.u8 ks = Cont.ints IntKind.u8 ks ∧ List.length ks = List.length ks ∧ List.length (ofA c l ks) = List.length (ofA c l ks) ∧ ofA c l ks = ofA c l ks ∧ List.length (ofK c ks) =
List.length (ofK c ks) ∧ ofK c ks = ofK c ks ∧ 1 = 1 ∧ List.length (ofA c l ks) = List.length (ofA c l ks) ∧ List.length (ofK c ks) = List.length (ofK c ks) ∧ List.length b.l = List.length b.l ∧ b.l =
b.l ∧ 0 = 0 ∧ Cont.ints IntKind.i64 (bL (isOk (ofA c l ks) (ofK c ks)) (shps (ofA c l ks) (ofK c ks))) = Cont.ints IntKind.i64 (bL (isOk (ofA c l ks) (ofK c ks)) (shps (ofA c l ks) (ofK c ks))) ∧
List.length (bL (isOk (ofA c l ks) (ofK c ks)) (shps (ofA c l ks) (ofK c ks))) = List.length (bL (isOk (ofA c l ks) (ofK c ks)) (shps (ofA c l ks) (ofK c ks))) ∧ List.length (bL (isOk (ofA c l ks)
(ofK c ks)) (shps (ofA c l ks) (ofK c ks))) = List.length (bL (isOk (ofA c l ks) (ofK c ks)) (shps (ofA c l ks) (ofK c ks))) ∧ chk (ofA c l ks) (ofK c ks) = chk (ofA c l ks) (ofK c ks) ∧
(↑(List.length (ofA c l ks)) : Int) = (↑(List.length (ofA c l ks)) : Int) ∧ List.length b.l = List.length b.l ∧ b.i + 1 = b.i + 1 ∧ (∃ (n : Nat), b.i + 1 = (↑n : Int) ∧ n ≤ List.length (ofA c l ks) ∧
List.length b.l ≤ n ∧ (n = 0 ∨ 4 ≤ List.length (ofA c l ks)) ∧ b.l = shpL (ofA c l ks) (ofK c ks) n) ∧ List.length (ofA c l ks) - Int.toNat (b.i + 1) < List.length (ofA c l ks) - Int.toNat b.i ∧
True)) ∧ (ltb (List.getD (ofA c l ks) (Int.toNat b.i) 0) (List.getD (ofA c l ks) (Int.toNat b_2.v) 0) = false → leb 0 b_1.v = true ∧ ltb b_1.v (↑(List.length (ofA c l ks)) : Int) = true ∧ List.length
(ofA c l ks) = List.length (ofA c l ks) ∧ List.length (ofA c l ks) = List.length (ofA c l ks) ∧ ltn (Int.toNat b_1.v) (Cont.size (Cont.ints IntKind.i64 (ofA c l ks))) = true ∧ leb 0 b.i = true ∧ ltb
b.i (↑(List.length (ofA c l ks)) : Int) = true ∧ List.length (ofA c l ks) = List.length (ofA c l ks) ∧ List.length (ofA c l ks) = List.length (ofA c l ks) ∧ ltn (Int.toNat b.i) (Cont.size (Cont.ints
IntKind.i64 (ofA c l ks))) = true ∧ ltb (List.getD (ofA c l ks) (Int.toNat b.i) 0) (List.getD (ofA c l ks) (Int.toNat b_1.v) 0) = true ∧ ltb (List.getD (ofA c l ks) (Int.toNat b.i) 0) (List.getD (ofA
c l ks) (Int.toNat b_1.v) 0) = true ∧ ltb (List.getD (ofA c l ks) (Int.toNat b.i) 0) (List.getD (ofA c l ks) (Int.toNat b_1.v) 0) = true ∧ ltb (List.getD (ofA c l ks) (Int.toNat b.i) 0) (List.getD
(ofA c l ks) (Int.toNat b_1.v) 0) = true ∧ leb 0 b_2.v = true ∧ ltb b_2.v (↑(List.length (ofA c l ks)) : Int) = true ∧ List.length (ofA c l ks) = List.length (ofA c l ks) ∧ ltb (List.getD (ofA c l ks)
(Int.toNat b.i) 0) (List.getD (ofA c l ks) (Int.toNat b_1.v) 0) = true ∧ List.length (ofA c l ks) = List.length (ofA c l ks) ∧ ltn (Int.toNat b_2.v) (Cont.size (Cont.ints IntKind.i64 (ofA c l ks))) =
true ∧ ltb (List.getD (ofA c l ks) (Int.toNat b.i) 0) (List.getD (ofA c l ks) (Int.toNat b_1.v) 0) = true ∧ ltb (List.getD (ofA c l ks) (Int.toNat b.i) 0) (List.getD (ofA c l ks) (Int.toNat b_1.v) 0)
= true ∧ ltb (List.getD (ofA c l ks) (Int.toNat b.i) 0) (List.getD (ofA c l ks) (Int.toNat b_1.v) 0) = true ∧ ltb (List.getD (ofA c l ks) (Int.toNat b.i) 0) (List.getD (ofA c l ks) (Int.toNat b_1.v)
0) = true ∧ leb 0 b.i = true ∧ ltb b.i (↑(List.length (ofA c l ks)) : Int) = true ∧ List.length (ofA c l ks) = List.length (ofA c l ks) ∧ ltb (List.getD (ofA c l ks) (Int.toNat b.i) 0) (List.getD (ofA
c l ks) (Int.toNat b_1.v) 0) = true ∧ List.length (ofA c l ks) = List.length (ofA c l ks) ∧ ltn (Int.toNat b.i) (Cont.size (Cont.ints IntKind.i64 (ofA c l ks))) = true ∧ ltb (List.getD (ofA c l ks)
(Int.toNat b.i) 0) (List.getD (ofA c l ks) (Int.toNat b_1.v) 0) = true ∧ ltb (List.getD (ofA c l ks) (Int.toNat b.i) 0) (List.getD (ofA c l ks) (Int.toNat b_1.v) 0) = true ∧ (!ltb (List.getD (ofA c l
ks) (Int.toNat b.i) 0) (List.getD (ofA c l ks) (Int.toNat b_2.v) 0)) = true ∧ (!ltb (List.getD (ofA c l ks) (Int.toNat b.i) 0) (List.getD (ofA c l ks) (Int.toNat b_2.v) 0)) = true ∧ (!ltb (List.getD
(ofA c l ks) (Int.toNat b.i) 0) (List.getD (ofA c l ks) (Int.toNat b_2.v) 0)) = true ∧ (!ltb (List.getD (ofA c l ks) (Int.toNat b.i) 0) (List.getD (ofA c l ks) (Int.toNat b_2.v) 0)) = true ∧ (!ltb
(List.getD (ofA c l ks) (Int.toNat b.i) 0) (List.getD (ofA c l ks) (Int.toNat b_2.v) 0)) = true ∧ (!ltb (List.getD (ofA c l ks) (Int.toNat b.i) 0) (List.getD (ofA c l ks) (Int.toNat b_2.v) 0)) = true
∧ (!ltb (List.getD (ofA c l ks) (Int.toNat b.i) 0) (List.getD (ofA c l ks) (Int.toNat b_2.v) 0)) = true ∧ (!ltb (List.getD (ofA c l ks) (Int.toNat b.i) 0) (List.getD (ofA c l ks) (Int.toNat b_2.v) 0))
= true ∧ (!ltb (List.getD (ofA c l ks) (Int.toNat b.i) 0) (List.getD (ofA c l ks) (Int.toNat b_2.v) 0)) = true ∧ (!ltb (List.getD (ofA c l ks) (Int.toNat b.i) 0) (List.getD (ofA c l ks) (Int.toNat
b_2.v) 0)) = true ∧ (!ltb (List.getD (ofA c l ks) (Int.toNat b.i) 0) (List.getD (ofA c l ks) (Int.toNat b_2.v) 0)) = true ∧ (!ltb (List.getD (ofA c l ks) (Int.toNat b.i) 0) (List.getD (ofA c l ks)
(Int.toNat b_2.v) 0)) = true ∧ inR IntKind.i64 (b.i + 1) = true ∧ 1 = 1 ∧ c = c ∧ l = l ∧ Cont.ints IntKind.u8 ks = Cont.ints IntKind.u8 ks ∧ List.length ks = List.length ks ∧ List.length (ofA c l ks)
= List.length (ofA c l ks) ∧ ofA c l ks = ofA c l ks ∧ List.length (ofK c ks) = List.length (ofK c ks) ∧ ofK c ks = ofK c ks ∧ 1 = 1 ∧ List.length (ofA c l ks) = List.length (ofA c l ks) ∧ List.length
(ofK c ks) = List.length (ofK c ks) ∧ List.length b.l = List.length b.l ∧ b.l = b.l ∧ 0 = 0 ∧ Cont.ints IntKind.i64 (bL (isOk (ofA c l ks) (ofK c ks)) (shps (ofA c l ks) (ofK c ks))) = Cont.ints
IntKind.i64 (bL (isOk (ofA c l ks) (ofK c ks)) (shps (ofA c l ks) (ofK c ks))) ∧ List.length (bL (isOk (ofA c l ks) (ofK c ks)) (shps (ofA c l ks) (ofK c ks))) = List.length (bL (isOk (ofA c l ks)
(ofK c ks)) (shps (ofA c l ks) (ofK c ks))) ∧ List.length (bL (isOk (ofA c l ks) (ofK c ks)) (shps (ofA c l ks) (ofK c ks))) = List.length (bL (isOk (ofA c l ks) (ofK c ks)) (shps (ofA c l ks) (ofK c
ks))) ∧ chk (ofA c l ks) (ofK c ks) = chk (ofA c l ks) (ofK c ks) ∧ (↑(List.length (ofA c l ks)) : Int) = (↑(List.length (ofA c l ks)) : Int) ∧ List.length b.l = List.length b.l ∧ b.i + 1 = b.i + 1 ∧
(∃ (n : Nat), b.i + 1 = (↑n : Int) ∧ n ≤ List.length (ofA c l ks) ∧ List.length b.l ≤ n ∧ (n = 0 ∨ 4 ≤ List.length (ofA c l ks)) ∧ b.l = shpL (ofA c l ks) (ofK c ks) n) ∧ List.length (ofA c l ks) -
Int.toNat (b.i + 1) < List.length (ofA c l ks) - Int.toNat b.i ∧ True)) ∧ (ltb (List.getD (ofA c l ks) (Int.toNat b.i) 0) (List.getD (ofA c l ks) (Int.toNat b_1.v) 0) = false → leb 0 b_1.v = true ∧
ltb b_1.v (↑(List.length (ofA c l ks)) : Int) = true ∧ List.length (ofA c l ks) = List.length (ofA c l ks) ∧ List.length (ofA c l ks) = List.length (ofA c l ks) ∧ ltn (Int.toNat b_1.v) (Cont.size
(Cont.ints IntKind.i64 (ofA c l ks))) = true ∧ leb 0 b.i = true ∧ ltb b.i (↑(List.length (ofA c l ks)) : Int) = true ∧ List.length (ofA c l ks) = List.length (ofA c l ks) ∧ List.length (ofA c l ks) =
List.length (ofA c l ks) ∧ ltn (Int.toNat b.i) (Cont.size (Cont.ints IntKind.i64 (ofA c l ks))) = true ∧ (!ltb (List.getD (ofA c l ks) (Int.toNat b.i) 0) (List.getD (ofA c l ks) (Int.toNat b_1.v) 0))
= true ∧ (!ltb (List.getD (ofA c l ks) (Int.toNat b.i) 0) (List.getD (ofA c l ks) (Int.toNat b_1.v) 0)) = true ∧ (!ltb (List.getD (ofA c l ks) (Int.toNat b.i) 0) (List.getD (ofA c l ks) (Int.toNat
b_1.v) 0)) = true ∧ (!ltb (List.getD (ofA c l ks) (Int.toNat b.i) 0) (List.getD (ofA c l ks) (Int.toNat b_1.v) 0)) = true ∧ (!ltb (List.getD (ofA c l ks) (Int.toNat b.i) 0) (List.getD (ofA c l ks)
(Int.toNat b_1.v) 0)) = true ∧ (!ltb (List.getD (ofA c l ks) (Int.toNat b.i) 0) (List.getD (ofA c l ks) (Int.toNat b_1.v) 0)) = true ∧ (!ltb (List.getD (ofA c l ks) (Int.toNat b.i) 0) (List.getD (ofA
c l ks) (Int.toNat b_1.v) 0)) = true ∧ (!ltb (List.getD (ofA c l ks) (Int.toNat b.i) 0) (List.getD (ofA c l ks) (Int.toNat b_1.v) 0)) = true ∧ (!ltb (List.getD (ofA c l ks) (Int.toNat b.i) 0)
(List.getD (ofA c l ks) (Int.toNat b_1.v) 0)) = true ∧ (!ltb (List.getD (ofA c l ks) (Int.toNat b.i) 0) (List.getD (ofA c l ks) (Int.toNat b_1.v) 0)) = true ∧ (!ltb (List.getD (ofA c l ks) (Int.toNat
b.i) 0) (List.getD (ofA c l ks) (Int.toNat b_1.v) 0)) = true ∧ (!ltb (List.getD (ofA c l ks) (Int.toNat b.i) 0) (List.getD (ofA c l ks) (Int.toNat b_1.v) 0)) = true ∧ inR IntKind.i64 (b.i + 1) = true
∧ 1 = 1 ∧ c = c ∧ l = l ∧ Cont.ints IntKind.u8 ks = Cont.ints IntKind.u8 ks ∧ List.length ks = List.length ks ∧ List.length (ofA c l ks) = List.length (ofA c l ks) ∧ ofA c l ks = ofA c l ks ∧
List.length (ofK c ks) = List.length (ofK c ks) ∧ ofK c ks = ofK c ks ∧ 1 = 1 ∧ List.length (ofA c l ks) = List.length (ofA c l ks) ∧ List.length (ofK c ks) = List.length (ofK c ks) ∧ List.length b.l
= List.length b.l ∧ b.l = b.l ∧ 0 = 0 ∧ Cont.ints IntKind.i64 (bL (isOk (ofA c l ks) (ofK c ks)) (shps (ofA c l ks) (ofK c ks))) = Cont.ints IntKind.i64 (bL (isOk (ofA c l ks) (ofK c ks)) (shps (ofA c
l ks) (ofK c ks))) ∧ List.length (bL (isOk (ofA c l ks) (ofK c ks)) (shps (ofA c l ks) (ofK c ks))) = List.length (bL (isOk (ofA c l ks) (ofK c ks)) (shps (ofA c l ks) (ofK c ks))) ∧ List.length (bL
(isOk (ofA c l ks) (ofK c ks)) (shps (ofA c l ks) (ofK c ks))) = List.length (bL (isOk (ofA c l ks) (ofK c ks)) (shps (ofA c l ks) (ofK c ks))) ∧ chk (ofA c l ks) (ofK c ks) = chk (ofA c l ks) (ofK c
ks) ∧ (↑(List.length (ofA c l ks)) : Int) = (↑(List.length (ofA c l ks)) : Int) ∧ List.length b.l = List.length b.l ∧ b.i + 1 = b.i + 1 ∧ (∃ (n : Nat), b.i + 1 = (↑n : Int) ∧ n ≤ List.length (ofA c l
ks) ∧ List.length b.l ≤ n ∧ (n = 0 ∨ 4 ≤ List.length (ofA c l ks)) ∧ b.l = shpL (ofA c l ks) (ofK c ks) n) ∧ List.length (ofA c l ks) - Int.toNat (b.i + 1) < List.length (ofA c l ks) - Int.toNat b.i ∧
True)) ∧ (ltb 3 (↑(List.length (ofA c l ks)) : Int) = false → (chk (ofA c l ks) (ofK c ks) == 0) = true ∧ List.length b.l = List.length b.l ∧ List.length b.l = List.length b.l ∧ List.length b.l =
List.length b.l ∧ Int.toNat (↑(List.length b.l) : Int) = List.length b.l ∧ Int.toNat (↑(List.length b.l) : Int) = List.length b.l ∧ Cont.size (Cont.ints IntKind.i64 b.l) = List.length b.l ∧
(List.length (bL (isOk (ofA c l ks) (ofK c ks)) (shps (ofA c l ks) (ofK c ks))) = List.length (bL (isOk (ofA c l ks) (ofK c ks)) (shps (ofA c l ks) (ofK c ks))) ∧ List.length (bL (isOk (ofA c l ks)
(ofK c ks)) (shps (ofA c l ks) (ofK c ks))) = List.length (bL (isOk (ofA c l ks) (ofK c ks)) (shps (ofA c l ks) (ofK c ks))) ∧ List.length b.l = List.length b.l ∧ List.length (bL (isOk (ofA c l ks)
(ofK c ks)) (shps (ofA c l ks) (ofK c ks))) < 1000000000000) ∧ eqL (bL (isOk (ofA c l ks) (ofK c ks)) (shps (ofA c l ks) (ofK c ks))) b.l = true ∧ true = true ∧ True)) ∧ (ltb b.i (↑(List.length (ofA c
l ks)) : Int) = false → (chk (ofA c l ks) (ofK c ks) == 0) = true ∧ List.length b.l = List.length b.l ∧ List.length b.l = List.length b.l ∧ List.length b.l = List.length b.l ∧ Int.toNat (↑(List.length
b.l) : Int) = List.length b.l ∧ Int.toNat (↑(List.length b.l) : Int) = List.length b.l ∧ Cont.size (Cont.ints IntKind.i64 b.l) = List.length b.l ∧ (List.length (bL (isOk (ofA c l ks) (ofK c ks)) (shps
(ofA c l ks) (ofK c ks))) = List.length (bL (isOk (ofA c l ks) (ofK c ks)) (shps (ofA c l ks) (ofK c ks))) ∧ List.length (bL (isOk (ofA c l ks) (ofK c ks)) (shps (ofA c l ks) (ofK c ks))) =
List.length (bL (isOk (ofA c l ks) (ofK c ks)) (shps (ofA c l ks) (ofK c ks))) ∧ List.length b.l = List.length b.l ∧ List.length (bL (isOk (ofA c l ks) (ofK c ks)) (shps (ofA c l ks) (ofK c ks))) <
1000000000000) ∧ eqL (bL (isOk (ofA c l ks) (ofK c ks)) (shps (ofA c l ks) (ofK c ks))) b.l = true ∧ true = true ∧ True)) := by kernel_rfl

end Go.Proofs.YtidpllnmghgomaaDoor.X
