/-
 What is to be shown of the functions (made by a program).
-/
import Derived.Test.YtmnaghfndigfkaaDoorQHAZ
import Derived.KernelRfl
set_option maxRecDepth 1000000
set_option linter.unusedVariables false
namespace Go.Proofs.YtmnaghfndigfkaaDoor.X
open Go Go.Ab

theorem ob_o64 (x y q : Int) : fnP (T0) G 10000 fe64 (.r [] 0 (.r [] 1 .nil)) ([.int .i64 x, .int .i64 y, .int .u8 q]) ([.agg [.int .i64 x, .int .i64 y, .int .u8 q]]) ([]) = (
x = x ∧ y = y ∧ q = q ∧ True) := by kernel_rfl

theorem ob_o65 (ks : List Int) (c : Int) : fnP (T0) G 10000 fe65 (.r [] 0 (.r [] 0 (.lp (l65 ks c) [] [] (fun b => (.r [] 0 (.cnd (.r [] 0 (.r [] 0 (.cnd (.r [] 0 .nil) (.r [] 0 .nil)))) (.r [] 0 .nil))))))) ([layV ks, .int .i64 c]) ([.int .i64 (ixI ks c 0)]) ([]) = (
Cont.ints IntKind.i64 ks = Cont.ints IntKind.i64 ks ∧ List.length ks = List.length ks ∧ c = c ∧ (↑(List.length ks) : Int) = (↑(List.length ks) : Int) ∧ iI 0 = 0 ∧ (∃ (n : Nat), 0 = (↑n : Int) ∧ n ≤
List.length ks ∧ ixI (List.drop n ks) c (↑n : Int) = ixI ks c 0) ∧ ∀ (b : L1), (∃ (n : Nat), b.i = (↑n : Int) ∧ n ≤ List.length ks ∧ ixI (List.drop n ks) c (↑n : Int) = ixI ks c 0) → (ltb b.i
(↑(List.length ks) : Int) = true → leb 0 b.i = true ∧ ltb b.i (↑(List.length ks) : Int) = true ∧ ltn 0 (Cont.size (Cont.ints IntKind.i64 ks)) = true ∧ ltn 0 (Cont.size (Cont.ints IntKind.i64
(List.drop (Int.toNat b.i) ks))) = true ∧ ((c == List.getD (List.drop (Int.toNat b.i) ks) 0 0) = true → b.i = ixI ks c 0 ∧ True) ∧ ((c == List.getD (List.drop (Int.toNat b.i) ks) 0 0) = false → inR
IntKind.i64 (b.i + 1) = true ∧ Cont.ints IntKind.i64 ks = Cont.ints IntKind.i64 ks ∧ List.length ks = List.length ks ∧ c = c ∧ (↑(List.length ks) : Int) = (↑(List.length ks) : Int) ∧ b.i + 1 = b.i + 1
∧ (∃ (n : Nat), b.i + 1 = (↑n : Int) ∧ n ≤ List.length ks ∧ ixI (List.drop n ks) c (↑n : Int) = ixI ks c 0) ∧ List.length ks - Int.toNat (b.i + 1) < List.length ks - Int.toNat b.i ∧ True)) ∧ (ltb b.i
(↑(List.length ks) : Int) = false → -1 = ixI ks c 0 ∧ True)) := by kernel_rfl

theorem ob_o70 (a b : List Int) : fnP (T0) G 10000 fe70 (.r [] 0 (.r [] 0 (.cnd (.r [] 0 .nil) (.r [] 0 (.lp (l70 a b) [] [] (fun b_1 => (.r [] 0 (.cnd (.r [] 0 (.r [] 0 (.cnd (.r [] 0 .nil) (.r [] 0 .nil)))) (.r [] 0 .nil))))))))) ([layV a, layV b]) ([.bool (eqK a b)]) ([]) = (
(((↑(List.length a) : Int) != (↑(List.length b) : Int)) = true → false = eqK a b ∧ True) ∧ (((↑(List.length a) : Int) != (↑(List.length b) : Int)) = false → Cont.ints IntKind.i64 a = Cont.ints
IntKind.i64 a ∧ List.length a = List.length a ∧ Cont.ints IntKind.i64 b = Cont.ints IntKind.i64 b ∧ List.length b = List.length b ∧ (↑(List.length a) : Int) = (↑(List.length a) : Int) ∧ iI 0 = 0 ∧ (∃
(n : Nat), 0 = (↑n : Int) ∧ n ≤ List.length a ∧ eqK (List.drop n a) (List.drop n b) = eqK a b) ∧ ∀ (b_1 : L1), (∃ (n : Nat), b_1.i = (↑n : Int) ∧ n ≤ List.length a ∧ eqK (List.drop n a) (List.drop n
b) = eqK a b) → (ltb b_1.i (↑(List.length a) : Int) = true → leb 0 b_1.i = true ∧ ltb b_1.i (↑(List.length a) : Int) = true ∧ ltn 0 (Cont.size (Cont.ints IntKind.i64 a)) = true ∧ ltn 0 (Cont.size
(Cont.ints IntKind.i64 (List.drop (Int.toNat b_1.i) a))) = true ∧ leb 0 b_1.i = true ∧ ltb b_1.i (↑(List.length b) : Int) = true ∧ ltn 0 (Cont.size (Cont.ints IntKind.i64 b)) = true ∧ ltn 0 (Cont.size
(Cont.ints IntKind.i64 (List.drop (Int.toNat b_1.i) b))) = true ∧ ((List.getD (List.drop (Int.toNat b_1.i) a) 0 0 != List.getD (List.drop (Int.toNat b_1.i) b) 0 0) = true → false = eqK a b ∧ True) ∧
((List.getD (List.drop (Int.toNat b_1.i) a) 0 0 != List.getD (List.drop (Int.toNat b_1.i) b) 0 0) = false → inR IntKind.i64 (b_1.i + 1) = true ∧ Cont.ints IntKind.i64 a = Cont.ints IntKind.i64 a ∧
List.length a = List.length a ∧ Cont.ints IntKind.i64 b = Cont.ints IntKind.i64 b ∧ List.length b = List.length b ∧ (↑(List.length a) : Int) = (↑(List.length a) : Int) ∧ b_1.i + 1 = b_1.i + 1 ∧ (∃ (n
: Nat), b_1.i + 1 = (↑n : Int) ∧ n ≤ List.length a ∧ eqK (List.drop n a) (List.drop n b) = eqK a b) ∧ List.length a - Int.toNat (b_1.i + 1) < List.length a - Int.toNat b_1.i ∧ True)) ∧ (ltb b_1.i
(↑(List.length a) : Int) = false → true = eqK a b ∧ True))) := by kernel_rfl

theorem ob_o67p (ks : List Int) : fnP (T0) G 10000 fe67 (.r [] 0 (.r [] 0 (.lit (.r [] 1 .nil)))) ([layV ks]) ([.full 0 ks.length]) ([bkI ks none]) = (
ltn 0 (List.length ks) = true ∧ len' ((0 + List.length ks) * 8) 140737488355328 = true ∧ Cont.size (Cont.ints IntKind.i64 ks) = List.length ks ∧ 0 + List.length ks = List.length ks ∧ [] ++ ks = ks ∧ 0
+ List.length ks = List.length ks ∧ True) := by kernel_rfl

theorem ob_o67f (ks : List Int) : fnP (T0) G 10000 fe67 (.r [] 0 (.nl 1 [] 0 3 (.r [] 0 (.lit (.r [] 0 (.frz 2 0 .nil)))) (.r [] 0 (.lit (.r [] 1 (.frz 2 0 .nil)))))) ([layV ks]) ([layV ks]) ([]) = (
(List.length ks = 0 ∧ Cont.size (Cont.ints IntKind.i64 ks) = 0 → Cont.size (Cont.ints IntKind.i64 ks) = 0 ∧ List.length ks = 0 ∧ True) ∧ len' ((0 + List.length ks) * 8) 140737488355328 = true ∧
Cont.size (Cont.ints IntKind.i64 ks) = List.length ks ∧ 0 + List.length ks = 0 + List.length ks ∧ Cont.ints IntKind.i64 ([] ++ ks) = Cont.ints IntKind.i64 ks ∧ 0 + List.length ks = List.length ks ∧
True) := by kernel_rfl

theorem ob_d_66 (ks : List Int) : fnD (T0) G 10000 (fe66) (.r [] 0 (.r [(133, .auto, Dr.pk true)] 40 .nil)) ([.full 24704 ks.length]) ([(24704, .blk (bkI ks none))]) ([.fullc 24704 ks.length ks.length]) ([]) = (
List.length ks = List.length ks ∧ List.length ks = List.length ks ∧ List.length ks = List.length ks ∧ Int.toNat (↑(List.length ks) : Int) = List.length ks ∧ Int.toNat (↑(List.length ks) : Int) =
List.length ks ∧ List.length ks = List.length ks ∧ ks = ks ∧ List.length ks = List.length ks ∧ List.length ks = List.length ks ∧ True) := by kernel_rfl

theorem ob_o66f (ks : List Int) : fnP (T0) G 10000 fe66 (.r [] 0 (.r [] 5 .nil)) ([layV ks]) ([layC ks]) ([]) = (
Int.toNat (↑(List.length ks) : Int) = List.length ks ∧ Int.toNat (↑(List.length ks) : Int) = List.length ks ∧ Cont.size (Cont.ints IntKind.i64 ks) = List.length ks ∧ Cont.ints IntKind.i64 ks =
Cont.ints IntKind.i64 ks ∧ List.length ks = List.length ks ∧ List.length ks = List.length ks ∧ True) := by kernel_rfl

theorem ob_o16 (l : List Sk) (c : Int) : fnP (TH16) G 10000 fe16 (.r [] 0 (.r [] 0 (.lp (l16 l c) [] [] (fun b => (.r [] 0 (.cnd (.r [(257, .auto, Dr.val (tV l b.i))] 128 (.r [] 1 (.r [] 0 (.cnd (.r [] 3 .nil) (.r [] 0 .nil))))) (.r [] 1 .nil))))))) ([lsk l, .int .i64 c]) ([.agg [.int .i64 (fdS l c).1.1, .int .i64 (fdS l c).1.2.1, .int .u8 (fdS l c).1.2.2], .int .i64 (fdS l c).2.1, .int .i64 (fdS l c).2.2]) ([]) = (
1 = 1 ∧ iI 0 = 0 ∧ iI 0 = 0 ∧ iI 0 = 0 ∧ c = c ∧ 0 = 0 ∧ Cont.vals (flatT l) = Cont.vals (flatT l) ∧ List.length l = List.length l ∧ (↑(List.length l) : Int) = (↑(List.length l) : Int) ∧ iI 0 = 0 ∧ (∃
(n : Nat), 0 = (↑n : Int) ∧ n ≤ List.length l ∧ fdS (List.drop n l) c = fdS l c) ∧ ∀ (b : L1), (∃ (n : Nat), b.i = (↑n : Int) ∧ n ≤ List.length l ∧ fdS (List.drop n l) c = fdS l c) → (ltb b.i
(↑(List.length l) : Int) = true → leb 0 b.i = true ∧ ltb b.i (↑(List.length l) : Int) = true ∧ ltn 0 (Cont.size (Cont.vals (flatT l))) = true ∧ (List.drop (Int.toNat b.i * 4) (flatT l))[0]? = some
(AV.int IntKind.i64 (tX l b.i)) ∧ (List.drop (Int.toNat b.i * 4) (flatT l))[1]? = some (AV.int IntKind.i64 (tY l b.i)) ∧ (List.drop (Int.toNat b.i * 4) (flatT l))[2]? = some (AV.int IntKind.u8 (tQ l
b.i)) ∧ (List.drop (Int.toNat b.i * 4) (flatT l))[3]? = some (AV.imm (Cont.ints IntKind.i64 (tK l b.i)) (List.length (tK l b.i)) none) ∧ (List.length (tK l b.i) = List.length (tK l b.i) ∧ smK (tK l
b.i)) ∧ (leb 0 (ixI (tK l b.i) c 0) = true → tX l b.i = (fdS l c).fst.fst ∧ tY l b.i = (fdS l c).fst.snd.fst ∧ tQ l b.i = (fdS l c).fst.snd.snd ∧ ixI (tK l b.i) c 0 = (fdS l c).snd.fst ∧ 0 = (fdS l
c).snd.snd ∧ True) ∧ (leb 0 (ixI (tK l b.i) c 0) = false → inR IntKind.i64 (b.i + 1) = true ∧ 1 = 1 ∧ iI 0 = 0 ∧ iI 0 = 0 ∧ iI 0 = 0 ∧ c = c ∧ 0 = 0 ∧ Cont.vals (flatT l) = Cont.vals (flatT l) ∧
List.length l = List.length l ∧ (↑(List.length l) : Int) = (↑(List.length l) : Int) ∧ b.i + 1 = b.i + 1 ∧ (∃ (n : Nat), b.i + 1 = (↑n : Int) ∧ n ≤ List.length l ∧ fdS (List.drop n l) c = fdS l c) ∧
List.length l - Int.toNat (b.i + 1) < List.length l - Int.toNat b.i ∧ True)) ∧ (ltb b.i (↑(List.length l) : Int) = false → 0 = (fdS l c).fst.fst ∧ 0 = (fdS l c).fst.snd.fst ∧ 0 = (fdS l c).fst.snd.snd
∧ 0 = (fdS l c).snd.fst ∧ 7 = (fdS l c).snd.snd ∧ True)) := by kernel_rfl

theorem ob_o17 (l : List Sk) : fnP (T0) G 10000 fe17 (.r [] 0 (.r [] 0 (.r [] 0 (.lp (l17 l) [] [] (fun b => (.r [] 0 (.cnd (.r [(321, .auto, Dr.val (tV l b.i))] 128 (.r [] 1 (.r [] 0 .nil))) (.r [] 0 .nil)))))))) ([lsk l]) ([.int .i64 (hgt l : Nat)]) ([]) = (
iI 0 = 0 ∧ Cont.vals (flatT l) = Cont.vals (flatT l) ∧ List.length l = List.length l ∧ (↑(List.length l) : Int) = (↑(List.length l) : Int) ∧ iI 0 = 0 ∧ (∃ (n : Nat), 0 = (↑n : Int) ∧ n ≤ List.length l
∧ 0 = (↑(hgt (List.take n l)) : Int)) ∧ ∀ (b : L17), (∃ (n : Nat), b.i = (↑n : Int) ∧ n ≤ List.length l ∧ b.m = (↑(hgt (List.take n l)) : Int)) → (ltb b.i (↑(List.length l) : Int) = true → leb 0 b.i =
true ∧ ltb b.i (↑(List.length l) : Int) = true ∧ ltn 0 (Cont.size (Cont.vals (flatT l))) = true ∧ (List.drop (Int.toNat b.i * 4) (flatT l))[0]? = some (AV.int IntKind.i64 (tX l b.i)) ∧ (List.drop
(Int.toNat b.i * 4) (flatT l))[1]? = some (AV.int IntKind.i64 (tY l b.i)) ∧ (List.drop (Int.toNat b.i * 4) (flatT l))[2]? = some (AV.int IntKind.u8 (tQ l b.i)) ∧ (List.drop (Int.toNat b.i * 4) (flatT
l))[3]? = some (AV.imm (Cont.ints IntKind.i64 (tK l b.i)) (List.length (tK l b.i)) none) ∧ inR IntKind.i64 (b.i + 1) = true ∧ ((if (↑(List.length (tK l b.i)) : Int) > b.m then (↑(List.length (tK l
b.i)) : Int) else b.m) = if (↑(List.length (tK l b.i)) : Int) > b.m then (↑(List.length (tK l b.i)) : Int) else b.m) ∧ Cont.vals (flatT l) = Cont.vals (flatT l) ∧ List.length l = List.length l ∧
(↑(List.length l) : Int) = (↑(List.length l) : Int) ∧ b.i + 1 = b.i + 1 ∧ (∃ (n : Nat), b.i + 1 = (↑n : Int) ∧ n ≤ List.length l ∧ (if (↑(List.length (tK l b.i)) : Int) > b.m then (↑(List.length (tK l
b.i)) : Int) else b.m) = (↑(hgt (List.take n l)) : Int)) ∧ List.length l - Int.toNat (b.i + 1) < List.length l - Int.toNat b.i ∧ True) ∧ (ltb b.i (↑(List.length l) : Int) = false → b.m = (↑(hgt l) :
Int) ∧ True)) := by kernel_rfl

theorem ob_o18p (l : List Sk) (x y q : Int) : fnP (TH18) G 10000 fe18 (.r [] 0 (.r [] 0 (.lp (l18 l (x, y, q)) [] [] (fun b => (.r [] 0 (.cnd (.r [(257, .auto, Dr.val (tV l b.i))] 128 (.r [] 3 (.cnd (.r [(387, .auto, Dr.heap)] 1 .nil) (.r [] 0 .nil)))) (.r [] 0 .nil))))))) ([lsk l, .agg [.int .i64 x, .int .i64 y, .int .u8 q]]) ([.fullc 0 (atL l (x, y, q)).length (atL l (x, y, q)).length]) ([bkI (atL l (x, y, q)) none]) = (
1 = 1 ∧ x = x ∧ y = y ∧ q = q ∧ 0 = 0 ∧ Cont.vals (flatT l) = Cont.vals (flatT l) ∧ List.length l = List.length l ∧ (↑(List.length l) : Int) = (↑(List.length l) : Int) ∧ iI 0 = 0 ∧ (∃ (n : Nat), 0 =
(↑n : Int) ∧ n ≤ List.length l ∧ atL (List.drop n l) (x, y, q) = atL l (x, y, q)) ∧ ∀ (b : L1), (∃ (n : Nat), b.i = (↑n : Int) ∧ n ≤ List.length l ∧ atL (List.drop n l) (x, y, q) = atL l (x, y, q)) →
(ltb b.i (↑(List.length l) : Int) = true → leb 0 b.i = true ∧ ltb b.i (↑(List.length l) : Int) = true ∧ ltn 0 (Cont.size (Cont.vals (flatT l))) = true ∧ (List.drop (Int.toNat b.i * 4) (flatT l))[0]? =
some (AV.int IntKind.i64 (tX l b.i)) ∧ (List.drop (Int.toNat b.i * 4) (flatT l))[1]? = some (AV.int IntKind.i64 (tY l b.i)) ∧ (List.drop (Int.toNat b.i * 4) (flatT l))[2]? = some (AV.int IntKind.u8
(tQ l b.i)) ∧ (List.drop (Int.toNat b.i * 4) (flatT l))[3]? = some (AV.imm (Cont.ints IntKind.i64 (tK l b.i)) (List.length (tK l b.i)) none) ∧ ((tX l b.i == x && (tY l b.i == y && tQ l b.i == q)) =
true → (List.length (tK l b.i) = List.length (tK l b.i) ∧ smK (tK l b.i) ∧ 0 < List.length (tK l b.i)) ∧ ([(24704, HO.blk (Blk.mk (Cont.ints IntKind.i64 (tK l b.i)) 1 (List.length (tK l b.i)) none
none true false))] = [(24704, HO.blk (Blk.mk (Cont.ints IntKind.i64 (tK l b.i)) 1 (List.length (tK l b.i)) none none true false))] ∧ List.length (tK l b.i) = List.length (tK l b.i)) ∧ List.length (tK
l b.i) = List.length (atL l (x, y, q)) ∧ tK l b.i = atL l (x, y, q) ∧ List.length (tK l b.i) = List.length (atL l (x, y, q)) ∧ List.length (tK l b.i) = List.length (atL l (x, y, q)) ∧ True) ∧ ((tX l
b.i == x && (tY l b.i == y && tQ l b.i == q)) = false → inR IntKind.i64 (b.i + 1) = true ∧ 1 = 1 ∧ x = x ∧ y = y ∧ q = q ∧ 0 = 0 ∧ Cont.vals (flatT l) = Cont.vals (flatT l) ∧ List.length l =
List.length l ∧ (↑(List.length l) : Int) = (↑(List.length l) : Int) ∧ b.i + 1 = b.i + 1 ∧ (∃ (n : Nat), b.i + 1 = (↑n : Int) ∧ n ≤ List.length l ∧ atL (List.drop n l) (x, y, q) = atL l (x, y, q)) ∧
List.length l - Int.toNat (b.i + 1) < List.length l - Int.toNat b.i ∧ True)) ∧ (ltb b.i (↑(List.length l) : Int) = false → False)) := by kernel_rfl

theorem ob_o18f (l : List Sk) (x y q : Int) : fnP (TH18f) G 10000 fe18 (.r [] 0 (.r [] 0 (.lp (l18 l (x, y, q)) [] [] (fun b => (.r [] 0 (.cnd (.r [(257, .auto, Dr.val (tV l b.i))] 128 (.r [] 3 (.cnd (.r [] 1 .nil) (.r [] 0 .nil)))) (.r [] 0 .nil))))))) ([lsk l, .agg [.int .i64 x, .int .i64 y, .int .u8 q]]) ([layC (atL l (x, y, q))]) ([]) = (
1 = 1 ∧ x = x ∧ y = y ∧ q = q ∧ 0 = 0 ∧ Cont.vals (flatT l) = Cont.vals (flatT l) ∧ List.length l = List.length l ∧ (↑(List.length l) : Int) = (↑(List.length l) : Int) ∧ iI 0 = 0 ∧ (∃ (n : Nat), 0 =
(↑n : Int) ∧ n ≤ List.length l ∧ atL (List.drop n l) (x, y, q) = atL l (x, y, q)) ∧ ∀ (b : L1), (∃ (n : Nat), b.i = (↑n : Int) ∧ n ≤ List.length l ∧ atL (List.drop n l) (x, y, q) = atL l (x, y, q)) →
(ltb b.i (↑(List.length l) : Int) = true → leb 0 b.i = true ∧ ltb b.i (↑(List.length l) : Int) = true ∧ ltn 0 (Cont.size (Cont.vals (flatT l))) = true ∧ (List.drop (Int.toNat b.i * 4) (flatT l))[0]? =
some (AV.int IntKind.i64 (tX l b.i)) ∧ (List.drop (Int.toNat b.i * 4) (flatT l))[1]? = some (AV.int IntKind.i64 (tY l b.i)) ∧ (List.drop (Int.toNat b.i * 4) (flatT l))[2]? = some (AV.int IntKind.u8
(tQ l b.i)) ∧ (List.drop (Int.toNat b.i * 4) (flatT l))[3]? = some (AV.imm (Cont.ints IntKind.i64 (tK l b.i)) (List.length (tK l b.i)) none) ∧ ((tX l b.i == x && (tY l b.i == y && tQ l b.i == q)) =
true → (List.length (tK l b.i) = List.length (tK l b.i) ∧ smK (tK l b.i)) ∧ (List.length (tK l b.i) = List.length (tK l b.i) ∧ smK (tK l b.i)) ∧ Cont.ints IntKind.i64 (tK l b.i) = Cont.ints
IntKind.i64 (atL l (x, y, q)) ∧ List.length (tK l b.i) = List.length (atL l (x, y, q)) ∧ List.length (tK l b.i) = List.length (atL l (x, y, q)) ∧ True) ∧ ((tX l b.i == x && (tY l b.i == y && tQ l b.i
== q)) = false → inR IntKind.i64 (b.i + 1) = true ∧ 1 = 1 ∧ x = x ∧ y = y ∧ q = q ∧ 0 = 0 ∧ Cont.vals (flatT l) = Cont.vals (flatT l) ∧ List.length l = List.length l ∧ (↑(List.length l) : Int) =
(↑(List.length l) : Int) ∧ b.i + 1 = b.i + 1 ∧ (∃ (n : Nat), b.i + 1 = (↑n : Int) ∧ n ≤ List.length l ∧ atL (List.drop n l) (x, y, q) = atL l (x, y, q)) ∧ List.length l - Int.toNat (b.i + 1) <
List.length l - Int.toNat b.i ∧ True)) ∧ (ltb b.i (↑(List.length l) : Int) = false → Cont.size (Cont.ints IntKind.i64 (atL l (x, y, q))) = 0 ∧ List.length (atL l (x, y, q)) = 0 ∧ List.length (atL l
(x, y, q)) = 0 ∧ True)) := by kernel_rfl

theorem ob_o19 (a b : List Int) (c : Nat) : fnP (T0) G 10000 fe19 (.r [] 0 (.rs 6 [] 0 11 (.r [] 3 (.lit (.r [] 0 .nil))) (.r [] 3 (.cnd (.r [] 0 .nil) (.r [] 0 (.lp (l19 a b) [] [] (fun b_1 => (.r [] 0 (.cnd (.r [] 0 (.cnd (.r [] 0 .nil) (.r [] 0 .nil))) (.r [] 0 .nil)))))))))) ([.imm (.ints .i64 a) a.length (some c), layV b]) ([.int .i64 (bI (Nat.beq c a.length && eqK a b) 1 0)]) ([]) = (
(((↑(List.length a) : Int) != (↑(List.length b) : Int)) = true → 0 = bI (Nat.beq c (List.length a) && eqK a b) 1 0 ∧ True) ∧ (((↑(List.length a) : Int) != (↑(List.length b) : Int)) = false → (((↑c :
Int) != (↑(List.length a) : Int)) = true → 0 = bI (Nat.beq c (List.length a) && eqK a b) 1 0 ∧ True) ∧ (((↑c : Int) != (↑(List.length a) : Int)) = false → Cont.ints IntKind.i64 a = Cont.ints
IntKind.i64 a ∧ List.length a = List.length a ∧ c = c ∧ Cont.ints IntKind.i64 b = Cont.ints IntKind.i64 b ∧ List.length b = List.length b ∧ iI 0 = 0 ∧ (∃ (n : Nat), 0 = (↑n : Int) ∧ n ≤ List.length a
∧ eqK (List.drop n a) (List.drop n b) = eqK a b) ∧ ∀ (b_1 : L1), (∃ (n : Nat), b_1.i = (↑n : Int) ∧ n ≤ List.length a ∧ eqK (List.drop n a) (List.drop n b) = eqK a b) → (ltb b_1.i (↑(List.length a) :
Int) = true → leb 0 b_1.i = true ∧ ltb b_1.i (↑(List.length a) : Int) = true ∧ ltn 0 (Cont.size (Cont.ints IntKind.i64 a)) = true ∧ ltn 0 (Cont.size (Cont.ints IntKind.i64 (List.drop (Int.toNat b_1.i)
a))) = true ∧ leb 0 b_1.i = true ∧ ltb b_1.i (↑(List.length b) : Int) = true ∧ ltn 0 (Cont.size (Cont.ints IntKind.i64 b)) = true ∧ ltn 0 (Cont.size (Cont.ints IntKind.i64 (List.drop (Int.toNat b_1.i)
b))) = true ∧ ((List.getD (List.drop (Int.toNat b_1.i) a) 0 0 != List.getD (List.drop (Int.toNat b_1.i) b) 0 0) = true → 0 = bI (Nat.beq c (List.length a) && eqK a b) 1 0 ∧ True) ∧ ((List.getD
(List.drop (Int.toNat b_1.i) a) 0 0 != List.getD (List.drop (Int.toNat b_1.i) b) 0 0) = false → inR IntKind.i64 (b_1.i + 1) = true ∧ Cont.ints IntKind.i64 a = Cont.ints IntKind.i64 a ∧ List.length a =
List.length a ∧ c = c ∧ Cont.ints IntKind.i64 b = Cont.ints IntKind.i64 b ∧ List.length b = List.length b ∧ b_1.i + 1 = b_1.i + 1 ∧ (∃ (n : Nat), b_1.i + 1 = (↑n : Int) ∧ n ≤ List.length a ∧ eqK
(List.drop n a) (List.drop n b) = eqK a b) ∧ List.length a - Int.toNat (b_1.i + 1) < List.length a - Int.toNat b_1.i ∧ True)) ∧ (ltb b_1.i (↑(List.length a) : Int) = false → 1 = bI (Nat.beq c
(List.length a) && eqK a b) 1 0 ∧ True)))) := by kernel_rfl

theorem ob_d_19 (a b : List Int) : fnD (T0) G 10000 (fe19) (.r [] 0 (.rs 6 [] 0 11 (.r [] 3 (.lit (.r [] 0 .nil))) (.r [] 6 (.cnd (.r [] 0 .nil) (.r [] 0 (.lp (l19 a b) [] [] (fun b_1 => (.r [] 0 (.cnd (.r [] 0 (.cnd (.r [] 0 .nil) (.r [] 0 .nil))) (.r [] 0 .nil)))))))))) ([.fullc 90240 a.length a.length, layV b]) ([(90240, .blk (bkI a none))]) ([.int .i64 (bI (eqK a b) 1 0)]) ([]) = (
List.length a = List.length a ∧ (((↑(List.length a) : Int) != (↑(List.length b) : Int)) = true → List.length a = List.length a ∧ a = a ∧ 0 = bI (eqK a b) 1 0 ∧ True) ∧ (((↑(List.length a) : Int) !=
(↑(List.length b) : Int)) = false → List.length a = List.length a ∧ (((↑(List.length a) : Int) != (↑(List.length a) : Int)) = true → List.length a = List.length a ∧ a = a ∧ 0 = bI (eqK a b) 1 0 ∧
True) ∧ (((↑(List.length a) : Int) != (↑(List.length a) : Int)) = false → List.length a = List.length a ∧ a = a ∧ List.length a = List.length a ∧ List.length a = List.length a ∧ Cont.ints IntKind.i64
b = Cont.ints IntKind.i64 b ∧ List.length b = List.length b ∧ iI 0 = 0 ∧ (∃ (n : Nat), 0 = (↑n : Int) ∧ n ≤ List.length a ∧ eqK (List.drop n a) (List.drop n b) = eqK a b) ∧ ∀ (b_1 : L1), (∃ (n : Nat),
b_1.i = (↑n : Int) ∧ n ≤ List.length a ∧ eqK (List.drop n a) (List.drop n b) = eqK a b) → List.length a = List.length a ∧ (ltb b_1.i (↑(List.length a) : Int) = true → leb 0 b_1.i = true ∧ ltb b_1.i
(↑(List.length a) : Int) = true ∧ List.length a = List.length a ∧ List.length a = List.length a ∧ ltn (Int.toNat b_1.i) (Cont.size (Cont.ints IntKind.i64 a)) = true ∧ leb 0 b_1.i = true ∧ ltb b_1.i
(↑(List.length b) : Int) = true ∧ ltn 0 (Cont.size (Cont.ints IntKind.i64 b)) = true ∧ ltn 0 (Cont.size (Cont.ints IntKind.i64 (List.drop (Int.toNat b_1.i) b))) = true ∧ ((List.getD a (Int.toNat
b_1.i) 0 != List.getD (List.drop (Int.toNat b_1.i) b) 0 0) = true → List.length a = List.length a ∧ a = a ∧ 0 = bI (eqK a b) 1 0 ∧ True) ∧ ((List.getD a (Int.toNat b_1.i) 0 != List.getD (List.drop
(Int.toNat b_1.i) b) 0 0) = false → inR IntKind.i64 (b_1.i + 1) = true ∧ List.length a = List.length a ∧ a = a ∧ List.length a = List.length a ∧ List.length a = List.length a ∧ Cont.ints IntKind.i64 b
= Cont.ints IntKind.i64 b ∧ List.length b = List.length b ∧ b_1.i + 1 = b_1.i + 1 ∧ (∃ (n : Nat), b_1.i + 1 = (↑n : Int) ∧ n ≤ List.length a ∧ eqK (List.drop n a) (List.drop n b) = eqK a b) ∧
List.length a - Int.toNat (b_1.i + 1) < List.length a - Int.toNat b_1.i ∧ True)) ∧ (ltb b_1.i (↑(List.length a) : Int) = false → List.length a = List.length a ∧ a = a ∧ 1 = bI (eqK a b) 1 0 ∧ True)))) := by kernel_rfl

theorem ob_o69 (x y q u v p : Int) (a b : List Int) : fnP (TH69) G 10000 fe69 (.r [] 0 (.rs 6 [] 3 10 (.r [] 27 .nil) (.r [] 3 .nil))) ([.agg [.int .i64 x, .int .i64 y, .int .u8 q, layV a], .agg [.int .i64 u, .int .i64 v, .int .u8 p, layV b]]) ([.bool (eqCl (x, y, q) (u, v, p) && eqK a b)]) ([]) = (
((x == u && (y == v && q == p)) = true → (List.length a = List.length a ∧ List.length b = List.length b ∧ smK a ∧ smK b) ∧ eqK a b = (eqCl (x, y, q) (u, v, p) && eqK a b) ∧ True) ∧ ((x == u && (y == v
&& q == p)) = false → false = (eqCl (x, y, q) (u, v, p) && eqK a b) ∧ True)) := by kernel_rfl

theorem ob_o68 (a b : List Sk) : fnP (TH68) G 10000 fe68 (.r [] 0 (.r [] 0 (.cnd (.r [] 0 .nil) (.r [] 0 (.lp (l68 a b) [] [] (fun b_1 => (.r [] 0 (.cnd (.r [(386, .auto, Dr.val (tV a b_1.i))] 128 (.r [(451, .auto, Dr.val (tV b b_1.i))] 128 (.r [] 3 (.cnd (.r [] 0 .nil) (.r [] 0 .nil))))) (.r [] 0 .nil))))))))) ([lsk a, lsk b, .fn 69 [] []]) ([.bool (eqT a b)]) ([]) = (
(((↑(List.length a) : Int) != (↑(List.length b) : Int)) = true → false = eqT a b ∧ True) ∧ (((↑(List.length a) : Int) != (↑(List.length b) : Int)) = false → Cont.vals (flatT b) = Cont.vals (flatT b) ∧
List.length b = List.length b ∧ Cont.vals (flatT a) = Cont.vals (flatT a) ∧ List.length a = List.length a ∧ (↑(List.length a) : Int) = (↑(List.length a) : Int) ∧ iI 0 = 0 ∧ (∃ (n : Nat), 0 = (↑n :
Int) ∧ n ≤ List.length a ∧ eqT (List.drop n a) (List.drop n b) = eqT a b) ∧ ∀ (b_1 : L1), (∃ (n : Nat), b_1.i = (↑n : Int) ∧ n ≤ List.length a ∧ eqT (List.drop n a) (List.drop n b) = eqT a b) → (ltb
b_1.i (↑(List.length a) : Int) = true → leb 0 b_1.i = true ∧ ltb b_1.i (↑(List.length a) : Int) = true ∧ ltn 0 (Cont.size (Cont.vals (flatT a))) = true ∧ (List.drop (Int.toNat b_1.i * 4) (flatT
a))[0]? = some (AV.int IntKind.i64 (tX a b_1.i)) ∧ (List.drop (Int.toNat b_1.i * 4) (flatT a))[1]? = some (AV.int IntKind.i64 (tY a b_1.i)) ∧ (List.drop (Int.toNat b_1.i * 4) (flatT a))[2]? = some
(AV.int IntKind.u8 (tQ a b_1.i)) ∧ (List.drop (Int.toNat b_1.i * 4) (flatT a))[3]? = some (AV.imm (Cont.ints IntKind.i64 (tK a b_1.i)) (List.length (tK a b_1.i)) none) ∧ leb 0 b_1.i = true ∧ ltb b_1.i
(↑(List.length b) : Int) = true ∧ ltn 0 (Cont.size (Cont.vals (flatT b))) = true ∧ (List.drop (Int.toNat b_1.i * 4) (flatT b))[0]? = some (AV.int IntKind.i64 (tX b b_1.i)) ∧ (List.drop (Int.toNat
b_1.i * 4) (flatT b))[1]? = some (AV.int IntKind.i64 (tY b b_1.i)) ∧ (List.drop (Int.toNat b_1.i * 4) (flatT b))[2]? = some (AV.int IntKind.u8 (tQ b b_1.i)) ∧ (List.drop (Int.toNat b_1.i * 4) (flatT
b))[3]? = some (AV.imm (Cont.ints IntKind.i64 (tK b b_1.i)) (List.length (tK b b_1.i)) none) ∧ (List.length (tK a b_1.i) = List.length (tK a b_1.i) ∧ List.length (tK b b_1.i) = List.length (tK b
b_1.i) ∧ smK (tK a b_1.i) ∧ smK (tK b b_1.i)) ∧ ((!(eqCl (tX a b_1.i, tY a b_1.i, tQ a b_1.i) (tX b b_1.i, tY b b_1.i, tQ b b_1.i) && eqK (tK a b_1.i) (tK b b_1.i))) = true → false = eqT a b ∧ True) ∧
((!(eqCl (tX a b_1.i, tY a b_1.i, tQ a b_1.i) (tX b b_1.i, tY b b_1.i, tQ b b_1.i) && eqK (tK a b_1.i) (tK b b_1.i))) = false → inR IntKind.i64 (b_1.i + 1) = true ∧ Cont.vals (flatT b) = Cont.vals
(flatT b) ∧ List.length b = List.length b ∧ Cont.vals (flatT a) = Cont.vals (flatT a) ∧ List.length a = List.length a ∧ (↑(List.length a) : Int) = (↑(List.length a) : Int) ∧ b_1.i + 1 = b_1.i + 1 ∧ (∃
(n : Nat), b_1.i + 1 = (↑n : Int) ∧ n ≤ List.length a ∧ eqT (List.drop n a) (List.drop n b) = eqT a b) ∧ List.length a - Int.toNat (b_1.i + 1) < List.length a - Int.toNat b_1.i ∧ True)) ∧ (ltb b_1.i
(↑(List.length a) : Int) = false → true = eqT a b ∧ True))) := by kernel_rfl

theorem ob_o20 (a b : List Sk) : fnP (TH20) G 10000 fe20 (.r [] 0 (.r [] 0 .nil)) ([lsk a, lsk b]) ([.bool (eqT a b)]) ([]) = (
(okT (flatT a) (List.length a) ∧ okT (flatT b) (List.length b)) ∧ eqT (unT (flatT a)) (unT (flatT b)) = eqT a b ∧ True) := by kernel_rfl

theorem ob_o15 (l : List Sk) : fnP (TH15) G 10000 fe15 (.r [] 0 (.r [] 0 (.r [] 0 (.gho 3 9001 4 (Cont.vals []) (.lp (l15 l) [] [] (fun b => (.rs 5 [] 0 11 (.r [] 3 (.cnd (.r [(388, .auto, Dr.val [AV.int IntKind.i8 (tX l b.i)]), (394, .auto, Dr.val [AV.int IntKind.i8 (tY l b.i)]), (400, .auto, Dr.val [AV.int IntKind.u8 (tQ l b.i)])] 114688 (.r [] 0 (.ghc 404 3 9002 1 (Cont.ints IntKind.i64 []) (.lp (m15 l b.i) [] [] (fun b_1 => (.rs 9 [(517, .auto, Dr.val [pV l b.i])] 0 45 (.r [] 3 (.cnd (.r [(646, .auto, Dr.val [pV l b.i])] 12289 (.r [] 0 .nil)) (.frz 5 0 (.r [] 9 (.r [] 0 .nil))))) (.r [] 3 (.lit (.frz 5 0 (.r [] 9 (.r [] 0 .nil))))))))))) (.r [] 0 (.frz 2 0 .nil)))) (.r [] 3 (.lit (.r [] 0 (.frz 2 0 .nil))))))))))) ([.imm (.vals (flatR l)) l.length none]) ([.imm (.vals (flatT (stO l))) (stO l).length none]) ([]) = (
0 = 0 ∧ ([] : List AV) = [] ∧ Cont.vals (flatR l) = Cont.vals (flatR l) ∧ List.length l = List.length l ∧ 0 = 0 ∧ iI 0 = 0 ∧ (∃ (n : Nat), 0 = (↑n : Int) ∧ n ≤ List.length l ∧ n ≤ 20 ∧ [] = flatT
(List.map stk (List.take n l)) ∧ 0 = n) ∧ ∀ (b : L15), (∃ (n : Nat), b.i = (↑n : Int) ∧ n ≤ List.length l ∧ n ≤ 20 ∧ b.o = flatT (List.map stk (List.take n l)) ∧ b.n = n) → (ltb b.i (↑(List.length l)
: Int) = true → (ltb b.i 20 = true → leb 0 b.i = true ∧ ltb b.i (↑(List.length l) : Int) = true ∧ ltn 0 (Cont.size (Cont.vals (flatR l))) = true ∧ (List.drop 0 (List.drop (Int.toNat b.i * 4) (flatR
l)))[0]? = some (AV.int IntKind.i8 (tX l b.i)) ∧ inR IntKind.i64 (tX l b.i) = true ∧ leb 0 b.i = true ∧ ltb b.i (↑(List.length l) : Int) = true ∧ ltn 0 (Cont.size (Cont.vals (flatR l))) = true ∧
(List.drop 1 (List.drop (Int.toNat b.i * 4) (flatR l)))[0]? = some (AV.int IntKind.i8 (tY l b.i)) ∧ inR IntKind.i64 (tY l b.i) = true ∧ leb 0 b.i = true ∧ ltb b.i (↑(List.length l) : Int) = true ∧ ltn
0 (Cont.size (Cont.vals (flatR l))) = true ∧ (List.drop 2 (List.drop (Int.toNat b.i * 4) (flatR l)))[0]? = some (AV.int IntKind.u8 (tQ l b.i)) ∧ b.n = b.n ∧ b.o = b.o ∧ 1 = 1 ∧ tX l b.i = tX l b.i ∧
tY l b.i = tY l b.i ∧ Int.tmod (tQ l b.i) 4 = Int.tmod (tQ l b.i) 4 ∧ 0 = 0 ∧ 0 = 0 ∧ iL [] = [] ∧ Cont.vals (flatR l) = Cont.vals (flatR l) ∧ List.length l = List.length l ∧ b.n = b.n ∧ b.i = b.i ∧
b.i = b.i ∧ ltb b.i 20 = ltb b.i 20 ∧ 0 = 0 ∧ iI 0 = 0 ∧ (∃ (n : Nat), 0 = (↑n : Int) ∧ n ≤ List.length (tK l b.i) ∧ n ≤ 8 ∧ [] = List.take n (tK l b.i) ∧ 0 = n) ∧ ∀ (b_1 : M15), (∃ (n : Nat), b_1.k =
(↑n : Int) ∧ n ≤ List.length (tK l b.i) ∧ n ≤ 8 ∧ b_1.o = List.take n (tK l b.i) ∧ b_1.n = n) → leb 0 b.i = true ∧ ltb b.i (↑(List.length l) : Int) = true ∧ ltn 0 (Cont.size (Cont.vals (flatR l))) =
true ∧ (List.drop 3 (List.drop (Int.toNat b.i * 4) (flatR l)))[0]? = some (AV.imm (Cont.ints IntKind.u8 (tK l b.i)) (List.length (tK l b.i)) none) ∧ (ltb b_1.k (↑(List.length (tK l b.i)) : Int) = true
→ (ltb b_1.k 8 = true → leb 0 b.i = true ∧ ltb b.i (↑(List.length l) : Int) = true ∧ ltn 0 (Cont.size (Cont.vals (flatR l))) = true ∧ (List.drop 3 (List.drop (Int.toNat b.i * 4) (flatR l)))[0]? = some
(AV.imm (Cont.ints IntKind.u8 (tK l b.i)) (List.length (tK l b.i)) none) ∧ leb 0 b_1.k = true ∧ ltb b_1.k (↑(List.length (tK l b.i)) : Int) = true ∧ ltn 0 (Cont.size (Cont.ints IntKind.u8 (tK l b.i)))
= true ∧ ltn 0 (Cont.size (Cont.ints IntKind.u8 (List.drop (Int.toNat b_1.k) (tK l b.i)))) = true ∧ inR IntKind.i64 (List.getD (List.drop (Int.toNat b_1.k) (tK l b.i)) 0 0) = true ∧ b_1.n = b_1.n ∧
len' ((b_1.n + 1) * 8) 140737488355328 = true ∧ inR IntKind.i64 (b_1.k + 1) = true ∧ b.n = b.n ∧ b.o = b.o ∧ 1 = 1 ∧ tX l b.i = tX l b.i ∧ tY l b.i = tY l b.i ∧ Int.tmod (tQ l b.i) 4 = Int.tmod (tQ l
b.i) 4 ∧ b_1.n + 1 = b_1.n + 1 ∧ b_1.n + 1 = b_1.n + 1 ∧ b_1.o ++ [List.getD (List.drop (Int.toNat b_1.k) (tK l b.i)) 0 0] = b_1.o ++ [List.getD (List.drop (Int.toNat b_1.k) (tK l b.i)) 0 0] ∧
Cont.vals (flatR l) = Cont.vals (flatR l) ∧ List.length l = List.length l ∧ b.n = b.n ∧ b.i = b.i ∧ b.i = b.i ∧ ltb b.i 20 = ltb b.i 20 ∧ 0 = 0 ∧ b_1.k + 1 = b_1.k + 1 ∧ (∃ (n : Nat), b_1.k + 1 = (↑n
: Int) ∧ n ≤ List.length (tK l b.i) ∧ n ≤ 8 ∧ b_1.o ++ [List.getD (List.drop (Int.toNat b_1.k) (tK l b.i)) 0 0] = List.take n (tK l b.i) ∧ b_1.n + 1 = n) ∧ List.length (tK l b.i) - Int.toNat (b_1.k +
1) < List.length (tK l b.i) - Int.toNat b_1.k ∧ True) ∧ (ltb b_1.k 8 = false → b_1.n = b_1.n ∧ b.n = b.n ∧ len' ((b.n + 1) * 48) 140737488355328 = true ∧ inR IntKind.i64 (b.i + 1) = true ∧ b.n + 1 =
b.n + 1 ∧ b.o ++ [AV.int IntKind.i64 (tX l b.i), AV.int IntKind.i64 (tY l b.i), AV.int IntKind.u8 (Int.tmod (tQ l b.i) 4), AV.imm (Cont.ints IntKind.i64 b_1.o) b_1.n none] = b.o ++ [AV.int IntKind.i64
(tX l b.i), AV.int IntKind.i64 (tY l b.i), AV.int IntKind.u8 (Int.tmod (tQ l b.i) 4), AV.imm (Cont.ints IntKind.i64 b_1.o) b_1.n none] ∧ Cont.vals (flatR l) = Cont.vals (flatR l) ∧ List.length l =
List.length l ∧ b.n + 1 = b.n + 1 ∧ b.i + 1 = b.i + 1 ∧ (∃ (n : Nat), b.i + 1 = (↑n : Int) ∧ n ≤ List.length l ∧ n ≤ 20 ∧ b.o ++ [AV.int IntKind.i64 (tX l b.i), AV.int IntKind.i64 (tY l b.i), AV.int
IntKind.u8 (Int.tmod (tQ l b.i) 4), AV.imm (Cont.ints IntKind.i64 b_1.o) b_1.n none] = flatT (List.map stk (List.take n l)) ∧ b.n + 1 = n) ∧ List.length l - Int.toNat (b.i + 1) < List.length l -
Int.toNat b.i ∧ True)) ∧ (ltb b_1.k (↑(List.length (tK l b.i)) : Int) = false → b_1.n = b_1.n ∧ b.n = b.n ∧ len' ((b.n + 1) * 48) 140737488355328 = true ∧ inR IntKind.i64 (b.i + 1) = true ∧ b.n + 1 =
b.n + 1 ∧ b.o ++ [AV.int IntKind.i64 (tX l b.i), AV.int IntKind.i64 (tY l b.i), AV.int IntKind.u8 (Int.tmod (tQ l b.i) 4), AV.imm (Cont.ints IntKind.i64 b_1.o) b_1.n none] = b.o ++ [AV.int IntKind.i64
(tX l b.i), AV.int IntKind.i64 (tY l b.i), AV.int IntKind.u8 (Int.tmod (tQ l b.i) 4), AV.imm (Cont.ints IntKind.i64 b_1.o) b_1.n none] ∧ Cont.vals (flatR l) = Cont.vals (flatR l) ∧ List.length l =
List.length l ∧ b.n + 1 = b.n + 1 ∧ b.i + 1 = b.i + 1 ∧ (∃ (n : Nat), b.i + 1 = (↑n : Int) ∧ n ≤ List.length l ∧ n ≤ 20 ∧ b.o ++ [AV.int IntKind.i64 (tX l b.i), AV.int IntKind.i64 (tY l b.i), AV.int
IntKind.u8 (Int.tmod (tQ l b.i) 4), AV.imm (Cont.ints IntKind.i64 b_1.o) b_1.n none] = flatT (List.map stk (List.take n l)) ∧ b.n + 1 = n) ∧ List.length l - Int.toNat (b.i + 1) < List.length l -
Int.toNat b.i ∧ True)) ∧ (ltb b.i 20 = false → b.n = b.n ∧ Cont.vals b.o = Cont.vals (flatT (stO l)) ∧ b.n = List.length (stO l) ∧ True)) ∧ (ltb b.i (↑(List.length l) : Int) = false → b.n = b.n ∧
Cont.vals b.o = Cont.vals (flatT (stO l)) ∧ b.n = List.length (stO l) ∧ True)) := by kernel_rfl

end Go.Proofs.YtmnaghfndigfkaaDoor.X
