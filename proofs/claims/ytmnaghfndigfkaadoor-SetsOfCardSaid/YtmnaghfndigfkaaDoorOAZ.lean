/-
 What is to be shown of the functions (made by a program).
-/
import Derived.Test.YtmnaghfndigfkaaDoorDCZ
import Derived.KernelRfl
set_option maxRecDepth 1000000
set_option linter.unusedVariables false
namespace Go.Proofs.YtmnaghfndigfkaaDoor.X
open Go Go.Ab

theorem ob_o103 (x y q x' y' q' : Int) : fnP (T0) G 10000 fe103 (.r [] 0 (.rs 6 [] 3 10 (.r [] 3 (.lit (.r [] 0 .nil))) (.rs 6 [] 3 16 (.rs 6 [] 3 22 (.r [] 63 (.lit (.r [] 0 .nil))) (.rs 6 [] 3 28 (.r [] 1023 (.cnd (.r [] 0 .nil) (.r [] 0 .nil))) (.r [] 255 (.lit (.r [] 0 .nil))))) (.r [] 15 (.lit (.r [] 0 .nil)))))) ([.agg [.int .i64 x, .int .i64 y, .int .u8 q], .agg [.int .i64 x', .int .i64 y', .int .u8 q']]) ([.int .i64 (bI (ltC (x, y, q) (x', y', q')) 1 0)]) ([]) = (
(ltb y y' = true → 1 = bI (ltC (x, y, q) (x', y', q')) 1 0 ∧ True) ∧ (ltb y y' = false → ((y == y') = true → (ltb x x' = true → 1 = bI (ltC (x, y, q) (x', y', q')) 1 0 ∧ True) ∧ (ltb x x' = false →
((x == x') = true → (ltb q q' = true → 1 = bI (ltC (x, y, q) (x', y', q')) 1 0 ∧ True) ∧ (ltb q q' = false → 0 = bI (ltC (x, y, q) (x', y', q')) 1 0 ∧ True)) ∧ ((x == x') = false → 0 = bI (ltC (x, y,
q) (x', y', q')) 1 0 ∧ True))) ∧ ((y == y') = false → 0 = bI (ltC (x, y, q) (x', y', q')) 1 0 ∧ True))) := by kernel_rfl

theorem ob_o41 (x y q : Int) : fnP (T0) G 10000 fe41 (.r [] 0 (.rs 4 [] 1 6 (.r [] 255 (.lit (.r [] 0 .nil))) (.rs 5 [] 7 11 (.r [] 63 (.lit (.r [] 0 .nil))) (.rs 5 [] 7 16 (.r [] 15 (.lit (.r [] 0 .nil))) (.rs 5 [] 7 21 (.r [] 3 (.lit (.r [] 0 .nil))) (.r [] 7 (.cnd (.r [] 0 .nil) (.r [] 0 .nil)))))))) ([.agg [.int .i64 x, .int .i64 y, .int .u8 q]]) ([.int .i64 (bI (vldC (x, y, q)) 1 0)]) ([]) = (
(ltb x (-4096) = true → 0 = bI (vldC (x, y, q)) 1 0 ∧ True) ∧ (ltb x (-4096) = false → (ltb 4096 x = true → 0 = bI (vldC (x, y, q)) 1 0 ∧ True) ∧ (ltb 4096 x = false → (ltb y (-4096) = true → 0 = bI
(vldC (x, y, q)) 1 0 ∧ True) ∧ (ltb y (-4096) = false → (ltb 4096 y = true → 0 = bI (vldC (x, y, q)) 1 0 ∧ True) ∧ (ltb 4096 y = false → (ltb 3 q = true → 0 = bI (vldC (x, y, q)) 1 0 ∧ True) ∧ (ltb 3
q = false → 1 = bI (vldC (x, y, q)) 1 0 ∧ True)))))) := by kernel_rfl

theorem ob_o86 (x y q : Int) : fnP (T0) G 10000 fe86 (.r [] 0 (.rs 4 [] 1 6 (.r [] 255 (.lit (.r [] 0 .nil))) (.rs 5 [] 7 11 (.r [] 63 (.lit (.r [] 0 .nil))) (.rs 5 [] 7 16 (.r [] 15 (.lit (.r [] 0 .nil))) (.rs 5 [] 7 21 (.r [] 3 (.lit (.r [] 0 .nil))) (.r [] 7 (.cnd (.r [] 0 .nil) (.r [] 0 .nil)))))))) ([.agg [.int .i64 x, .int .i64 y, .int .u8 q]]) ([.int .i64 (bI (vldC (x, y, q)) 0 1)]) ([]) = (
(ltb x (-4096) = true → 1 = bI (vldC (x, y, q)) 0 1 ∧ True) ∧ (ltb x (-4096) = false → (ltb 4096 x = true → 1 = bI (vldC (x, y, q)) 0 1 ∧ True) ∧ (ltb 4096 x = false → (ltb y (-4096) = true → 1 = bI
(vldC (x, y, q)) 0 1 ∧ True) ∧ (ltb y (-4096) = false → (ltb 4096 y = true → 1 = bI (vldC (x, y, q)) 0 1 ∧ True) ∧ (ltb 4096 y = false → (ltb 3 q = true → 1 = bI (vldC (x, y, q)) 0 1 ∧ True) ∧ (ltb 3
q = false → 0 = bI (vldC (x, y, q)) 0 1 ∧ True)))))) := by kernel_rfl

theorem ob_o202 (x : Int) : fnP (T0) G 10000 fe202 (.r [] 0 (.r [] 0 .nil)) ([.int .i64 x]) ([.bool false]) ([]) = (
(x != x) = false ∧ True) := by kernel_rfl

theorem ob_o163 (x y : Int) : fnP (TB1) G 10000 fe163 (.r [] 0 (.r [] 1 (.r [] 1 (.r [] 0 (.lit (.r [] 0 (.lit (.r [] 0 (.cnd (.r [] 0 .nil) (.r [] 0 (.cnd (.r [] 0 .nil) (.r [] 0 .nil)))))))))))) ([.int .i64 x, .int .i64 y]) ([.int .i64 (cmpI x y)]) ([]) = (
(ltb x y = true → -1 = cmpI x y ∧ True) ∧ (ltb x y = false → (ltb y x = true → 1 = cmpI x y ∧ True) ∧ (ltb y x = false → 0 = cmpI x y ∧ True))) := by kernel_rfl

theorem ob_o127 (a b c d e f : Int) : fnP (TB2) G 10000 fe127 (.r [] 0 (.r [] 0 (.lp (l127 a b c d e f) [] [] (fun b_1 => (.r [] 0 (.cnd (.r [(257, .auto, Dr.val [AV.int IntKind.i64 (p3 a c e b_1.i), AV.int IntKind.i64 (p3 b d f b_1.i)])] 36 (.r [] 127 (.r [] 0 (.cnd (.r [] 0 .nil) (.r [] 0 .nil))))) (.r [] 0 .nil))))))) ([.imm (.vals [.int .i64 a, .int .i64 b, .int .i64 c, .int .i64 d, .int .i64 e, .int .i64 f]) 3 none]) ([.int .i64 (ord3 a b c d e f)]) ([]) = (
Cont.vals [AV.int IntKind.i64 a, AV.int IntKind.i64 b, AV.int IntKind.i64 c, AV.int IntKind.i64 d, AV.int IntKind.i64 e, AV.int IntKind.i64 f] = Cont.vals [AV.int IntKind.i64 a, AV.int IntKind.i64 b,
AV.int IntKind.i64 c, AV.int IntKind.i64 d, AV.int IntKind.i64 e, AV.int IntKind.i64 f] ∧ 3 = 3 ∧ iI 3 = 3 ∧ iI 0 = 0 ∧ ((iI 0 ≤ iI 0 ∧ iI 0 ≤ iI 3) ∧ (iI 1 ≤ iI 0 → cmpI a b = 0) ∧ (iI 2 ≤ iI 0 →
cmpI c d = 0) ∧ (iI 3 ≤ iI 0 → cmpI e f = 0)) ∧ ∀ (b_1 : L1), (0 ≤ b_1.i ∧ b_1.i ≤ 3) ∧ (1 ≤ b_1.i → cmpI a b = 0) ∧ (2 ≤ b_1.i → cmpI c d = 0) ∧ (3 ≤ b_1.i → cmpI e f = 0) → (ltb b_1.i 3 = true → leb
0 b_1.i = true ∧ ltb b_1.i 3 = true ∧ (List.drop (Int.toNat b_1.i * 2) [AV.int IntKind.i64 a, AV.int IntKind.i64 b, AV.int IntKind.i64 c, AV.int IntKind.i64 d, AV.int IntKind.i64 e, AV.int IntKind.i64
f])[0]? = some (AV.int IntKind.i64 (p3 a c e b_1.i)) ∧ (List.drop (Int.toNat b_1.i * 2) [AV.int IntKind.i64 a, AV.int IntKind.i64 b, AV.int IntKind.i64 c, AV.int IntKind.i64 d, AV.int IntKind.i64 e,
AV.int IntKind.i64 f])[1]? = some (AV.int IntKind.i64 (p3 b d f b_1.i)) ∧ ((cmpI (List.getD [p3 a c e b_1.i, p3 b d f b_1.i] 0 0) (List.getD [p3 a c e b_1.i, p3 b d f b_1.i] 1 0) != 0) = true → cmpI
(List.getD [p3 a c e b_1.i, p3 b d f b_1.i] 0 0) (List.getD [p3 a c e b_1.i, p3 b d f b_1.i] 1 0) = ord3 a b c d e f ∧ True) ∧ ((cmpI (List.getD [p3 a c e b_1.i, p3 b d f b_1.i] 0 0) (List.getD [p3 a
c e b_1.i, p3 b d f b_1.i] 1 0) != 0) = false → inR IntKind.i64 (b_1.i + 1) = true ∧ Cont.vals [AV.int IntKind.i64 a, AV.int IntKind.i64 b, AV.int IntKind.i64 c, AV.int IntKind.i64 d, AV.int
IntKind.i64 e, AV.int IntKind.i64 f] = Cont.vals [AV.int IntKind.i64 a, AV.int IntKind.i64 b, AV.int IntKind.i64 c, AV.int IntKind.i64 d, AV.int IntKind.i64 e, AV.int IntKind.i64 f] ∧ 3 = 3 ∧ iI 3 = 3
∧ b_1.i + 1 = b_1.i + 1 ∧ ((0 ≤ b_1.i + 1 ∧ b_1.i + 1 ≤ 3) ∧ (1 ≤ b_1.i + 1 → cmpI a b = 0) ∧ (2 ≤ b_1.i + 1 → cmpI c d = 0) ∧ (3 ≤ b_1.i + 1 → cmpI e f = 0)) ∧ 3 - Int.toNat (b_1.i + 1) < 3 -
Int.toNat b_1.i ∧ True)) ∧ (ltb b_1.i 3 = false → 0 = ord3 a b c d e f ∧ True)) := by kernel_rfl

theorem ob_o79 (x y q x' y' q' : Int) : fnP (TB3) G 10000 fe79 (.r [] 0 (.r [] 351 .nil)) ([.agg [.int .i64 x, .int .i64 y, .int .u8 q], .agg [.int .i64 x', .int .i64 y', .int .u8 q']]) ([.int .i64 (cmpC (x, y, q) (x', y', q'))]) ([]) = (
inR IntKind.i64 q = true ∧ inR IntKind.i64 q' = true ∧ 3 = 3 ∧ ord3 y y' x x' q q' = cmpC (x, y, q) (x', y', q') ∧ True) := by kernel_rfl

theorem ob_o47 (l : List Cl) (x y q : Int) : fnP (T0) G 10000 fe47 (.r [] 0 (.r [] 0 (.lp (l47 l (x, y, q)) [] [] (fun b => (.r [] 0 (.cnd (.r [(323, .auto, Dr.val (kV l b.i))] 64 (.cnd (.r [] 0 .nil) (.r [] 0 .nil))) (.r [] 0 .nil))))))) ([cls l, .agg [.int .i64 x, .int .i64 y, .int .u8 q]]) ([.int .i64 (bI (hasL l (x, y, q)) 1 0)]) ([]) = (
1 = 1 ∧ x = x ∧ y = y ∧ q = q ∧ Cont.vals (flatK l) = Cont.vals (flatK l) ∧ List.length l = List.length l ∧ 0 = 0 ∧ iI 0 = 0 ∧ (∃ (n : Nat), 0 = (↑n : Int) ∧ n ≤ List.length l ∧ hasL (List.drop n l)
(x, y, q) = hasL l (x, y, q)) ∧ ∀ (b : L1), (∃ (n : Nat), b.i = (↑n : Int) ∧ n ≤ List.length l ∧ hasL (List.drop n l) (x, y, q) = hasL l (x, y, q)) → (ltb b.i (↑(List.length l) : Int) = true → leb 0
b.i = true ∧ ltb b.i (↑(List.length l) : Int) = true ∧ ltn 0 (Cont.size (Cont.vals (flatK l))) = true ∧ (List.drop (Int.toNat b.i * 3) (flatK l))[0]? = some (AV.int IntKind.i64 (kX l b.i)) ∧
(List.drop (Int.toNat b.i * 3) (flatK l))[1]? = some (AV.int IntKind.i64 (kY l b.i)) ∧ (List.drop (Int.toNat b.i * 3) (flatK l))[2]? = some (AV.int IntKind.u8 (kQ l b.i)) ∧ ((kX l b.i == x && (kY l
b.i == y && kQ l b.i == q)) = true → 1 = bI (hasL l (x, y, q)) 1 0 ∧ True) ∧ ((kX l b.i == x && (kY l b.i == y && kQ l b.i == q)) = false → inR IntKind.i64 (b.i + 1) = true ∧ 1 = 1 ∧ x = x ∧ y = y ∧ q
= q ∧ Cont.vals (flatK l) = Cont.vals (flatK l) ∧ List.length l = List.length l ∧ 0 = 0 ∧ b.i + 1 = b.i + 1 ∧ (∃ (n : Nat), b.i + 1 = (↑n : Int) ∧ n ≤ List.length l ∧ hasL (List.drop n l) (x, y, q) =
hasL l (x, y, q)) ∧ List.length l - Int.toNat (b.i + 1) < List.length l - Int.toNat b.i ∧ True)) ∧ (ltb b.i (↑(List.length l) : Int) = false → 0 = bI (hasL l (x, y, q)) 1 0 ∧ True)) := by kernel_rfl

theorem ob_o35 (a b : List Cl) (k : Nat) : fnP (T0) G 10000 fe35 (.r [] 0 (.rs 6 [] 0 11 (.r [] 3 (.lit (.r [] 0 .nil))) (.r [] 3 (.cnd (.r [] 0 .nil) (.r [] 0 (.lp (l35 a b) [] [] (fun b_1 => (.r [] 0 (.cnd (.r [(451, .auto, Dr.val (kV a b_1.i)), (455, .auto, Dr.val (kV b b_1.i))] 0 (.cnd (.r [] 0 .nil) (.r [] 0 .nil))) (.r [] 0 .nil)))))))))) ([.imm (.vals (flatK a)) a.length (some k), cls b]) ([.int .i64 (bI (Nat.beq k a.length && eqLC a b) 1 0)]) ([]) = (
(((↑(List.length a) : Int) != (↑(List.length b) : Int)) = true → 0 = bI (Nat.beq k (List.length a) && eqLC a b) 1 0 ∧ True) ∧ (((↑(List.length a) : Int) != (↑(List.length b) : Int)) = false → (((↑k :
Int) != (↑(List.length a) : Int)) = true → 0 = bI (Nat.beq k (List.length a) && eqLC a b) 1 0 ∧ True) ∧ (((↑k : Int) != (↑(List.length a) : Int)) = false → Cont.vals (flatK a) = Cont.vals (flatK a) ∧
List.length a = List.length a ∧ k = k ∧ Cont.vals (flatK b) = Cont.vals (flatK b) ∧ List.length b = List.length b ∧ iI 0 = 0 ∧ (∃ (n : Nat), 0 = (↑n : Int) ∧ n ≤ List.length a ∧ eqLC (List.drop n a)
(List.drop n b) = eqLC a b) ∧ ∀ (b_1 : L1), (∃ (n : Nat), b_1.i = (↑n : Int) ∧ n ≤ List.length a ∧ eqLC (List.drop n a) (List.drop n b) = eqLC a b) → (ltb b_1.i (↑(List.length a) : Int) = true → leb 0
b_1.i = true ∧ ltb b_1.i (↑(List.length a) : Int) = true ∧ ltn 0 (Cont.size (Cont.vals (flatK a))) = true ∧ (List.drop (Int.toNat b_1.i * 3) (flatK a))[0]? = some (AV.int IntKind.i64 (kX a b_1.i)) ∧
(List.drop (Int.toNat b_1.i * 3) (flatK a))[1]? = some (AV.int IntKind.i64 (kY a b_1.i)) ∧ (List.drop (Int.toNat b_1.i * 3) (flatK a))[2]? = some (AV.int IntKind.u8 (kQ a b_1.i)) ∧ leb 0 b_1.i = true
∧ ltb b_1.i (↑(List.length b) : Int) = true ∧ ltn 0 (Cont.size (Cont.vals (flatK b))) = true ∧ (List.drop (Int.toNat b_1.i * 3) (flatK b))[0]? = some (AV.int IntKind.i64 (kX b b_1.i)) ∧ (List.drop
(Int.toNat b_1.i * 3) (flatK b))[1]? = some (AV.int IntKind.i64 (kY b b_1.i)) ∧ (List.drop (Int.toNat b_1.i * 3) (flatK b))[2]? = some (AV.int IntKind.u8 (kQ b b_1.i)) ∧ ((!(kX a b_1.i == kX b b_1.i
&& (kY a b_1.i == kY b b_1.i && kQ a b_1.i == kQ b b_1.i))) = true → 0 = bI (Nat.beq k (List.length a) && eqLC a b) 1 0 ∧ True) ∧ ((!(kX a b_1.i == kX b b_1.i && (kY a b_1.i == kY b b_1.i && kQ a
b_1.i == kQ b b_1.i))) = false → inR IntKind.i64 (b_1.i + 1) = true ∧ Cont.vals (flatK a) = Cont.vals (flatK a) ∧ List.length a = List.length a ∧ k = k ∧ Cont.vals (flatK b) = Cont.vals (flatK b) ∧
List.length b = List.length b ∧ b_1.i + 1 = b_1.i + 1 ∧ (∃ (n : Nat), b_1.i + 1 = (↑n : Int) ∧ n ≤ List.length a ∧ eqLC (List.drop n a) (List.drop n b) = eqLC a b) ∧ List.length a - Int.toNat (b_1.i +
1) < List.length a - Int.toNat b_1.i ∧ True)) ∧ (ltb b_1.i (↑(List.length a) : Int) = false → 1 = bI (Nat.beq k (List.length a) && eqLC a b) 1 0 ∧ True)))) := by kernel_rfl

theorem ob_o92 (l : List Cl) (x y q : Int) : fnP (TA1) G 10000 fe92 (.r [] 0 (.r [] 1 (.cnd (.r [] 0 .nil) (.r [] 0 (.r [] 0 (.r [] 0 (.gho 5 9001 3 (Cont.vals []) (.lp (l92 l (x, y, q)) [] [] (fun b => (.r [] 0 (.cnd (.r [yM 579, yM 580, yM 581, yM 582, (583, .may, Dr.val (kV l b.i)), yM 584, yM 585] 20481 (.cnd (.r [] 9 (.r [] 0 (.r [(772, .auto, Dr.val (kV l b.i))] 256 (.r [] 0 .nil)))) (.r [(772, .auto, Dr.val (kV l b.i))] 256 (.r [] 0 .nil)))) (.r [] 0 (.cnd (.r [] 9 (.frz 5 0 (.r [] 0 .nil))) (.frz 5 0 (.r [] 0 .nil))))))))))))))) ([cls l, .agg [.int .i64 x, .int .i64 y, .int .u8 q]]) ([cls (addL l (x, y, q))]) ([]) = (
okL (flatK l) (List.length l) ∧ ((bI (hasL (unK (flatK l)) (x, y, q)) 1 0 == 1) = true → Cont.vals (flatK l) = Cont.vals (flatK (addL l (x, y, q))) ∧ List.length l = List.length (addL l (x, y, q)) ∧
True) ∧ ((bI (hasL (unK (flatK l)) (x, y, q)) 1 0 == 1) = false → 1 = 1 ∧ x = x ∧ y = y ∧ q = q ∧ 0 = 0 ∧ ([] : List AV) = [] ∧ Cont.vals (flatK l) = Cont.vals (flatK l) ∧ List.length l = List.length
l ∧ 0 = 0 ∧ 0 = 0 ∧ iI 0 = 0 ∧ iI 0 = 0 ∧ (∃ (n : Nat), 0 = (↑n : Int) ∧ n ≤ List.length l ∧ 0 = bI (anyG (x, y, q) (List.take n l)) 1 0 ∧ [] = flatK (insP (x, y, q) (List.take n l)) ∧ 0 = List.length
(insP (x, y, q) (List.take n l))) ∧ ∀ (b : L92), (∃ (n : Nat), b.i = (↑n : Int) ∧ n ≤ List.length l ∧ b.d = bI (anyG (x, y, q) (List.take n l)) 1 0 ∧ b.o = flatK (insP (x, y, q) (List.take n l)) ∧ b.n
= List.length (insP (x, y, q) (List.take n l))) → (ltb b.i (↑(List.length l) : Int) = true → ((b.d == 0) = true → (b.d == 0) = true) ∧ ((b.d == 0) = true → (b.d == 0) = true) ∧ ((b.d == 0) = true →
leb 0 b.i = true) ∧ ((b.d == 0) = true → ltb b.i (↑(List.length l) : Int) = true) ∧ ((b.d == 0) = true → ltn 0 (Cont.size (Cont.vals (flatK l))) = true) ∧ ((b.d == 0) = true → (b.d == 0) = true) ∧
((b.d == 0) = true → (List.drop (Int.toNat b.i * 3) (flatK l))[0]? = some (AV.int IntKind.i64 (kX l b.i))) ∧ ((b.d == 0) = true → (List.drop (Int.toNat b.i * 3) (flatK l))[1]? = some (AV.int
IntKind.i64 (kY l b.i))) ∧ ((b.d == 0) = true → (List.drop (Int.toNat b.i * 3) (flatK l))[2]? = some (AV.int IntKind.u8 (kQ l b.i))) ∧ ((b.d == 0) = true → (b.d == 0) = true) ∧ ((b.d == 0) = true →
(b.d == 0) = true) ∧ ((b.d == 0) = true → (b.d == 0) = true) ∧ (bif b.d == 0 then b.d == 0 && true else true) = true ∧ ((bif b.d == 0 then bI (ltC (x, y, q) (kX l b.i, kY l b.i, kQ l b.i)) 1 0 == 1
else false) = true → b.n = b.n ∧ len' ((b.n + 1) * 24) 140737488355328 = true ∧ leb 0 b.i = true ∧ ltb b.i (↑(List.length l) : Int) = true ∧ ltn 0 (Cont.size (Cont.vals (flatK l))) = true ∧ (List.drop
(Int.toNat b.i * 3) (flatK l))[0]? = some (AV.int IntKind.i64 (kX l b.i)) ∧ (List.drop (Int.toNat b.i * 3) (flatK l))[1]? = some (AV.int IntKind.i64 (kY l b.i)) ∧ (List.drop (Int.toNat b.i * 3) (flatK
l))[2]? = some (AV.int IntKind.u8 (kQ l b.i)) ∧ b.n + 1 = b.n + 1 ∧ len' ((b.n + 1 + 1) * 24) 140737488355328 = true ∧ inR IntKind.i64 (b.i + 1) = true ∧ 1 = 1 ∧ x = x ∧ y = y ∧ q = q ∧ b.n + 1 + 1 =
b.n + 1 + 1 ∧ b.o ++ [AV.int IntKind.i64 x, AV.int IntKind.i64 y, AV.int IntKind.u8 q] ++ [AV.int IntKind.i64 (kX l b.i), AV.int IntKind.i64 (kY l b.i), AV.int IntKind.u8 (kQ l b.i)] = b.o ++ [AV.int
IntKind.i64 x, AV.int IntKind.i64 y, AV.int IntKind.u8 q] ++ [AV.int IntKind.i64 (kX l b.i), AV.int IntKind.i64 (kY l b.i), AV.int IntKind.u8 (kQ l b.i)] ∧ Cont.vals (flatK l) = Cont.vals (flatK l) ∧
List.length l = List.length l ∧ 0 = 0 ∧ b.n + 1 + 1 = b.n + 1 + 1 ∧ iI 1 = 1 ∧ b.i + 1 = b.i + 1 ∧ (∃ (n : Nat), b.i + 1 = (↑n : Int) ∧ n ≤ List.length l ∧ 1 = bI (anyG (x, y, q) (List.take n l)) 1 0
∧ b.o ++ [AV.int IntKind.i64 x, AV.int IntKind.i64 y, AV.int IntKind.u8 q] ++ [AV.int IntKind.i64 (kX l b.i), AV.int IntKind.i64 (kY l b.i), AV.int IntKind.u8 (kQ l b.i)] = flatK (insP (x, y, q)
(List.take n l)) ∧ b.n + 1 + 1 = List.length (insP (x, y, q) (List.take n l))) ∧ List.length l - Int.toNat (b.i + 1) < List.length l - Int.toNat b.i ∧ True) ∧ ((bif b.d == 0 then bI (ltC (x, y, q) (kX
l b.i, kY l b.i, kQ l b.i)) 1 0 == 1 else false) = false → leb 0 b.i = true ∧ ltb b.i (↑(List.length l) : Int) = true ∧ ltn 0 (Cont.size (Cont.vals (flatK l))) = true ∧ (List.drop (Int.toNat b.i * 3)
(flatK l))[0]? = some (AV.int IntKind.i64 (kX l b.i)) ∧ (List.drop (Int.toNat b.i * 3) (flatK l))[1]? = some (AV.int IntKind.i64 (kY l b.i)) ∧ (List.drop (Int.toNat b.i * 3) (flatK l))[2]? = some
(AV.int IntKind.u8 (kQ l b.i)) ∧ b.n = b.n ∧ len' ((b.n + 1) * 24) 140737488355328 = true ∧ inR IntKind.i64 (b.i + 1) = true ∧ 1 = 1 ∧ x = x ∧ y = y ∧ q = q ∧ b.n + 1 = b.n + 1 ∧ b.o ++ [AV.int
IntKind.i64 (kX l b.i), AV.int IntKind.i64 (kY l b.i), AV.int IntKind.u8 (kQ l b.i)] = b.o ++ [AV.int IntKind.i64 (kX l b.i), AV.int IntKind.i64 (kY l b.i), AV.int IntKind.u8 (kQ l b.i)] ∧ Cont.vals
(flatK l) = Cont.vals (flatK l) ∧ List.length l = List.length l ∧ 0 = 0 ∧ b.n + 1 = b.n + 1 ∧ b.d = b.d ∧ b.i + 1 = b.i + 1 ∧ (∃ (n : Nat), b.i + 1 = (↑n : Int) ∧ n ≤ List.length l ∧ b.d = bI (anyG
(x, y, q) (List.take n l)) 1 0 ∧ b.o ++ [AV.int IntKind.i64 (kX l b.i), AV.int IntKind.i64 (kY l b.i), AV.int IntKind.u8 (kQ l b.i)] = flatK (insP (x, y, q) (List.take n l)) ∧ b.n + 1 = List.length
(insP (x, y, q) (List.take n l))) ∧ List.length l - Int.toNat (b.i + 1) < List.length l - Int.toNat b.i ∧ True)) ∧ (ltb b.i (↑(List.length l) : Int) = false → ((b.d == 0) = true → b.n = b.n ∧ len'
((b.n + 1) * 24) 140737488355328 = true ∧ b.n + 1 = b.n + 1 ∧ Cont.vals (b.o ++ [AV.int IntKind.i64 x, AV.int IntKind.i64 y, AV.int IntKind.u8 q]) = Cont.vals (flatK (addL l (x, y, q))) ∧ b.n + 1 =
List.length (addL l (x, y, q)) ∧ True) ∧ ((b.d == 0) = false → b.n = b.n ∧ Cont.vals b.o = Cont.vals (flatK (addL l (x, y, q))) ∧ b.n = List.length (addL l (x, y, q)) ∧ True)))) := by kernel_rfl

theorem ob_o62 (l : List Cl) : fnP (TA2) G 10000 fe62 (.r [] 0 (.r [] 0 (.r [] 0 (.lp (l62 l) [] [] (fun b => (.r [] 0 (.cnd (.r [(388, .auto, Dr.val (kV l b.i))] 0 (.r [] 0 .nil)) (.r [] 0 .nil)))))))) ([cls l]) ([cls (ofL l)]) ([]) = (
Cont.vals (flatK l) = Cont.vals (flatK l) ∧ List.length l = List.length l ∧ 0 = 0 ∧ 0 = 0 ∧ iI 0 = 0 ∧ (∃ (n : Nat), 0 = (↑n : Int) ∧ n ≤ List.length l ∧ [] = flatK (ofL (List.take n l)) ∧ 0 =
List.length (ofL (List.take n l))) ∧ ∀ (b : L62), (∃ (n : Nat), b.i = (↑n : Int) ∧ n ≤ List.length l ∧ b.o = flatK (ofL (List.take n l)) ∧ b.n = List.length (ofL (List.take n l))) → (ltb b.i
(↑(List.length l) : Int) = true → leb 0 b.i = true ∧ ltb b.i (↑(List.length l) : Int) = true ∧ ltn 0 (Cont.size (Cont.vals (flatK l))) = true ∧ (List.drop (Int.toNat b.i * 3) (flatK l))[0]? = some
(AV.int IntKind.i64 (kX l b.i)) ∧ (List.drop (Int.toNat b.i * 3) (flatK l))[1]? = some (AV.int IntKind.i64 (kY l b.i)) ∧ (List.drop (Int.toNat b.i * 3) (flatK l))[2]? = some (AV.int IntKind.u8 (kQ l
b.i)) ∧ okL b.o b.n ∧ inR IntKind.i64 (b.i + 1) = true ∧ Cont.vals (flatK l) = Cont.vals (flatK l) ∧ List.length l = List.length l ∧ Cont.vals (flatK (addL (unK b.o) (kX l b.i, kY l b.i, kQ l b.i))) =
Cont.vals (flatK (addL (unK b.o) (kX l b.i, kY l b.i, kQ l b.i))) ∧ List.length (addL (unK b.o) (kX l b.i, kY l b.i, kQ l b.i)) = List.length (addL (unK b.o) (kX l b.i, kY l b.i, kQ l b.i)) ∧ b.i + 1
= b.i + 1 ∧ (∃ (n : Nat), b.i + 1 = (↑n : Int) ∧ n ≤ List.length l ∧ flatK (addL (unK b.o) (kX l b.i, kY l b.i, kQ l b.i)) = flatK (ofL (List.take n l)) ∧ List.length (addL (unK b.o) (kX l b.i, kY l
b.i, kQ l b.i)) = List.length (ofL (List.take n l))) ∧ List.length l - Int.toNat (b.i + 1) < List.length l - Int.toNat b.i ∧ True) ∧ (ltb b.i (↑(List.length l) : Int) = false → Cont.vals b.o =
Cont.vals (flatK (ofL l)) ∧ b.n = List.length (ofL l) ∧ True)) := by kernel_rfl

end Go.Proofs.YtmnaghfndigfkaaDoor.X
