/-
 What is to be shown of the functions (made by a program).
-/
import Derived.Test.YtmnaghfndigfkaaDoorDOZ
import Derived.KernelRfl
set_option maxRecDepth 1000000
set_option linter.unusedVariables false
namespace Go.Proofs.YtmnaghfndigfkaaDoor.X
open Go Go.Ab

theorem ob_o150 (l : List Cl) (x y q : Int) : fnP (T0) G 10000 fe150 (.r [] 0 (.r [] 0 (.lp (l150 l (x, y, q)) [] [] (fun b => (.r [] 0 (.cnd (.r [] 0 (.r [(324, .auto, Dr.val (kV l b.i))] 1 (.cnd (.r [] 0 .nil) (.r [] 0 .nil)))) (.r [] 0 .nil))))))) ([cls l, .agg [.int .i64 x, .int .i64 y, .int .u8 q]]) ([.int .i64 (idxL l (x, y, q) 0)]) ([]) = (
1 = 1 ∧ x = x ∧ y = y ∧ q = q ∧ Cont.vals (flatK l) = Cont.vals (flatK l) ∧ List.length l = List.length l ∧ 0 = 0 ∧ (↑(List.length l) : Int) = (↑(List.length l) : Int) ∧ iI 0 = 0 ∧ (∃ (n : Nat), 0 =
(↑n : Int) ∧ n ≤ List.length l ∧ idxL (List.drop n l) (x, y, q) (↑n : Int) = idxL l (x, y, q) 0) ∧ ∀ (b : L1), (∃ (n : Nat), b.i = (↑n : Int) ∧ n ≤ List.length l ∧ idxL (List.drop n l) (x, y, q) (↑n :
Int) = idxL l (x, y, q) 0) → (ltb b.i (↑(List.length l) : Int) = true → leb 0 b.i = true ∧ ltb b.i (↑(List.length l) : Int) = true ∧ ltn 0 (Cont.size (Cont.vals (flatK l))) = true ∧ (List.drop
(Int.toNat b.i * 3) (flatK l))[0]? = some (AV.int IntKind.i64 (kX l b.i)) ∧ (List.drop (Int.toNat b.i * 3) (flatK l))[1]? = some (AV.int IntKind.i64 (kY l b.i)) ∧ (List.drop (Int.toNat b.i * 3) (flatK
l))[2]? = some (AV.int IntKind.u8 (kQ l b.i)) ∧ ((x == kX l b.i && (y == kY l b.i && q == kQ l b.i)) = true → b.i = idxL l (x, y, q) 0 ∧ True) ∧ ((x == kX l b.i && (y == kY l b.i && q == kQ l b.i)) =
false → inR IntKind.i64 (b.i + 1) = true ∧ 1 = 1 ∧ x = x ∧ y = y ∧ q = q ∧ Cont.vals (flatK l) = Cont.vals (flatK l) ∧ List.length l = List.length l ∧ 0 = 0 ∧ (↑(List.length l) : Int) = (↑(List.length
l) : Int) ∧ b.i + 1 = b.i + 1 ∧ (∃ (n : Nat), b.i + 1 = (↑n : Int) ∧ n ≤ List.length l ∧ idxL (List.drop n l) (x, y, q) (↑n : Int) = idxL l (x, y, q) 0) ∧ List.length l - Int.toNat (b.i + 1) <
List.length l - Int.toNat b.i ∧ True)) ∧ (ltb b.i (↑(List.length l) : Int) = false → -1 = idxL l (x, y, q) 0 ∧ True)) := by kernel_rfl

theorem ob_o118 (l : List Cl) (x y q : Int) : fnP (TY118) G 10000 fe118 (.r [] 0 (.r [] 1 .nil)) ([cls l, .agg [.int .i64 x, .int .i64 y, .int .u8 q]]) ([.bool (hasL l (x, y, q))]) ([]) = (
okL (flatK l) (List.length l) ∧ leb 0 (idxL (unK (flatK l)) (x, y, q) 0) = hasL l (x, y, q) ∧ True) := by kernel_rfl

theorem ob_o60 (l : List Cl) (x y q : Int) : fnP (TY60) G 10000 fe60 (.r [] 0 (.r [] 1 .nil)) ([cls l, .agg [.int .i64 x, .int .i64 y, .int .u8 q]]) ([.bool (hasL l (x, y, q))]) ([]) = (
okL (flatK l) (List.length l) ∧ hasL (unK (flatK l)) (x, y, q) = hasL l (x, y, q) ∧ True) := by kernel_rfl

theorem ob_o119 (a b : List Cl) : fnP (T0) G 10000 fe119 (.r [] 0 (.r [] 0 (.cnd (.r [] 0 .nil) (.r [] 0 (.lp (l119 a b) [] [] (fun b_1 => (.r [] 0 (.cnd (.r [] 0 (.r [(451, .auto, Dr.val (kV a b_1.i)), (455, .auto, Dr.val (kV b b_1.i))] 0 (.cnd (.r [] 0 .nil) (.r [] 0 .nil)))) (.r [] 0 .nil))))))))) ([cls a, cls b]) ([.bool (eqLC a b)]) ([]) = (
(((↑(List.length a) : Int) != (↑(List.length b) : Int)) = true → false = eqLC a b ∧ True) ∧ (((↑(List.length a) : Int) != (↑(List.length b) : Int)) = false → Cont.vals (flatK a) = Cont.vals (flatK a)
∧ List.length a = List.length a ∧ Cont.vals (flatK b) = Cont.vals (flatK b) ∧ List.length b = List.length b ∧ (↑(List.length a) : Int) = (↑(List.length a) : Int) ∧ iI 0 = 0 ∧ (∃ (n : Nat), 0 = (↑n :
Int) ∧ n ≤ List.length a ∧ eqLC (List.drop n a) (List.drop n b) = eqLC a b) ∧ ∀ (b_1 : L1), (∃ (n : Nat), b_1.i = (↑n : Int) ∧ n ≤ List.length a ∧ eqLC (List.drop n a) (List.drop n b) = eqLC a b) →
(ltb b_1.i (↑(List.length a) : Int) = true → leb 0 b_1.i = true ∧ ltb b_1.i (↑(List.length a) : Int) = true ∧ ltn 0 (Cont.size (Cont.vals (flatK a))) = true ∧ (List.drop (Int.toNat b_1.i * 3) (flatK
a))[0]? = some (AV.int IntKind.i64 (kX a b_1.i)) ∧ (List.drop (Int.toNat b_1.i * 3) (flatK a))[1]? = some (AV.int IntKind.i64 (kY a b_1.i)) ∧ (List.drop (Int.toNat b_1.i * 3) (flatK a))[2]? = some
(AV.int IntKind.u8 (kQ a b_1.i)) ∧ leb 0 b_1.i = true ∧ ltb b_1.i (↑(List.length b) : Int) = true ∧ ltn 0 (Cont.size (Cont.vals (flatK b))) = true ∧ (List.drop (Int.toNat b_1.i * 3) (flatK b))[0]? =
some (AV.int IntKind.i64 (kX b b_1.i)) ∧ (List.drop (Int.toNat b_1.i * 3) (flatK b))[1]? = some (AV.int IntKind.i64 (kY b b_1.i)) ∧ (List.drop (Int.toNat b_1.i * 3) (flatK b))[2]? = some (AV.int
IntKind.u8 (kQ b b_1.i)) ∧ ((!(kX a b_1.i == kX b b_1.i && (kY a b_1.i == kY b b_1.i && kQ a b_1.i == kQ b b_1.i))) = true → false = eqLC a b ∧ True) ∧ ((!(kX a b_1.i == kX b b_1.i && (kY a b_1.i ==
kY b b_1.i && kQ a b_1.i == kQ b b_1.i))) = false → inR IntKind.i64 (b_1.i + 1) = true ∧ Cont.vals (flatK a) = Cont.vals (flatK a) ∧ List.length a = List.length a ∧ Cont.vals (flatK b) = Cont.vals
(flatK b) ∧ List.length b = List.length b ∧ (↑(List.length a) : Int) = (↑(List.length a) : Int) ∧ b_1.i + 1 = b_1.i + 1 ∧ (∃ (n : Nat), b_1.i + 1 = (↑n : Int) ∧ n ≤ List.length a ∧ eqLC (List.drop n
a) (List.drop n b) = eqLC a b) ∧ List.length a - Int.toNat (b_1.i + 1) < List.length a - Int.toNat b_1.i ∧ True)) ∧ (ltb b_1.i (↑(List.length a) : Int) = false → true = eqLC a b ∧ True))) := by kernel_rfl

theorem ob_o63 (a b : List Cl) : fnP (TY63) G 10000 fe63 (.r [] 0 (.r [] 0 .nil)) ([cls a, cls b]) ([.bool (eqLC a b)]) ([]) = (
(okL (flatK a) (List.length a) ∧ okL (flatK b) (List.length b)) ∧ eqLC (unK (flatK a)) (unK (flatK b)) = eqLC a b ∧ True) := by kernel_rfl

theorem ob_o116 (l : List Cl) : fnP (T0) G 10000 fe116 (.r [] 0 (.r [] 0 (.lit (.r [] 1 .nil)))) ([cls l]) ([.full 0 l.length]) ([rwB (flatK l) l.length]) = (
ltn 0 (List.length l) = true ∧ len' ((0 + List.length l) * 24) 140737488355328 = true ∧ Cont.size (Cont.vals (flatK l)) = List.length l * 3 ∧ 0 + List.length l = List.length l ∧ [] ++ flatK l = flatK
l ∧ 0 + List.length l = List.length l ∧ True) := by kernel_rfl

theorem ob_d_117 (d : List Cl) : fnD (T0) G 10000 (fe117) (.r [] 0 (.r [] 0 (.cnd (.jn (jV (List.length d)) [0, 8] [] (.r [] 0 .nil) (fun b => .nil)) (.r [] 0 (.jn (jW d) [3] [] (.lp (l117 d) [] [] (fun b => (.r [] 0 (.cnd (.r [(451, .auto, Dr.val (kV d b.i)), (456, .auto, Dr.val (kV d (b.i - 1)))] 0 (.cnd (.r [(514, .auto, Dr.pk false)] 0 (.r [] 0 (.lp (m117 d (Int.toNat b.i)) [] [] (fun b_1 => (.r [] 0 (.cnd (.r [(771, .auto, Dr.val (kV (unK b_1.o) (b.i + b_1.j))), (776, .auto, Dr.val (kV (unK b_1.o) (b.i + b_1.j - 1)))] 0 (.cnd (.r [(837, .auto, Dr.val (kV (unK b_1.o) (b.i + b_1.j)))] 0 (.r [] 0 (.r [] 0 .nil))) (.r [] 0 .nil))) (.r [(962, .auto, Dr.pk false)] 0 (.r [(1026, .auto, Dr.wrap)] 0 .nil)))))))) (.r [] 0 .nil))) .nil)))) (fun b => (.r [] 0 .nil))))))) ([.full 16448 d.length]) ([(16448, .blk (rwB (flatK d) d.length))]) ([.vw 16448 d.length 3 0 (cptL d).length]) ([(16448, .blk (rwB (flatK (cpR d)) d.length))]) = (
List.length d = List.length d ∧ (ltb (↑(List.length d) : Int) 2 = true → (List.length d = List.length d ∧ flatK d = flatK d ∧ List.length d = List.length d ∧ 0 = 0 ∧ List.length d = List.length d ∧
True ∧ True) ∧ ∀ (b : Unit), True → List.length d = List.length d ∧ flatK d = flatK (cpR d) ∧ List.length d = List.length d ∧ 3 = 3 ∧ 0 = 0 ∧ List.length d = List.length (cptL d) ∧ True) ∧ (ltb
(↑(List.length d) : Int) 2 = false → (List.length d = List.length d ∧ flatK d = flatK d ∧ List.length d = List.length d ∧ iI 1 = 1 ∧ (∃ (n : Nat), 1 = (↑n : Int) ∧ 1 ≤ n ∧ n ≤ List.length d ∧ cptL
(List.take n d) = List.take n d) ∧ ∀ (b : L1), (∃ (n : Nat), b.i = (↑n : Int) ∧ 1 ≤ n ∧ n ≤ List.length d ∧ cptL (List.take n d) = List.take n d) → List.length d = List.length d ∧ (ltb b.i
(↑(List.length d) : Int) = true → leb 0 b.i = true ∧ ltb b.i (↑(List.length d) : Int) = true ∧ List.length d = List.length d ∧ List.length d = List.length d ∧ (flatK d)[Int.toNat b.i * 3]? = some
(AV.int IntKind.i64 (kX d b.i)) ∧ (flatK d)[Int.toNat b.i * 3 + 1]? = some (AV.int IntKind.i64 (kY d b.i)) ∧ (flatK d)[Int.toNat b.i * 3 + 1 + 1]? = some (AV.int IntKind.u8 (kQ d b.i)) ∧ inR
IntKind.i64 (b.i - 1) = true ∧ leb 0 (b.i - 1) = true ∧ ltb (b.i - 1) (↑(List.length d) : Int) = true ∧ List.length d = List.length d ∧ List.length d = List.length d ∧ (flatK d)[Int.toNat (b.i - 1) *
3]? = some (AV.int IntKind.i64 (kX d (b.i - 1))) ∧ (flatK d)[Int.toNat (b.i - 1) * 3 + 1]? = some (AV.int IntKind.i64 (kY d (b.i - 1))) ∧ (flatK d)[Int.toNat (b.i - 1) * 3 + 1 + 1]? = some (AV.int
IntKind.u8 (kQ d (b.i - 1))) ∧ ((kX d b.i == kX d (b.i - 1) && (kY d b.i == kY d (b.i - 1) && kQ d b.i == kQ d (b.i - 1))) = true → List.length d = List.length d ∧ leb 0 b.i = true ∧ ltn (Int.toNat
b.i) (List.length d) = true ∧ List.length d = List.length d ∧ flatK d = flatK d ∧ List.length d = List.length d ∧ b.i = b.i ∧ List.length d = List.length d ∧ 3 = 3 ∧ Int.toNat b.i = Int.toNat b.i ∧
List.length d - Int.toNat b.i = List.length d - Int.toNat b.i ∧ iI 1 = 1 ∧ (∃ (R : List Cl), ∃ (k : Nat), ∃ (m : Nat), b.i = (↑k : Int) ∧ 1 = (↑m : Int) ∧ flatK d = flatK R ∧ List.length R =
List.length d ∧ 1 ≤ m ∧ Int.toNat b.i + m ≤ List.length d ∧ k + 1 ≤ Int.toNat b.i + m ∧ List.take k R = cptL (List.take (Int.toNat b.i + m) d) ∧ List.drop (Int.toNat b.i + m - 1) R = List.drop
(Int.toNat b.i + m - 1) d) ∧ ∀ (b_1 : M117), (∃ (R : List Cl), ∃ (k : Nat), ∃ (m : Nat), b_1.k = (↑k : Int) ∧ b_1.j = (↑m : Int) ∧ b_1.o = flatK R ∧ List.length R = List.length d ∧ 1 ≤ m ∧ Int.toNat
b.i + m ≤ List.length d ∧ k + 1 ≤ Int.toNat b.i + m ∧ List.take k R = cptL (List.take (Int.toNat b.i + m) d) ∧ List.drop (Int.toNat b.i + m - 1) R = List.drop (Int.toNat b.i + m - 1) d) → List.length
d = List.length d ∧ (ltb b_1.j (↑(List.length d - Int.toNat b.i) : Int) = true → leb 0 b_1.j = true ∧ ltb b_1.j (↑(List.length d - Int.toNat b.i) : Int) = true ∧ List.length d = List.length d ∧
List.length d = List.length d ∧ b_1.o[az (Int.toNat b.i) (Int.toNat b_1.j) * 3]? = some (AV.int IntKind.i64 (kX (unK b_1.o) (b.i + b_1.j))) ∧ b_1.o[az (Int.toNat b.i) (Int.toNat b_1.j) * 3 + 1]? =
some (AV.int IntKind.i64 (kY (unK b_1.o) (b.i + b_1.j))) ∧ b_1.o[az (Int.toNat b.i) (Int.toNat b_1.j) * 3 + 1 + 1]? = some (AV.int IntKind.u8 (kQ (unK b_1.o) (b.i + b_1.j))) ∧ inR IntKind.i64 (b_1.j -
1) = true ∧ leb 0 (b_1.j - 1) = true ∧ ltb (b_1.j - 1) (↑(List.length d - Int.toNat b.i) : Int) = true ∧ List.length d = List.length d ∧ List.length d = List.length d ∧ b_1.o[az (Int.toNat b.i)
(Int.toNat (b_1.j - 1)) * 3]? = some (AV.int IntKind.i64 (kX (unK b_1.o) (b.i + b_1.j - 1))) ∧ b_1.o[az (Int.toNat b.i) (Int.toNat (b_1.j - 1)) * 3 + 1]? = some (AV.int IntKind.i64 (kY (unK b_1.o)
(b.i + b_1.j - 1))) ∧ b_1.o[az (Int.toNat b.i) (Int.toNat (b_1.j - 1)) * 3 + 1 + 1]? = some (AV.int IntKind.u8 (kQ (unK b_1.o) (b.i + b_1.j - 1))) ∧ ((!(kX (unK b_1.o) (b.i + b_1.j) == kX (unK b_1.o)
(b.i + b_1.j - 1) && (kY (unK b_1.o) (b.i + b_1.j) == kY (unK b_1.o) (b.i + b_1.j - 1) && kQ (unK b_1.o) (b.i + b_1.j) == kQ (unK b_1.o) (b.i + b_1.j - 1)))) = true → leb 0 b_1.j = true ∧ ltb b_1.j
(↑(List.length d - Int.toNat b.i) : Int) = true ∧ List.length d = List.length d ∧ List.length d = List.length d ∧ b_1.o[az (Int.toNat b.i) (Int.toNat b_1.j) * 3]? = some (AV.int IntKind.i64 (kX (unK
b_1.o) (b.i + b_1.j))) ∧ b_1.o[az (Int.toNat b.i) (Int.toNat b_1.j) * 3 + 1]? = some (AV.int IntKind.i64 (kY (unK b_1.o) (b.i + b_1.j))) ∧ b_1.o[az (Int.toNat b.i) (Int.toNat b_1.j) * 3 + 1 + 1]? =
some (AV.int IntKind.u8 (kQ (unK b_1.o) (b.i + b_1.j))) ∧ leb 0 b_1.k = true ∧ ltb b_1.k (↑(List.length d) : Int) = true ∧ List.length d = List.length d ∧ List.length d = List.length d ∧ len'
(Int.toNat b_1.k * 3 + 3) (Cont.size (Cont.vals b_1.o)) = true ∧ inR IntKind.i64 (b_1.k + 1) = true ∧ inR IntKind.i64 (b_1.j + 1) = true ∧ List.length d = List.length d ∧ List.set (List.set (List.set
b_1.o (Int.toNat b_1.k * 3) (AV.int IntKind.i64 (kX (unK b_1.o) (b.i + b_1.j)))) (Int.toNat b_1.k * 3 + 1) (AV.int IntKind.i64 (kY (unK b_1.o) (b.i + b_1.j)))) (Int.toNat b_1.k * 3 + 1 + 1) (AV.int
IntKind.u8 (kQ (unK b_1.o) (b.i + b_1.j))) = List.set (List.set (List.set b_1.o (Int.toNat b_1.k * 3) (AV.int IntKind.i64 (kX (unK b_1.o) (b.i + b_1.j)))) (Int.toNat b_1.k * 3 + 1) (AV.int IntKind.i64
(kY (unK b_1.o) (b.i + b_1.j)))) (Int.toNat b_1.k * 3 + 1 + 1) (AV.int IntKind.u8 (kQ (unK b_1.o) (b.i + b_1.j))) ∧ List.length d = List.length d ∧ b_1.k + 1 = b_1.k + 1 ∧ List.length d = List.length
d ∧ 3 = 3 ∧ Int.toNat b.i = Int.toNat b.i ∧ List.length d - Int.toNat b.i = List.length d - Int.toNat b.i ∧ b_1.j + 1 = b_1.j + 1 ∧ (∃ (R : List Cl), ∃ (k : Nat), ∃ (m : Nat), b_1.k + 1 = (↑k : Int) ∧
b_1.j + 1 = (↑m : Int) ∧ List.set (List.set (List.set b_1.o (Int.toNat b_1.k * 3) (AV.int IntKind.i64 (kX (unK b_1.o) (b.i + b_1.j)))) (Int.toNat b_1.k * 3 + 1) (AV.int IntKind.i64 (kY (unK b_1.o)
(b.i + b_1.j)))) (Int.toNat b_1.k * 3 + 1 + 1) (AV.int IntKind.u8 (kQ (unK b_1.o) (b.i + b_1.j))) = flatK R ∧ List.length R = List.length d ∧ 1 ≤ m ∧ Int.toNat b.i + m ≤ List.length d ∧ k + 1 ≤
Int.toNat b.i + m ∧ List.take k R = cptL (List.take (Int.toNat b.i + m) d) ∧ List.drop (Int.toNat b.i + m - 1) R = List.drop (Int.toNat b.i + m - 1) d) ∧ List.length d - Int.toNat (b_1.j + 1) <
List.length d - Int.toNat b_1.j ∧ True) ∧ ((!(kX (unK b_1.o) (b.i + b_1.j) == kX (unK b_1.o) (b.i + b_1.j - 1) && (kY (unK b_1.o) (b.i + b_1.j) == kY (unK b_1.o) (b.i + b_1.j - 1) && kQ (unK b_1.o)
(b.i + b_1.j) == kQ (unK b_1.o) (b.i + b_1.j - 1)))) = false → inR IntKind.i64 (b_1.j + 1) = true ∧ List.length d = List.length d ∧ b_1.o = b_1.o ∧ List.length d = List.length d ∧ b_1.k = b_1.k ∧
List.length d = List.length d ∧ 3 = 3 ∧ Int.toNat b.i = Int.toNat b.i ∧ List.length d - Int.toNat b.i = List.length d - Int.toNat b.i ∧ b_1.j + 1 = b_1.j + 1 ∧ (∃ (R : List Cl), ∃ (k : Nat), ∃ (m :
Nat), b_1.k = (↑k : Int) ∧ b_1.j + 1 = (↑m : Int) ∧ b_1.o = flatK R ∧ List.length R = List.length d ∧ 1 ≤ m ∧ Int.toNat b.i + m ≤ List.length d ∧ k + 1 ≤ Int.toNat b.i + m ∧ List.take k R = cptL
(List.take (Int.toNat b.i + m) d) ∧ List.drop (Int.toNat b.i + m - 1) R = List.drop (Int.toNat b.i + m - 1) d) ∧ List.length d - Int.toNat (b_1.j + 1) < List.length d - Int.toNat b_1.j ∧ True)) ∧ (ltb
b_1.j (↑(List.length d - Int.toNat b.i) : Int) = false → List.length d = List.length d ∧ leb 0 b_1.k = true ∧ ltn (Int.toNat b_1.k) (List.length d) = true ∧ List.length d = List.length d ∧ ltn 0
(List.length d - Int.toNat b_1.k) = true ∧ List.length d = List.length d ∧ leb 0 b_1.k = true ∧ len' (Int.toNat b_1.k) (List.length d) = true ∧ List.length d = List.length d ∧ List.take (Int.toNat
b_1.k * 3) b_1.o ++ repL [AV.int IntKind.i64 0, AV.int IntKind.i64 0, AV.int IntKind.u8 0] (List.length d - Int.toNat b_1.k) ++ List.drop ((Int.toNat b_1.k + (List.length d - Int.toNat b_1.k)) * 3)
b_1.o = flatK (cpR d) ∧ List.length d = List.length d ∧ 3 = 3 ∧ 0 = 0 ∧ Int.toNat b_1.k = List.length (cptL d) ∧ True)) ∧ ((kX d b.i == kX d (b.i - 1) && (kY d b.i == kY d (b.i - 1) && kQ d b.i == kQ
d (b.i - 1))) = false → inR IntKind.i64 (b.i + 1) = true ∧ List.length d = List.length d ∧ flatK d = flatK d ∧ List.length d = List.length d ∧ b.i + 1 = b.i + 1 ∧ (∃ (n : Nat), b.i + 1 = (↑n : Int) ∧
1 ≤ n ∧ n ≤ List.length d ∧ cptL (List.take n d) = List.take n d) ∧ List.length d - Int.toNat (b.i + 1) < List.length d - Int.toNat b.i ∧ True)) ∧ (ltb b.i (↑(List.length d) : Int) = false →
List.length d = List.length d ∧ flatK d = flatK d ∧ List.length d = List.length d ∧ 0 = 0 ∧ List.length d = List.length d ∧ cptL d = d ∧ True)) ∧ ∀ (b : Unit), cptL d = d → List.length d = List.length
d ∧ flatK d = flatK (cpR d) ∧ List.length d = List.length d ∧ 3 = 3 ∧ 0 = 0 ∧ List.length d = List.length (cptL d) ∧ True)) := by kernel_rfl

end Go.Proofs.YtmnaghfndigfkaaDoor.X
