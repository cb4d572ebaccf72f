/-
 What is to be shown of the functions (made by a program).
-/
import Derived.Test.YtfafinkgmhkdmaaDoorVD7Z
import Derived.KernelRfl
set_option maxRecDepth 1000000
set_option linter.unusedVariables false
namespace Go.Proofs.YtfafinkgmhkdmaaDoor.X
open Go Go.Ab

theorem ob_o75 (x : Int) : fnP (T0) G 10000 fe75 (.r [] 0 (.r [] 0 .nil)) ([.int .i64 x]) ([.bool false]) ([]) = (
(x != x) = false ∧ True) := by kernel_rfl

theorem ob_o87 (x : Int) : fnP (T0) G 10000 fe87 (.r [] 0 (.r [] 0 .nil)) ([.int .u8 x]) ([.bool false]) ([]) = (
(x != x) = false ∧ True) := by kernel_rfl

theorem ob_o52 (x y : Int) : fnP (WN) G 10000 fe52 (.r [] 0 (.r [] 1 (.r [] 1 (.r [] 0 (.lit (.r [] 0 (.lit (.r [] 0 (.cnd (.r [] 0 .nil) (.r [] 0 (.cnd (.r [] 0 .nil) (.r [] 0 .nil)))))))))))) ([.int .i64 x, .int .i64 y]) ([.int .i64 (cmpI x y)]) ([]) = (
(ltb x y = true → -1 = cmpI x y ∧ True) ∧ (ltb x y = false → (ltb y x = true → 1 = cmpI x y ∧ True) ∧ (ltb y x = false → 0 = cmpI x y ∧ True))) := by kernel_rfl

theorem ob_o72 (x y : Int) : fnP (WN) G 10000 fe72 (.r [] 0 (.r [] 1 (.r [] 1 (.r [] 0 (.lit (.r [] 0 (.lit (.r [] 0 (.cnd (.r [] 0 .nil) (.r [] 0 (.cnd (.r [] 0 .nil) (.r [] 0 .nil)))))))))))) ([.int .u8 x, .int .u8 y]) ([.int .i64 (cmpI x y)]) ([]) = (
(ltb x y = true → -1 = cmpI x y ∧ True) ∧ (ltb x y = false → (ltb y x = true → 1 = cmpI x y ∧ True) ∧ (ltb y x = false → 0 = cmpI x y ∧ True))) := by kernel_rfl

theorem ob_o47 (x y : Int) : fnP (T0) G 10000 fe47 (.r [] 0 (.r [] 0 (.r [] 0 (.un (.r [] 0 (.lit (.r [] 15 (.r [] 0 (.cnd (.r [] 0 .nil) (.r [] 1 (.un (.r [] 0 (.lit (.r [] 15 (.r [] 0 (.cnd (.r [] 0 .nil) (.r [] 1 (.un (.r [] 0 (.lit (.r [] 0 .nil))))))))))))))))))))) ([.imm (.ints .i64 [x, y]) 2 none]) ([.int .i64 (orI x y)]) ([]) = (
((List.getD [x, y] 0 0 != 0) = true → List.getD [x, y] 0 0 = orI x y ∧ True) ∧ ((List.getD [x, y] 0 0 != 0) = false → ((List.getD [y] 0 0 != 0) = true → List.getD [y] 0 0 = orI x y ∧ True) ∧
((List.getD [y] 0 0 != 0) = false → 0 = orI x y ∧ True))) := by kernel_rfl

theorem ob_o48 (a b : List Int) : fnP (WA) G 10000 fe48 (.r [] 0 (.r [] 0 (.lp (l48 a b) [] [] (fun b_1 => (.r [] 0 (.cnd (.r [] 0 (.r [] 0 (.cnd (.r [] 0 .nil) (.r [] 0 (.r [] 1 (.r [] 0 (.cnd (.r [] 0 .nil) (.r [] 0 .nil)))))))) (.r [] 0 (.cnd (.r [] 0 .nil) (.r [] 0 .nil))))))))) ([.imm (.ints .i64 a) a.length none, .imm (.ints .i64 b) b.length none]) ([.int .i64 (cmpL a b)]) ([]) = (
Cont.ints IntKind.i64 a = Cont.ints IntKind.i64 a ∧ List.length a = List.length a ∧ Cont.ints IntKind.i64 b = Cont.ints IntKind.i64 b ∧ List.length b = List.length b ∧ Cont.ints IntKind.i64 a =
Cont.ints IntKind.i64 a ∧ List.length a = List.length a ∧ (↑(List.length a) : Int) = (↑(List.length a) : Int) ∧ iI 0 = 0 ∧ (∃ (n : Nat), 0 = (↑n : Int) ∧ n ≤ List.length a ∧ n ≤ List.length b ∧ cmpL
(List.drop n a) (List.drop n b) = cmpL a b) ∧ ∀ (b_1 : L48), (∃ (n : Nat), b_1.i = (↑n : Int) ∧ n ≤ List.length a ∧ n ≤ List.length b ∧ cmpL (List.drop n a) (List.drop n b) = cmpL a b) → (ltb b_1.i
(↑(List.length a) : Int) = true → leb 0 b_1.i = true ∧ ltb b_1.i (↑(List.length a) : Int) = true ∧ ltn 0 (Cont.size (Cont.ints IntKind.i64 a)) = true ∧ ltn 0 (Cont.size (Cont.ints IntKind.i64
(List.drop (Int.toNat b_1.i) a))) = true ∧ (leb (↑(List.length b) : Int) b_1.i = true → 1 = cmpL a b ∧ True) ∧ (leb (↑(List.length b) : Int) b_1.i = false → leb 0 b_1.i = true ∧ ltb b_1.i
(↑(List.length b) : Int) = true ∧ ltn 0 (Cont.size (Cont.ints IntKind.i64 b)) = true ∧ ltn 0 (Cont.size (Cont.ints IntKind.i64 (List.drop (Int.toNat b_1.i) b))) = true ∧ ((cmpI (List.getD (List.drop
(Int.toNat b_1.i) a) 0 0) (List.getD (List.drop (Int.toNat b_1.i) b) 0 0) != 0) = true → cmpI (List.getD (List.drop (Int.toNat b_1.i) a) 0 0) (List.getD (List.drop (Int.toNat b_1.i) b) 0 0) = cmpL a b
∧ True) ∧ ((cmpI (List.getD (List.drop (Int.toNat b_1.i) a) 0 0) (List.getD (List.drop (Int.toNat b_1.i) b) 0 0) != 0) = false → inR IntKind.i64 (b_1.i + 1) = true ∧ Cont.ints IntKind.i64 a =
Cont.ints IntKind.i64 a ∧ List.length a = List.length a ∧ Cont.ints IntKind.i64 b = Cont.ints IntKind.i64 b ∧ List.length b = List.length b ∧ Cont.ints IntKind.i64 a = Cont.ints IntKind.i64 a ∧
List.length a = List.length a ∧ (↑(List.length a) : Int) = (↑(List.length a) : Int) ∧ b_1.i + 1 = b_1.i + 1 ∧ (∃ (n : Nat), b_1.i + 1 = (↑n : Int) ∧ n ≤ List.length a ∧ n ≤ List.length b ∧ cmpL
(List.drop n a) (List.drop n b) = cmpL a b) ∧ List.length a - Int.toNat (b_1.i + 1) < List.length a - Int.toNat b_1.i ∧ True))) ∧ (ltb b_1.i (↑(List.length a) : Int) = false → (ltb (↑(List.length a) :
Int) (↑(List.length b) : Int) = true → -1 = cmpL a b ∧ True) ∧ (ltb (↑(List.length a) : Int) (↑(List.length b) : Int) = false → 0 = cmpL a b ∧ True))) := by kernel_rfl

theorem ob_o49 (a b : List Int) : fnP (WA) G 10000 fe49 (.r [] 0 (.r [] 0 (.lp (l48 a b) [] [] (fun b_1 => (.r [] 0 (.cnd (.r [] 0 (.r [] 0 (.cnd (.r [] 0 .nil) (.r [] 0 (.r [] 1 (.r [] 0 (.cnd (.r [] 0 .nil) (.r [] 0 .nil)))))))) (.r [] 0 (.cnd (.r [] 0 .nil) (.r [] 0 .nil))))))))) ([.imm (.ints .u8 a) a.length none, .imm (.ints .u8 b) b.length none]) ([.int .i64 (cmpL a b)]) ([]) = (
Cont.ints IntKind.u8 a = Cont.ints IntKind.u8 a ∧ List.length a = List.length a ∧ Cont.ints IntKind.u8 b = Cont.ints IntKind.u8 b ∧ List.length b = List.length b ∧ Cont.ints IntKind.u8 a = Cont.ints
IntKind.u8 a ∧ List.length a = List.length a ∧ (↑(List.length a) : Int) = (↑(List.length a) : Int) ∧ iI 0 = 0 ∧ (∃ (n : Nat), 0 = (↑n : Int) ∧ n ≤ List.length a ∧ n ≤ List.length b ∧ cmpL (List.drop n
a) (List.drop n b) = cmpL a b) ∧ ∀ (b_1 : L48), (∃ (n : Nat), b_1.i = (↑n : Int) ∧ n ≤ List.length a ∧ n ≤ List.length b ∧ cmpL (List.drop n a) (List.drop n b) = cmpL a b) → (ltb b_1.i (↑(List.length
a) : Int) = true → leb 0 b_1.i = true ∧ ltb b_1.i (↑(List.length a) : Int) = true ∧ ltn 0 (Cont.size (Cont.ints IntKind.u8 a)) = true ∧ ltn 0 (Cont.size (Cont.ints IntKind.u8 (List.drop (Int.toNat
b_1.i) a))) = true ∧ (leb (↑(List.length b) : Int) b_1.i = true → 1 = cmpL a b ∧ True) ∧ (leb (↑(List.length b) : Int) b_1.i = false → leb 0 b_1.i = true ∧ ltb b_1.i (↑(List.length b) : Int) = true ∧
ltn 0 (Cont.size (Cont.ints IntKind.u8 b)) = true ∧ ltn 0 (Cont.size (Cont.ints IntKind.u8 (List.drop (Int.toNat b_1.i) b))) = true ∧ ((cmpI (List.getD (List.drop (Int.toNat b_1.i) a) 0 0) (List.getD
(List.drop (Int.toNat b_1.i) b) 0 0) != 0) = true → cmpI (List.getD (List.drop (Int.toNat b_1.i) a) 0 0) (List.getD (List.drop (Int.toNat b_1.i) b) 0 0) = cmpL a b ∧ True) ∧ ((cmpI (List.getD
(List.drop (Int.toNat b_1.i) a) 0 0) (List.getD (List.drop (Int.toNat b_1.i) b) 0 0) != 0) = false → inR IntKind.i64 (b_1.i + 1) = true ∧ Cont.ints IntKind.u8 a = Cont.ints IntKind.u8 a ∧ List.length
a = List.length a ∧ Cont.ints IntKind.u8 b = Cont.ints IntKind.u8 b ∧ List.length b = List.length b ∧ Cont.ints IntKind.u8 a = Cont.ints IntKind.u8 a ∧ List.length a = List.length a ∧ (↑(List.length
a) : Int) = (↑(List.length a) : Int) ∧ b_1.i + 1 = b_1.i + 1 ∧ (∃ (n : Nat), b_1.i + 1 = (↑n : Int) ∧ n ≤ List.length a ∧ n ≤ List.length b ∧ cmpL (List.drop n a) (List.drop n b) = cmpL a b) ∧
List.length a - Int.toNat (b_1.i + 1) < List.length a - Int.toNat b_1.i ∧ True))) ∧ (ltb b_1.i (↑(List.length a) : Int) = false → (ltb (↑(List.length a) : Int) (↑(List.length b) : Int) = true → -1 =
cmpL a b ∧ True) ∧ (ltb (↑(List.length a) : Int) (↑(List.length b) : Int) = false → 0 = cmpL a b ∧ True))) := by kernel_rfl

theorem ob_o42i (a : List Int) (i : Int) : fnP (UB42) G 10000 fe42 (.r [] 0 (.r [(136, .auto, Dr.heap)] 64 (.frz 4 0 .nil))) ([.imm (.ints .i64 a) a.length none, .int .i64 i]) ([immL .i64 (rotL' a i.toNat)]) ([]) = (
leb 0 i = true ∧ len' (Int.toNat i) (List.length a) = true ∧ Cont.size (Cont.ints IntKind.i64 a) = List.length a ∧ leb 0 i = true ∧ len' (Int.toNat i) (List.length a) = true ∧ Cont.size (Cont.ints
IntKind.i64 a) = List.length a ∧ (List.length a - Int.toNat i = List.length (List.drop (Int.toNat i) a) ∧ Int.toNat i = List.length (List.take (Int.toNat i) a) ∧ 0 < List.length (List.drop (Int.toNat
i) a) + List.length (List.take (Int.toNat i) a) ∧ List.length (List.drop (Int.toNat i) a) + List.length (List.take (Int.toNat i) a) < 100000000000) ∧ ([(8640, HO.blk (Blk.mk (Cont.ints IntKind.i64
(List.drop (Int.toNat i) a ++ List.take (Int.toNat i) a)) 1 (List.length (List.drop (Int.toNat i) a ++ List.take (Int.toNat i) a)) none (some false) true false))] = [(8640, HO.blk (Blk.mk (Cont.ints
IntKind.i64 (List.drop (Int.toNat i) a ++ List.take (Int.toNat i) a)) 1 (List.length (List.drop (Int.toNat i) a ++ List.take (Int.toNat i) a)) none (some false) true false))] ∧ List.length (List.drop
(Int.toNat i) a ++ List.take (Int.toNat i) a) = List.length (List.drop (Int.toNat i) a ++ List.take (Int.toNat i) a)) ∧ List.length (List.drop (Int.toNat i) a ++ List.take (Int.toNat i) a) =
List.length (List.drop (Int.toNat i) a ++ List.take (Int.toNat i) a) ∧ Cont.ints IntKind.i64 (List.drop (Int.toNat i) a ++ List.take (Int.toNat i) a) = Cont.ints IntKind.i64 (rotL' a (Int.toNat i)) ∧
List.length (List.drop (Int.toNat i) a ++ List.take (Int.toNat i) a) = List.length (rotL' a (Int.toNat i)) ∧ List.length (List.drop (Int.toNat i) a ++ List.take (Int.toNat i) a) = List.length (rotL' a
(Int.toNat i)) ∧ True) := by kernel_rfl

theorem ob_o43i (a : List Int) (i : Int) : fnP (UB43) G 10000 fe43 (.r [] 0 (.r [(136, .auto, Dr.heap)] 64 (.frz 4 0 .nil))) ([.imm (.ints .u8 a) a.length none, .int .i64 i]) ([immL .u8 (rotL' a i.toNat)]) ([]) = (
leb 0 i = true ∧ len' (Int.toNat i) (List.length a) = true ∧ Cont.size (Cont.ints IntKind.u8 a) = List.length a ∧ leb 0 i = true ∧ len' (Int.toNat i) (List.length a) = true ∧ Cont.size (Cont.ints
IntKind.u8 a) = List.length a ∧ (List.length a - Int.toNat i = List.length (List.drop (Int.toNat i) a) ∧ Int.toNat i = List.length (List.take (Int.toNat i) a) ∧ 0 < List.length (List.drop (Int.toNat
i) a) + List.length (List.take (Int.toNat i) a) ∧ List.length (List.drop (Int.toNat i) a) + List.length (List.take (Int.toNat i) a) < 100000000000) ∧ ([(8640, HO.blk (Blk.mk (Cont.ints IntKind.u8
(List.drop (Int.toNat i) a ++ List.take (Int.toNat i) a)) 1 (List.length (List.drop (Int.toNat i) a ++ List.take (Int.toNat i) a)) none (some false) true false))] = [(8640, HO.blk (Blk.mk (Cont.ints
IntKind.u8 (List.drop (Int.toNat i) a ++ List.take (Int.toNat i) a)) 1 (List.length (List.drop (Int.toNat i) a ++ List.take (Int.toNat i) a)) none (some false) true false))] ∧ List.length (List.drop
(Int.toNat i) a ++ List.take (Int.toNat i) a) = List.length (List.drop (Int.toNat i) a ++ List.take (Int.toNat i) a)) ∧ List.length (List.drop (Int.toNat i) a ++ List.take (Int.toNat i) a) =
List.length (List.drop (Int.toNat i) a ++ List.take (Int.toNat i) a) ∧ Cont.ints IntKind.u8 (List.drop (Int.toNat i) a ++ List.take (Int.toNat i) a) = Cont.ints IntKind.u8 (rotL' a (Int.toNat i)) ∧
List.length (List.drop (Int.toNat i) a ++ List.take (Int.toNat i) a) = List.length (rotL' a (Int.toNat i)) ∧ List.length (List.drop (Int.toNat i) a ++ List.take (Int.toNat i) a) = List.length (rotL' a
(Int.toNat i)) ∧ True) := by kernel_rfl

theorem ob_o19f (a k : List Int) (i : Int) : fnP (WB) G 10000 fe19 (.r [] 0 (.r [] 1 (.r [] 0 (.cnd (.r [] 1 .nil) (.rs 3 [] 0 15 (.r [] 3 (.lit (.r [] 1 .nil))) (.r [] 7 (.cnd (.r [] 1 .nil) (.r [] 21 .nil)))))))) ([fanV a k, .int .i64 i]) ([.agg [immL .i64 (bLt (tOk a i) (rotL' a i.toNat)), immL .u8 (bLt (tOk a i) (rotL' k i.toNat))], .int .i64 (bI (tOk a i) 0 1)]) ([]) = (
(List.length a = List.length a ∧ List.length k = List.length k ∧ List.length a < 1000000000000) ∧ ((chk a k != 0) = true → Cont.size (Cont.ints IntKind.i64 (bLt (tOk a i) (rotL' a (Int.toNat i)))) = 0
∧ List.length (bLt (tOk a i) (rotL' a (Int.toNat i))) = 0 ∧ List.length (bLt (tOk a i) (rotL' a (Int.toNat i))) = 0 ∧ Cont.size (Cont.ints IntKind.u8 (bLt (tOk a i) (rotL' k (Int.toNat i)))) = 0 ∧
List.length (bLt (tOk a i) (rotL' k (Int.toNat i))) = 0 ∧ List.length (bLt (tOk a i) (rotL' k (Int.toNat i))) = 0 ∧ chk a k = bI (tOk a i) 0 1 ∧ True) ∧ ((chk a k != 0) = false → (ltb i 0 = true →
Cont.size (Cont.ints IntKind.i64 (bLt (tOk a i) (rotL' a (Int.toNat i)))) = 0 ∧ List.length (bLt (tOk a i) (rotL' a (Int.toNat i))) = 0 ∧ List.length (bLt (tOk a i) (rotL' a (Int.toNat i))) = 0 ∧
Cont.size (Cont.ints IntKind.u8 (bLt (tOk a i) (rotL' k (Int.toNat i)))) = 0 ∧ List.length (bLt (tOk a i) (rotL' k (Int.toNat i))) = 0 ∧ List.length (bLt (tOk a i) (rotL' k (Int.toNat i))) = 0 ∧ 1 =
bI (tOk a i) 0 1 ∧ True) ∧ (ltb i 0 = false → (leb (if 1 > (↑(List.length a) : Int) then 1 else (↑(List.length a) : Int)) i = true → Cont.size (Cont.ints IntKind.i64 (bLt (tOk a i) (rotL' a (Int.toNat
i)))) = 0 ∧ List.length (bLt (tOk a i) (rotL' a (Int.toNat i))) = 0 ∧ List.length (bLt (tOk a i) (rotL' a (Int.toNat i))) = 0 ∧ Cont.size (Cont.ints IntKind.u8 (bLt (tOk a i) (rotL' k (Int.toNat i))))
= 0 ∧ List.length (bLt (tOk a i) (rotL' k (Int.toNat i))) = 0 ∧ List.length (bLt (tOk a i) (rotL' k (Int.toNat i))) = 0 ∧ 1 = bI (tOk a i) 0 1 ∧ True) ∧ (leb (if 1 > (↑(List.length a) : Int) then 1
else (↑(List.length a) : Int)) i = false → (List.length a = List.length a ∧ List.length a < 100000000000 ∧ 0 ≤ i ∧ i ≤ (↑(List.length a) : Int)) ∧ (List.length k = List.length k ∧ List.length k <
100000000000 ∧ 0 ≤ i ∧ i ≤ (↑(List.length k) : Int)) ∧ Cont.ints IntKind.i64 (rotL' a (Int.toNat i)) = Cont.ints IntKind.i64 (bLt (tOk a i) (rotL' a (Int.toNat i))) ∧ List.length (rotL' a (Int.toNat
i)) = List.length (bLt (tOk a i) (rotL' a (Int.toNat i))) ∧ List.length (rotL' a (Int.toNat i)) = List.length (bLt (tOk a i) (rotL' a (Int.toNat i))) ∧ Cont.ints IntKind.u8 (rotL' k (Int.toNat i)) =
Cont.ints IntKind.u8 (bLt (tOk a i) (rotL' k (Int.toNat i))) ∧ List.length (rotL' k (Int.toNat i)) = List.length (bLt (tOk a i) (rotL' k (Int.toNat i))) ∧ List.length (rotL' k (Int.toNat i)) =
List.length (bLt (tOk a i) (rotL' k (Int.toNat i))) ∧ 0 = bI (tOk a i) 0 1 ∧ True)))) := by kernel_rfl

theorem ob_o46 (a k : List Int) : fnP (T0) G 10000 fe46 (.r [] 0 (.r [] 0 (.frz 2 0 .nil))) ([fanV a k]) ([.fn 71 [] [.iptr (fanVC a k)]]) ([]) = (
Cont.vals [AV.imm (Cont.ints IntKind.i64 a) (List.length a) none, AV.imm (Cont.ints IntKind.u8 k) (List.length k) none] = Cont.vals [AV.imm (Cont.ints IntKind.i64 a) (List.length a) none, AV.imm
(Cont.ints IntKind.u8 k) (List.length k) none] ∧ True) := by kernel_rfl

theorem ob_o29 (a k b j : List Int) : fnP (T0) G 10000 fe29 (.r [] 0 (.r [] 0 (.lp (m29 a b k j) [] [] (fun b_1 => (.r [] 1 (.cnd (.r [] 33 (.cnd (.r [] 33 .nil) (.r [] 0 .nil))) (.r [] 0 (.lp (n29 a b k j) [] [] (fun b_2 => (.r [] 1 (.cnd (.r [] 33 (.cnd (.r [] 33 .nil) (.r [] 0 .nil))) (.r [] 0 .nil)))))))))))) ([fanV a k, fanV b j]) ([.bool (befB a k b j)]) ([]) = (
1 = 1 ∧ Cont.ints IntKind.i64 a = Cont.ints IntKind.i64 a ∧ List.length a = List.length a ∧ Cont.ints IntKind.u8 k = Cont.ints IntKind.u8 k ∧ List.length k = List.length k ∧ 1 = 1 ∧ Cont.ints
IntKind.i64 b = Cont.ints IntKind.i64 b ∧ List.length b = List.length b ∧ Cont.ints IntKind.u8 j = Cont.ints IntKind.u8 j ∧ List.length j = List.length j ∧ 0 = 0 ∧ 0 = 0 ∧ iI 0 = 0 ∧ (∃ (n : Nat), 0 =
(↑n : Int) ∧ n ≤ List.length a ∧ cmpL (List.drop n a ++ k) (List.drop n b ++ j) = cmpL (a ++ k) (b ++ j)) ∧ ∀ (b_1 : L26), (∃ (n : Nat), b_1.i = (↑n : Int) ∧ n ≤ List.length a ∧ cmpL (List.drop n a ++
k) (List.drop n b ++ j) = cmpL (a ++ k) (b ++ j)) → (ltb b_1.i (↑(List.length a) : Int) = true → leb 0 b_1.i = true ∧ ltb b_1.i (↑(List.length a) : Int) = true ∧ ltn 0 (Cont.size (Cont.ints
IntKind.i64 a)) = true ∧ ltn 0 (Cont.size (Cont.ints IntKind.i64 (List.drop (Int.toNat b_1.i) a))) = true ∧ leb 0 b_1.i = true ∧ ltb b_1.i (↑(List.length b) : Int) = true ∧ ltn 0 (Cont.size (Cont.ints
IntKind.i64 b)) = true ∧ ltn 0 (Cont.size (Cont.ints IntKind.i64 (List.drop (Int.toNat b_1.i) b))) = true ∧ ((List.getD (List.drop (Int.toNat b_1.i) a) 0 0 != List.getD (List.drop (Int.toNat b_1.i) b)
0 0) = true → leb 0 b_1.i = true ∧ ltb b_1.i (↑(List.length a) : Int) = true ∧ ltn 0 (Cont.size (Cont.ints IntKind.i64 a)) = true ∧ ltn 0 (Cont.size (Cont.ints IntKind.i64 (List.drop (Int.toNat b_1.i)
a))) = true ∧ leb 0 b_1.i = true ∧ ltb b_1.i (↑(List.length b) : Int) = true ∧ ltn 0 (Cont.size (Cont.ints IntKind.i64 b)) = true ∧ ltn 0 (Cont.size (Cont.ints IntKind.i64 (List.drop (Int.toNat b_1.i)
b))) = true ∧ ltb (List.getD (List.drop (Int.toNat b_1.i) a) 0 0) (List.getD (List.drop (Int.toNat b_1.i) b) 0 0) = befB a k b j ∧ True) ∧ ((List.getD (List.drop (Int.toNat b_1.i) a) 0 0 != List.getD
(List.drop (Int.toNat b_1.i) b) 0 0) = false → inR IntKind.i64 (b_1.i + 1) = true ∧ 1 = 1 ∧ Cont.ints IntKind.i64 a = Cont.ints IntKind.i64 a ∧ List.length a = List.length a ∧ Cont.ints IntKind.u8 k =
Cont.ints IntKind.u8 k ∧ List.length k = List.length k ∧ 1 = 1 ∧ Cont.ints IntKind.i64 b = Cont.ints IntKind.i64 b ∧ List.length b = List.length b ∧ Cont.ints IntKind.u8 j = Cont.ints IntKind.u8 j ∧
List.length j = List.length j ∧ 0 = 0 ∧ 0 = 0 ∧ b_1.i + 1 = b_1.i + 1 ∧ (∃ (n : Nat), b_1.i + 1 = (↑n : Int) ∧ n ≤ List.length a ∧ cmpL (List.drop n a ++ k) (List.drop n b ++ j) = cmpL (a ++ k) (b ++
j)) ∧ List.length a - Int.toNat (b_1.i + 1) < List.length a - Int.toNat b_1.i ∧ True)) ∧ (ltb b_1.i (↑(List.length a) : Int) = false → 1 = 1 ∧ Cont.ints IntKind.i64 a = Cont.ints IntKind.i64 a ∧
List.length a = List.length a ∧ Cont.ints IntKind.u8 k = Cont.ints IntKind.u8 k ∧ List.length k = List.length k ∧ 1 = 1 ∧ Cont.ints IntKind.i64 b = Cont.ints IntKind.i64 b ∧ List.length b =
List.length b ∧ Cont.ints IntKind.u8 j = Cont.ints IntKind.u8 j ∧ List.length j = List.length j ∧ 0 = 0 ∧ 0 = 0 ∧ ltb b_1.i (↑(List.length a) : Int) = ltb b_1.i (↑(List.length a) : Int) ∧ iI 0 = 0 ∧
(∃ (n : Nat), 0 = (↑n : Int) ∧ n ≤ List.length k ∧ cmpL (List.drop n k) (List.drop n j) = cmpL (a ++ k) (b ++ j)) ∧ ∀ (b_2 : L26), (∃ (n : Nat), b_2.i = (↑n : Int) ∧ n ≤ List.length k ∧ cmpL
(List.drop n k) (List.drop n j) = cmpL (a ++ k) (b ++ j)) → (ltb b_2.i (↑(List.length k) : Int) = true → leb 0 b_2.i = true ∧ ltb b_2.i (↑(List.length k) : Int) = true ∧ ltn 0 (Cont.size (Cont.ints
IntKind.u8 k)) = true ∧ ltn 0 (Cont.size (Cont.ints IntKind.u8 (List.drop (Int.toNat b_2.i) k))) = true ∧ leb 0 b_2.i = true ∧ ltb b_2.i (↑(List.length j) : Int) = true ∧ ltn 0 (Cont.size (Cont.ints
IntKind.u8 j)) = true ∧ ltn 0 (Cont.size (Cont.ints IntKind.u8 (List.drop (Int.toNat b_2.i) j))) = true ∧ ((List.getD (List.drop (Int.toNat b_2.i) k) 0 0 != List.getD (List.drop (Int.toNat b_2.i) j) 0
0) = true → leb 0 b_2.i = true ∧ ltb b_2.i (↑(List.length k) : Int) = true ∧ ltn 0 (Cont.size (Cont.ints IntKind.u8 k)) = true ∧ ltn 0 (Cont.size (Cont.ints IntKind.u8 (List.drop (Int.toNat b_2.i)
k))) = true ∧ leb 0 b_2.i = true ∧ ltb b_2.i (↑(List.length j) : Int) = true ∧ ltn 0 (Cont.size (Cont.ints IntKind.u8 j)) = true ∧ ltn 0 (Cont.size (Cont.ints IntKind.u8 (List.drop (Int.toNat b_2.i)
j))) = true ∧ ltb (List.getD (List.drop (Int.toNat b_2.i) k) 0 0) (List.getD (List.drop (Int.toNat b_2.i) j) 0 0) = befB a k b j ∧ True) ∧ ((List.getD (List.drop (Int.toNat b_2.i) k) 0 0 != List.getD
(List.drop (Int.toNat b_2.i) j) 0 0) = false → inR IntKind.i64 (b_2.i + 1) = true ∧ 1 = 1 ∧ Cont.ints IntKind.i64 a = Cont.ints IntKind.i64 a ∧ List.length a = List.length a ∧ Cont.ints IntKind.u8 k =
Cont.ints IntKind.u8 k ∧ List.length k = List.length k ∧ 1 = 1 ∧ Cont.ints IntKind.i64 b = Cont.ints IntKind.i64 b ∧ List.length b = List.length b ∧ Cont.ints IntKind.u8 j = Cont.ints IntKind.u8 j ∧
List.length j = List.length j ∧ 0 = 0 ∧ 0 = 0 ∧ ltb b_1.i (↑(List.length a) : Int) = ltb b_1.i (↑(List.length a) : Int) ∧ b_2.i + 1 = b_2.i + 1 ∧ (∃ (n : Nat), b_2.i + 1 = (↑n : Int) ∧ n ≤ List.length
k ∧ cmpL (List.drop n k) (List.drop n j) = cmpL (a ++ k) (b ++ j)) ∧ List.length k - Int.toNat (b_2.i + 1) < List.length k - Int.toNat b_2.i ∧ True)) ∧ (ltb b_2.i (↑(List.length k) : Int) = false →
false = befB a k b j ∧ True))) := by kernel_rfl

end Go.Proofs.YtfafinkgmhkdmaaDoor.X
