/-
 What is to be shown of the functions (made by a program).
-/
import Derived.Test.YtfafinkgmhkdmaaDoorVD11Z
import Derived.KernelRfl
set_option maxRecDepth 1000000
set_option linter.unusedVariables false
namespace Go.Proofs.YtfafinkgmhkdmaaDoor.X
open Go Go.Ab

theorem ob_o31 (a k : List Int) : fnP (tN) G 10000 fe31 (.r [] 0 (.r [] 0 (.r [] 1 (.lp (l31 a) [] [] (fun b => (.r [] 0 (.cnd (.r [] 0 (.r [(386, .auto, Dr.wrap)] 0 (.r [] 0 .nil))) (.rs 4 [] 1 20 (.rs 3 [] 0 23 (.r [] 15 .nil) (.r [] 31 .nil)) (.r [] 3 .nil))))))))) ([fanV a k]) ([.bool (flB a k)]) ([]) = (
1 = 1 ∧ Cont.ints IntKind.i64 a = Cont.ints IntKind.i64 a ∧ List.length a = List.length a ∧ Cont.ints IntKind.u8 k = Cont.ints IntKind.u8 k ∧ List.length k = List.length k ∧ 0 = 0 ∧ iI 0 = 0 ∧
Cont.ints IntKind.i64 a = Cont.ints IntKind.i64 a ∧ List.length a = List.length a ∧ (↑(List.length a) : Int) = (↑(List.length a) : Int) ∧ iI 0 = 0 ∧ (∃ (n : Nat), 0 = (↑n : Int) ∧ n ≤ List.length a ∧
0 = wsum (List.take n a)) ∧ ∀ (b : L31), (∃ (n : Nat), b.i = (↑n : Int) ∧ n ≤ List.length a ∧ b.s = wsum (List.take n a)) → (ltb b.i (↑(List.length a) : Int) = true → leb 0 b.i = true ∧ ltb b.i
(↑(List.length a) : Int) = true ∧ ltn 0 (Cont.size (Cont.ints IntKind.i64 a)) = true ∧ ltn 0 (Cont.size (Cont.ints IntKind.i64 (List.drop (Int.toNat b.i) a))) = true ∧ inR IntKind.i64 (b.i + 1) = true
∧ 1 = 1 ∧ Cont.ints IntKind.i64 a = Cont.ints IntKind.i64 a ∧ List.length a = List.length a ∧ Cont.ints IntKind.u8 k = Cont.ints IntKind.u8 k ∧ List.length k = List.length k ∧ 0 = 0 ∧ IntKind.wrap
IntKind.i64 (b.s + List.getD (List.drop (Int.toNat b.i) a) 0 0) = IntKind.wrap IntKind.i64 (b.s + List.getD (List.drop (Int.toNat b.i) a) 0 0) ∧ Cont.ints IntKind.i64 a = Cont.ints IntKind.i64 a ∧
List.length a = List.length a ∧ (↑(List.length a) : Int) = (↑(List.length a) : Int) ∧ b.i + 1 = b.i + 1 ∧ (∃ (n : Nat), b.i + 1 = (↑n : Int) ∧ n ≤ List.length a ∧ IntKind.wrap IntKind.i64 (b.s +
List.getD (List.drop (Int.toNat b.i) a) 0 0) = wsum (List.take n a)) ∧ List.length a - Int.toNat (b.i + 1) < List.length a - Int.toNat b.i ∧ True) ∧ (ltb b.i (↑(List.length a) : Int) = false →
(List.length a = List.length a ∧ List.length k = List.length k ∧ List.length a < 1000000000000) ∧ ((chk a k == 0) = true → ((b.s == 8) = true → true = flB a k ∧ True) ∧ ((b.s == 8) = false →
((↑(List.length a) : Int) == 0) = flB a k ∧ True)) ∧ ((chk a k == 0) = false → false = flB a k ∧ True))) := by kernel_rfl

theorem ob_o54 (l : List AV) (n : Nat) : fnP (T0) G 10000 fe54 (.r [] 0 (.r [] 5 .nil)) ([.imm (.vals l) n none]) ([.imm (.vals l) n (some n)]) ([]) = (
Int.toNat (↑n : Int) = n ∧ Int.toNat (↑n : Int) = n ∧ Cont.size (Cont.vals l) = n * 3 ∧ Cont.vals l = Cont.vals l ∧ n = n ∧ n = n ∧ True) := by kernel_rfl

theorem ob_o19n (a k : List Int) (i : Int) : fnP (tN) G 10000 fe19 (.r [] 0 (.r [] 1 (.r [] 0 (.tt (.r [] 1 .nil))))) ([fanV a k, .int .i64 i]) ([fanC [] [], .int .i64 (chk a k)]) ([]) = (
(List.length a = List.length a ∧ List.length k = List.length k ∧ List.length a < 1000000000000) ∧ (chk a k != 0) = true ∧ 0 = 0 ∧ 0 = 0 ∧ 0 = 0 ∧ 0 = 0 ∧ 0 = 0 ∧ 0 = 0 ∧ chk a k = chk a k ∧ True) := by kernel_rfl

theorem ob_o28n (a k : List Int) : fnP (tN28) G 10000 fe28 (.r [] 0 (.r [] 29 (.r [] 0 (.tt (.r [] 1 .nil))))) ([fanV a k]) ([fanC [] [], .int .i64 (chk a k)]) ([]) = (
(List.length a = List.length a ∧ List.length k = List.length k ∧ List.length a < 100000000000 ∧ chk a k ≠ 0) ∧ (chk a k != 0) = true ∧ 0 = 0 ∧ 0 = 0 ∧ 0 = 0 ∧ 0 = 0 ∧ 0 = 0 ∧ 0 = 0 ∧ chk a k = chk a k
∧ True) := by kernel_rfl

theorem ob_o33n (a k : List Int) : fnP (tN) G 10000 fe33 (.r [] 0 (.r [] 1 (.tt (.r [] 0 .nil)))) ([fanV a k]) ([.str []]) ([]) = (
(List.length a = List.length a ∧ List.length k = List.length k ∧ List.length a < 1000000000000) ∧ (chk a k != 0) = true ∧ uL [] = [] ∧ True) := by kernel_rfl

theorem ob_o30 (a k : List Int) (f : Int) : fnP (V30 a k f) G 10000 fe30 (.r [] 0 (.r [] 1 (.r [] 0 (.cnd (.r [] 1 .nil) (.r [] 1 (.cnd (.r [] 1 .nil) (.rs 3 [] 0 27 (.r [] 3 (.lit (.r [] 1 .nil))) (.r [] 3 (.cnd (.r [] 1 .nil) (.r [] 1 (.r [] 1 (.ghc 578 2 9001 3 (Cont.vals []) (.lp (l30 a k f) [] [] (fun b => (.r [] 0 (.cnd (.r [] 0 (.r [(835, .auto, Dr.val [AV.imm (Cont.vals (rayV (Int.tmod b.f 8))) (rayN (Int.tmod b.f 8)) none])] 1 (.lp (m30 (Int.tmod b.f 8) (List.getD k (Int.toNat b.i) 0) b.l b.n) [] [] (fun b_1 => (.r [] 0 (.cnd (.r [(961, .auto, Dr.val
 [AV.int IntKind.i64 (rcC (Int.tmod b.f 8) b_1.i), AV.int IntKind.u8 (rcE (Int.tmod b.f 8) b_1.i), AV.int IntKind.u8 0])] 64 (.r [] 33 (.r [] 51 (.r [] 0 .nil)))) (.r [] 0 (.r [] 0 .nil)))))))) (.r [(1346, .auto, Dr.heap)] 1 (.r [] 9 (.r [] 3 .nil))))))))))))))))))) ([fanV a k, .int .i64 f]) ([.agg [.int .i64 (bI (patE a k f == 0) 2 0), .int .i64 (bI (patE a k f == 0) 2 0), .imm (.vals (flatC (patL a k f))) (patL a k f).length (some (patL a k f).length)], .int .i64 (patE a k f)]) ([]) = (
(List.length a = List.length a ∧ List.length k = List.length k ∧ List.length a < 1000000000000) ∧ ((chk a k != 0) = true → 0 = bI (patE a k f == 0) 2 0 ∧ 0 = bI (patE a k f == 0) 2 0 ∧ Cont.size
(Cont.vals (flatC (patL a k f))) = 0 ∧ List.length (patL a k f) = 0 ∧ List.length (patL a k f) = 0 ∧ chk a k = patE a k f ∧ True) ∧ ((chk a k != 0) = false → (List.length a = List.length a ∧
List.length k = List.length k ∧ List.length a < 1000000000) ∧ ((!flB a k) = true → 0 = bI (patE a k f == 0) 2 0 ∧ 0 = bI (patE a k f == 0) 2 0 ∧ Cont.size (Cont.vals (flatC (patL a k f))) = 0 ∧
List.length (patL a k f) = 0 ∧ List.length (patL a k f) = 0 ∧ 14 = patE a k f ∧ True) ∧ ((!flB a k) = false → (ltb f 0 = true → 0 = bI (patE a k f == 0) 2 0 ∧ 0 = bI (patE a k f == 0) 2 0 ∧ Cont.size
(Cont.vals (flatC (patL a k f))) = 0 ∧ List.length (patL a k f) = 0 ∧ List.length (patL a k f) = 0 ∧ 1 = patE a k f ∧ True) ∧ (ltb f 0 = false → (ltb 7 f = true → 0 = bI (patE a k f == 0) 2 0 ∧ 0 = bI
(patE a k f == 0) 2 0 ∧ Cont.size (Cont.vals (flatC (patL a k f))) = 0 ∧ List.length (patL a k f) = 0 ∧ List.length (patL a k f) = 0 ∧ 1 = patE a k f ∧ True) ∧ (ltb 7 f = false → 1 = 1 ∧ Cont.ints
IntKind.i64 a = Cont.ints IntKind.i64 a ∧ List.length a = List.length a ∧ Cont.ints IntKind.u8 k = Cont.ints IntKind.u8 k ∧ List.length k = List.length k ∧ 1 = 1 ∧ iI 0 = 0 ∧ iI 0 = 0 ∧ 1 = 1 ∧ iI 2 =
2 ∧ iI 2 = 2 ∧ 0 = 0 ∧ 0 = 0 ∧ ([] : List AV) = [] ∧ f = f ∧ 0 = 0 ∧ 0 = 0 ∧ 0 = 0 ∧ Cont.ints IntKind.i64 a = Cont.ints IntKind.i64 a ∧ List.length a = List.length a ∧ (↑(List.length a) : Int) =
(↑(List.length a) : Int) ∧ iI 0 = 0 ∧ (∃ (n : Nat), 0 = (↑n : Int) ∧ n ≤ List.length a ∧ f = f + List.sum (List.take n a) ∧ [] = flatC (rawF (List.take n a) (List.take n k) f) ∧ 0 = List.length (rawF
(List.take n a) (List.take n k) f)) ∧ ∀ (b : L30), (∃ (n : Nat), b.i = (↑n : Int) ∧ n ≤ List.length a ∧ b.f = f + List.sum (List.take n a) ∧ b.l = flatC (rawF (List.take n a) (List.take n k) f) ∧ b.n
= List.length (rawF (List.take n a) (List.take n k) f)) → (ltb b.i (↑(List.length a) : Int) = true → leb 0 b.i = true ∧ ltb b.i (↑(List.length a) : Int) = true ∧ ltn 0 (Cont.size (Cont.ints
IntKind.i64 a)) = true ∧ ltn 0 (Cont.size (Cont.ints IntKind.i64 (List.drop (Int.toNat b.i) a))) = true ∧ leb 0 (Int.tmod b.f 8) = true ∧ ltb (Int.tmod b.f 8) 8 = true ∧ (List.drop (Int.toNat
(Int.tmod b.f 8)) [AV.imm (Cont.vals [AV.int IntKind.i64 6, AV.int IntKind.u8 0, AV.int IntKind.u8 0]) 1 none, AV.imm (Cont.vals [AV.int IntKind.i64 12, AV.int IntKind.u8 2, AV.int IntKind.u8 0,
AV.int IntKind.i64 13, AV.int IntKind.u8 2, AV.int IntKind.u8 0]) 2 none, AV.imm (Cont.vals [AV.int IntKind.i64 9, AV.int IntKind.u8 0, AV.int IntKind.u8 0]) 1 none, AV.imm (Cont.vals [AV.int
IntKind.i64 8, AV.int IntKind.u8 1, AV.int IntKind.u8 0, AV.int IntKind.i64 10, AV.int IntKind.u8 1, AV.int IntKind.u8 0]) 2 none, AV.imm (Cont.vals [AV.int IntKind.i64 2, AV.int IntKind.u8 0, AV.int
IntKind.u8 0]) 1 none, AV.imm (Cont.vals [AV.int IntKind.i64 0, AV.int IntKind.u8 2, AV.int IntKind.u8 0, AV.int IntKind.i64 1, AV.int IntKind.u8 2, AV.int IntKind.u8 0]) 2 none, AV.imm (Cont.vals
[AV.int IntKind.i64 1, AV.int IntKind.u8 0, AV.int IntKind.u8 0]) 1 none, AV.imm (Cont.vals [AV.int IntKind.i64 4, AV.int IntKind.u8 1, AV.int IntKind.u8 0, AV.int IntKind.i64 6, AV.int IntKind.u8 1,
AV.int IntKind.u8 0]) 2 none])[0]? = some (AV.imm (Cont.vals (rayV (Int.tmod b.f 8))) (rayN (Int.tmod b.f 8)) none) ∧ 1 = 1 ∧ Cont.ints IntKind.i64 a = Cont.ints IntKind.i64 a ∧ List.length a =
List.length a ∧ Cont.ints IntKind.u8 k = Cont.ints IntKind.u8 k ∧ List.length k = List.length k ∧ 1 = 1 ∧ iI 0 = 0 ∧ iI 0 = 0 ∧ 1 = 1 ∧ iI 2 = 2 ∧ iI 2 = 2 ∧ b.n = b.n ∧ b.n = b.n ∧ b.l = b.l ∧ b.f =
b.f ∧ 0 = 0 ∧ 0 = 0 ∧ 0 = 0 ∧ Cont.ints IntKind.i64 a = Cont.ints IntKind.i64 a ∧ List.length a = List.length a ∧ (↑(List.length a) : Int) = (↑(List.length a) : Int) ∧ b.i = b.i ∧ b.i = b.i ∧
List.getD (List.drop (Int.toNat b.i) a) 0 0 = List.getD (List.drop (Int.toNat b.i) a) 0 0 ∧ Cont.vals (rayV (Int.tmod b.f 8)) = Cont.vals (rayV (Int.tmod b.f 8)) ∧ rayN (Int.tmod b.f 8) = rayN
(Int.tmod b.f 8) ∧ (↑(rayN (Int.tmod b.f 8)) : Int) = (↑(rayN (Int.tmod b.f 8)) : Int) ∧ iI 0 = 0 ∧ (∃ (m : Nat), 0 = (↑m : Int) ∧ m ≤ rayN (Int.tmod b.f 8) ∧ b.l = b.l ++ flatC (List.take m (rayK
(Int.tmod b.f 8) (List.getD k (Int.toNat b.i) 0))) ∧ b.n = b.n + m) ∧ ∀ (b_1 : M30), (∃ (m : Nat), b_1.i = (↑m : Int) ∧ m ≤ rayN (Int.tmod b.f 8) ∧ b_1.l = b.l ++ flatC (List.take m (rayK (Int.tmod
b.f 8) (List.getD k (Int.toNat b.i) 0))) ∧ b_1.n = b.n + m) → (ltb b_1.i (↑(rayN (Int.tmod b.f 8)) : Int) = true → leb 0 b_1.i = true ∧ ltb b_1.i (↑(rayN (Int.tmod b.f 8)) : Int) = true ∧ ltn 0
(Cont.size (Cont.vals (rayV (Int.tmod b.f 8)))) = true ∧ (List.drop (Int.toNat b_1.i * 3) (rayV (Int.tmod b.f 8)))[0]? = some (AV.int IntKind.i64 (rcC (Int.tmod b.f 8) b_1.i)) ∧ (List.drop (Int.toNat
b_1.i * 3) (rayV (Int.tmod b.f 8)))[1]? = some (AV.int IntKind.u8 (rcE (Int.tmod b.f 8) b_1.i)) ∧ (List.drop (Int.toNat b_1.i * 3) (rayV (Int.tmod b.f 8)))[2]? = some (AV.int IntKind.u8 0) ∧ leb 0 b.i
= true ∧ ltb b.i (↑(List.length k) : Int) = true ∧ ltn 0 (Cont.size (Cont.ints IntKind.u8 k)) = true ∧ ltn 0 (Cont.size (Cont.ints IntKind.u8 (List.drop (Int.toNat b.i) k))) = true ∧ b_1.n = b_1.n ∧
len' ((b_1.n + 1) * 16) 140737488355328 = true ∧ inR IntKind.i64 (b_1.i + 1) = true ∧ 1 = 1 ∧ Cont.ints IntKind.i64 a = Cont.ints IntKind.i64 a ∧ List.length a = List.length a ∧ Cont.ints IntKind.u8 k
= Cont.ints IntKind.u8 k ∧ List.length k = List.length k ∧ 1 = 1 ∧ iI 0 = 0 ∧ iI 0 = 0 ∧ 1 = 1 ∧ iI 2 = 2 ∧ iI 2 = 2 ∧ b_1.n + 1 = b_1.n + 1 ∧ b_1.n + 1 = b_1.n + 1 ∧ b_1.l ++ [AV.int IntKind.i64 (rcC
(Int.tmod b.f 8) b_1.i), AV.int IntKind.u8 (rcE (Int.tmod b.f 8) b_1.i), AV.int IntKind.u8 (List.getD (List.drop (Int.toNat b.i) k) 0 0)] = b_1.l ++ [AV.int IntKind.i64 (rcC (Int.tmod b.f 8) b_1.i),
AV.int IntKind.u8 (rcE (Int.tmod b.f 8) b_1.i), AV.int IntKind.u8 (List.getD (List.drop (Int.toNat b.i) k) 0 0)] ∧ b.f = b.f ∧ 0 = 0 ∧ 0 = 0 ∧ 0 = 0 ∧ Cont.ints IntKind.i64 a = Cont.ints IntKind.i64 a
∧ List.length a = List.length a ∧ (↑(List.length a) : Int) = (↑(List.length a) : Int) ∧ b.i = b.i ∧ b.i = b.i ∧ List.getD (List.drop (Int.toNat b.i) a) 0 0 = List.getD (List.drop (Int.toNat b.i) a) 0
0 ∧ Cont.vals (rayV (Int.tmod b.f 8)) = Cont.vals (rayV (Int.tmod b.f 8)) ∧ rayN (Int.tmod b.f 8) = rayN (Int.tmod b.f 8) ∧ (↑(rayN (Int.tmod b.f 8)) : Int) = (↑(rayN (Int.tmod b.f 8)) : Int) ∧ b_1.i
+ 1 = b_1.i + 1 ∧ (∃ (m : Nat), b_1.i + 1 = (↑m : Int) ∧ m ≤ rayN (Int.tmod b.f 8) ∧ b_1.l ++ [AV.int IntKind.i64 (rcC (Int.tmod b.f 8) b_1.i), AV.int IntKind.u8 (rcE (Int.tmod b.f 8) b_1.i), AV.int
IntKind.u8 (List.getD (List.drop (Int.toNat b.i) k) 0 0)] = b.l ++ flatC (List.take m (rayK (Int.tmod b.f 8) (List.getD k (Int.toNat b.i) 0))) ∧ b_1.n + 1 = b.n + m) ∧ rayN (Int.tmod b.f 8) -
Int.toNat (b_1.i + 1) < rayN (Int.tmod b.f 8) - Int.toNat b_1.i ∧ True) ∧ (ltb b_1.i (↑(rayN (Int.tmod b.f 8)) : Int) = false → inR IntKind.i64 (b.f + List.getD (List.drop (Int.toNat b.i) a) 0 0) =
true ∧ inR IntKind.i64 (b.i + 1) = true ∧ 1 = 1 ∧ Cont.ints IntKind.i64 a = Cont.ints IntKind.i64 a ∧ List.length a = List.length a ∧ Cont.ints IntKind.u8 k = Cont.ints IntKind.u8 k ∧ List.length k =
List.length k ∧ 1 = 1 ∧ iI 0 = 0 ∧ iI 0 = 0 ∧ 1 = 1 ∧ iI 2 = 2 ∧ iI 2 = 2 ∧ b_1.n = b_1.n ∧ b_1.n = b_1.n ∧ b_1.l = b_1.l ∧ b.f + List.getD (List.drop (Int.toNat b.i) a) 0 0 = b.f + List.getD
(List.drop (Int.toNat b.i) a) 0 0 ∧ 0 = 0 ∧ 0 = 0 ∧ 0 = 0 ∧ Cont.ints IntKind.i64 a = Cont.ints IntKind.i64 a ∧ List.length a = List.length a ∧ (↑(List.length a) : Int) = (↑(List.length a) : Int) ∧
b.i + 1 = b.i + 1 ∧ (∃ (n : Nat), b.i + 1 = (↑n : Int) ∧ n ≤ List.length a ∧ b.f + List.getD (List.drop (Int.toNat b.i) a) 0 0 = f + List.sum (List.take n a) ∧ b_1.l = flatC (rawF (List.take n a)
(List.take n k) f) ∧ b_1.n = List.length (rawF (List.take n a) (List.take n k) f)) ∧ List.length a - Int.toNat (b.i + 1) < List.length a - Int.toNat b.i ∧ True)) ∧ (ltb b.i (↑(List.length a) : Int) =
false → ([(9001, HO.blk (Blk.mk (Cont.vals b.l) 3 b.n none (some true) true false))] = [(9001, HO.blk (Blk.mk (Cont.vals (flatC (rawF a k f))) 3 b.n none (some true) true false))] ∧ b.n = List.length
(rawF a k f) ∧ List.length (rawF a k f) < 1000000000) ∧ b.n = b.n ∧ List.length (flatC (sortL cmpCr (rawF a k f))) = 3 * b.n ∧ 2 = bI (patE a k f == 0) 2 0 ∧ 2 = bI (patE a k f == 0) 2 0 ∧ Cont.vals
(flatC (sortL cmpCr (rawF a k f))) = Cont.vals (flatC (patL a k f)) ∧ b.n = List.length (patL a k f) ∧ b.n = List.length (patL a k f) ∧ 0 = patE a k f ∧ True)))))) := by kernel_rfl

end Go.Proofs.YtfafinkgmhkdmaaDoor.X
