/-
 What is to be shown of the functions (made by a program).
-/
import Derived.Test.YtmnaghfndigfkaaDoorDFZ
import Derived.KernelRfl
set_option maxRecDepth 1000000
set_option linter.unusedVariables false
namespace Go.Proofs.YtmnaghfndigfkaaDoor.X
open Go Go.Ab

theorem ob_o7 (l1 l2 : List Cl) : fnP (TD7) G 10000 fe7 (.r [] 0 (.jn (j7a l1 l2) [0, 1] [] (.r [] 0 .nil) (fun b => (.r [] 6 (.r [] 6 (.jn (j7b (sOf l1) (sOf l2)) [] [] (.r [] 6 .nil) (fun b_1 => (.r [yL 403, yL 404, yL 405, yL 406, yL 407, yL 408, yL 409, yL 411, yL 412, yL 413, yL 414, yL 415, yL 416] 247181007 (.ff (.r [] 6 (.r [] 6 (.jn (j7c (sOf l1) (sOf l2)) [11] [] (.r [] 6 .nil) (fun b_2 => (.cap 5 (fun n => (.r [yL 709, yL 710, yL 711, yL 712, yL 715, yL 716, yL 719, yL 720, yL 721, yL 722, yL 723, yL 724, yL 725, yL 726, yL 729, yL 730, yL 731, yL 732, yL 733, yL 734, yL 735, yL 736, yL 737, yL 738, yL 739, yL 742] 16422844989164 .nil)))))))))))))))) ([rwS l1, rwS l2]) ([.bool true]) ([]) = (
((flatS l1 = flatS (unS (flatS l1)) ∧ List.length l1 = List.length (unS (flatS l1)) ∧ rawP (unS (flatS l1))) ∧ (flatS l2 = flatS (unS (flatS l2)) ∧ List.length l2 = List.length (unS (flatS l2)) ∧ rawP
(unS (flatS l2))) ∧ Cont.vals (flatK (sOf (unS (flatS l1)))) = Cont.vals (flatK (sOf (unS (flatS l1)))) ∧ List.length (sOf (unS (flatS l1))) = List.length (sOf (unS (flatS l1))) ∧ Cont.vals (flatK
(sOf (unS (flatS l2)))) = Cont.vals (flatK (sOf (unS (flatS l2)))) ∧ List.length (sOf (unS (flatS l2))) = List.length (sOf (unS (flatS l2))) ∧ (flatK (sOf (unS (flatS l1))) = flatK (sOf l1) ∧
List.length (sOf (unS (flatS l1))) = List.length (sOf l1) ∧ flatK (sOf (unS (flatS l2))) = flatK (sOf l2) ∧ List.length (sOf (unS (flatS l2))) = List.length (sOf l2)) ∧ True) ∧ ∀ (b : J7a), b.a =
flatK (sOf l1) ∧ b.n = List.length (sOf l1) ∧ b.b = flatK (sOf l2) ∧ b.m = List.length (sOf l2) → (okL b.a b.n ∧ okL b.b b.m ∧ okS (unK b.a) ∧ okS (unK b.b) ∧ List.length (mrg 89 (unK b.a) (unK b.b))
≤ 1024) ∧ (okL b.a b.n ∧ okL b.b b.m ∧ okS (unK b.a) ∧ okS (unK b.b) ∧ List.length (mrg 90 (unK b.a) (unK b.b)) ≤ 1024) ∧ ((okL b.a b.n ∧ okL b.b b.m ∧ okS (unK b.a) ∧ okS (unK b.b) ∧ List.length (mrg
91 (unK b.a) (unK b.b)) ≤ 1024) ∧ Cont.vals b.a = Cont.vals b.a ∧ b.n = b.n ∧ Cont.vals b.b = Cont.vals b.b ∧ b.m = b.m ∧ Cont.vals (flatK (mrg 89 (unK b.a) (unK b.b))) = Cont.vals (flatK (mrg 89 (unK
b.a) (unK b.b))) ∧ List.length (mrg 89 (unK b.a) (unK b.b)) = List.length (mrg 89 (unK b.a) (unK b.b)) ∧ List.length (mrg 89 (unK b.a) (unK b.b)) = List.length (mrg 89 (unK b.a) (unK b.b)) ∧ iI 0 = 0
∧ Cont.vals (flatK (mrg 90 (unK b.a) (unK b.b))) = Cont.vals (flatK (mrg 90 (unK b.a) (unK b.b))) ∧ List.length (mrg 90 (unK b.a) (unK b.b)) = List.length (mrg 90 (unK b.a) (unK b.b)) ∧ List.length
(mrg 90 (unK b.a) (unK b.b)) = List.length (mrg 90 (unK b.a) (unK b.b)) ∧ iI 0 = 0 ∧ Cont.vals (flatK (mrg 91 (unK b.a) (unK b.b))) = Cont.vals (flatK (mrg 91 (unK b.a) (unK b.b))) ∧ List.length (mrg
91 (unK b.a) (unK b.b)) = List.length (mrg 91 (unK b.a) (unK b.b)) ∧ List.length (mrg 91 (unK b.a) (unK b.b)) = List.length (mrg 91 (unK b.a) (unK b.b)) ∧ iI 0 = 0 ∧ ((flatK (mrg 89 (unK b.a) (unK
b.b)) = flatK (mrg 89 (sOf l1) (sOf l2)) ∧ List.length (mrg 89 (unK b.a) (unK b.b)) = List.length (mrg 89 (sOf l1) (sOf l2))) ∧ (flatK (mrg 90 (unK b.a) (unK b.b)) = flatK (mrg 90 (sOf l1) (sOf l2)) ∧
List.length (mrg 90 (unK b.a) (unK b.b)) = List.length (mrg 90 (sOf l1) (sOf l2))) ∧ flatK (mrg 91 (unK b.a) (unK b.b)) = flatK (mrg 91 (sOf l1) (sOf l2)) ∧ List.length (mrg 91 (unK b.a) (unK b.b)) =
List.length (mrg 91 (sOf l1) (sOf l2))) ∧ True) ∧ ∀ (b_1 : J7b), (b_1.u = flatK (mrg 89 (sOf l1) (sOf l2)) ∧ b_1.p = List.length (mrg 89 (sOf l1) (sOf l2))) ∧ (b_1.c = flatK (mrg 90 (sOf l1) (sOf l2))
∧ b_1.q = List.length (mrg 90 (sOf l1) (sOf l2))) ∧ b_1.m = flatK (mrg 91 (sOf l1) (sOf l2)) ∧ b_1.r = List.length (mrg 91 (sOf l1) (sOf l2)) → (okL b.a b.n ∧ okL b.b b.m ∧ List.length (unK b.a ++ unK
b.b) < 1000000) ∧ (okL b_1.u b_1.p ∧ okL (flatK (whL 14 (unK b.a) (unK b.b) (unK b.a ++ unK b.b))) (List.length (whL 14 (unK b.a) (unK b.b) (unK b.a ++ unK b.b)))) ∧ (!bI (Nat.beq b_1.p b_1.p && eqLC
(unK b_1.u) (unK (flatK (whL 14 (unK b.a) (unK b.b) (unK b.a ++ unK b.b))))) 1 0 == 0) = true ∧ (okL b.a b.n ∧ okL b.b b.m ∧ List.length (unK b.a ++ unK b.b) < 1000000) ∧ (okL b_1.c b_1.q ∧ okL (flatK
(whL 8 (unK b.a) (unK b.b) (unK b.a ++ unK b.b))) (List.length (whL 8 (unK b.a) (unK b.b) (unK b.a ++ unK b.b)))) ∧ (!bI (Nat.beq b_1.q b_1.q && eqLC (unK b_1.c) (unK (flatK (whL 8 (unK b.a) (unK b.b)
(unK b.a ++ unK b.b))))) 1 0 == 0) = true ∧ (okL b.a b.n ∧ okL b.b b.m ∧ List.length (unK b.a ++ unK b.b) < 1000000) ∧ (okL b_1.m b_1.r ∧ okL (flatK (whL 2 (unK b.a) (unK b.b) (unK b.a ++ unK b.b)))
(List.length (whL 2 (unK b.a) (unK b.b) (unK b.a ++ unK b.b)))) ∧ (bI (Nat.beq b_1.r b_1.r && eqLC (unK b_1.m) (unK (flatK (whL 2 (unK b.a) (unK b.b) (unK b.a ++ unK b.b))))) 1 0 == 0) = false ∧ (okL
b.b b.m ∧ okL b.a b.n ∧ okS (unK b.b) ∧ okS (unK b.a) ∧ List.length (mrg 89 (unK b.b) (unK b.a)) ≤ 1024) ∧ (okL b.b b.m ∧ okL b.a b.n ∧ okS (unK b.b) ∧ okS (unK b.a) ∧ List.length (mrg 90 (unK b.b)
(unK b.a)) ≤ 1024) ∧ ((okL b_1.c b_1.q ∧ okL b_1.m b_1.r ∧ okS (unK b_1.c) ∧ okS (unK b_1.m) ∧ List.length (mrg 89 (unK b_1.c) (unK b_1.m)) ≤ 1024) ∧ Cont.vals b.a = Cont.vals b.a ∧ b.n = b.n ∧
Cont.vals b.b = Cont.vals b.b ∧ b.m = b.m ∧ Cont.vals b_1.u = Cont.vals b_1.u ∧ b_1.p = b_1.p ∧ b_1.p = b_1.p ∧ Cont.vals b_1.c = Cont.vals b_1.c ∧ b_1.q = b_1.q ∧ b_1.q = b_1.q ∧ Cont.vals (flatK
(mrg 89 (unK b.b) (unK b.a))) = Cont.vals (flatK (mrg 89 (unK b.b) (unK b.a))) ∧ List.length (mrg 89 (unK b.b) (unK b.a)) = List.length (mrg 89 (unK b.b) (unK b.a)) ∧ List.length (mrg 89 (unK b.b)
(unK b.a)) = List.length (mrg 89 (unK b.b) (unK b.a)) ∧ Cont.vals (flatK (mrg 90 (unK b.b) (unK b.a))) = Cont.vals (flatK (mrg 90 (unK b.b) (unK b.a))) ∧ List.length (mrg 90 (unK b.b) (unK b.a)) =
List.length (mrg 90 (unK b.b) (unK b.a)) ∧ List.length (mrg 90 (unK b.b) (unK b.a)) = List.length (mrg 90 (unK b.b) (unK b.a)) ∧ Cont.vals (flatK (mrg 89 (unK b_1.c) (unK b_1.m))) = Cont.vals (flatK
(mrg 89 (unK b_1.c) (unK b_1.m))) ∧ List.length (mrg 89 (unK b_1.c) (unK b_1.m)) = List.length (mrg 89 (unK b_1.c) (unK b_1.m)) ∧ List.length (mrg 89 (unK b_1.c) (unK b_1.m)) = List.length (mrg 89
(unK b_1.c) (unK b_1.m)) ∧ iI 0 = 0 ∧ ((flatK (mrg 89 (unK b.b) (unK b.a)) = flatK (mrg 89 (sOf l2) (sOf l1)) ∧ List.length (mrg 89 (unK b.b) (unK b.a)) = List.length (mrg 89 (sOf l2) (sOf l1))) ∧
(flatK (mrg 90 (unK b.b) (unK b.a)) = flatK (mrg 90 (sOf l2) (sOf l1)) ∧ List.length (mrg 90 (unK b.b) (unK b.a)) = List.length (mrg 90 (sOf l2) (sOf l1))) ∧ flatK (mrg 89 (unK b_1.c) (unK b_1.m)) =
flatK (mrg 89 (mrg 90 (sOf l1) (sOf l2)) (mrg 91 (sOf l1) (sOf l2))) ∧ List.length (mrg 89 (unK b_1.c) (unK b_1.m)) = List.length (mrg 89 (mrg 90 (sOf l1) (sOf l2)) (mrg 91 (sOf l1) (sOf l2)))) ∧
True) ∧ ∀ (b_2 : J7b), (b_2.u = flatK (mrg 89 (sOf l2) (sOf l1)) ∧ b_2.p = List.length (mrg 89 (sOf l2) (sOf l1))) ∧ (b_2.c = flatK (mrg 90 (sOf l2) (sOf l1)) ∧ b_2.q = List.length (mrg 90 (sOf l2)
(sOf l1))) ∧ b_2.m = flatK (mrg 89 (mrg 90 (sOf l1) (sOf l2)) (mrg 91 (sOf l1) (sOf l2))) ∧ b_2.r = List.length (mrg 89 (mrg 90 (sOf l1) (sOf l2)) (mrg 91 (sOf l1) (sOf l2))) → ∀ (n : Nat), True →
(okL b_2.u b_2.p ∧ okL b_1.u b_1.p) ∧ (bI (Nat.beq b_2.p b_2.p && eqLC (unK b_2.u) (unK b_1.u)) 1 0 == 1) = true ∧ (okL b_2.c b_2.q ∧ okL b_1.c b_1.q) ∧ (bI (Nat.beq b_2.q b_2.q && eqLC (unK b_2.c)
(unK b_1.c)) 1 0 == 1) = true ∧ (okL b_2.m b_2.r ∧ okL b.a b.n) ∧ (okL b.a b.n ∧ okL b_2.m b_2.r) ∧ inR IntKind.i64 (bI (Nat.beq b_2.r b_2.r && eqLC (unK b_2.m) (unK b.a)) 1 0 + bI (Nat.beq n b.n &&
eqLC (unK b.a) (unK b_2.m)) 1 0) = true ∧ ltb 0 (bI (Nat.beq b_2.r b_2.r && eqLC (unK b_2.m) (unK b.a)) 1 0 + bI (Nat.beq n b.n && eqLC (unK b.a) (unK b_2.m)) 1 0) = true ∧ inR IntKind.i64 ((↑b.n :
Int) + (↑b.m : Int)) = true ∧ inR IntKind.i64 ((↑b_1.p : Int) + (↑b_1.q : Int)) = true ∧ ((↑b.n : Int) + (↑b.m : Int) == (↑b_1.p : Int) + (↑b_1.q : Int)) = true ∧ true = true ∧ True) := by kernel_rfl

end Go.Proofs.YtmnaghfndigfkaaDoor.X
