/-
 What is to be shown of the functions (made by a program).
-/
import Derived.Test.YtmnaghfndigfkaaDoorDVZ
import Derived.KernelRfl
set_option maxRecDepth 1000000
set_option linter.unusedVariables false
namespace Go.Proofs.YtmnaghfndigfkaaDoor.X
open Go Go.Ab

theorem ob_o42 (l : List Cl) : fnP (TI42) G 10000 fe42 (.r [] 0 (.r [] 0 (.r [] 0 (.cnd (.r [] 0 .nil) (.r [] 0 (.cnd (.r [] 0 .nil) (.r [] 0 (.r [(515, .auto, Dr.val (kV l 0))] 1 (.r [(578, .auto, Dr.val (kV l 0))] 1 (.lp (l42 l) [] [] (fun b => (.r [] 0 (.cnd (.r [(709, .auto, Dr.val (kV (unK b.o) ((↑b.w : Int) - 1)))] 512 (.r [] 0 (.r [] 0 (.lp (m42 l (kC (unK b.o) ((↑b.w : Int) - 1)) (2 * List.length b.es + b.w)) [] [] (fun b_1 => (.r [] 0 (.cnd (.r [] 0 (.r [] 29 (.rs 3 [] 0 54 (.r [] 7 (.cnd (.r [] 1 (.r [] 9 (.r [] 0 .nil))) (.r [] 0 .nil))) (.r [] 3 (.lit (.r [] 0 .nil)))))) .nil))))))) (.r [] 0 .nil)))))))))))))) ([cls l]) ([.bool (cnX l), .int .i64 (chkI l)]) ([]) = (
(okL (flatK l) (List.length l) ∧ okQ (unK (flatK l))) ∧ ((chkI (unK (flatK l)) != 0) = true → false = cnX l ∧ chkI (unK (flatK l)) = chkI l ∧ True) ∧ ((chkI (unK (flatK l)) != 0) = false →
(((↑(List.length l) : Int) == 0) = true → true = cnX l ∧ 0 = chkI l ∧ True) ∧ (((↑(List.length l) : Int) == 0) = false → okL (flatK l) (List.length l) ∧ ltb 0 (↑(List.length l) : Int) = true ∧ ltn 0
(Cont.size (Cont.vals (flatK l))) = true ∧ (List.drop 0 (flatK l))[0]? = some (AV.int IntKind.i64 (kX l 0)) ∧ (List.drop 0 (flatK l))[1]? = some (AV.int IntKind.i64 (kY l 0)) ∧ (List.drop 0 (flatK
l))[2]? = some (AV.int IntKind.u8 (kQ l 0)) ∧ ltb 0 (↑(List.length l) : Int) = true ∧ ltn 0 (Cont.size (Cont.vals (flatK l))) = true ∧ (List.drop 0 (flatK l))[0]? = some (AV.int IntKind.i64 (kX l 0))
∧ (List.drop 0 (flatK l))[1]? = some (AV.int IntKind.i64 (kY l 0)) ∧ (List.drop 0 (flatK l))[2]? = some (AV.int IntKind.u8 (kQ l 0)) ∧ 0 = 0 ∧ mdel (memS (unK (flatK l)) ([], 0)).fst [kX l 0, kY l 0,
kQ l 0] = mdel (memS (unK (flatK l)) ([], 0)).fst [kX l 0, kY l 0, kQ l 0] ∧ (memS (unK (flatK l)) ([], 0)).snd = (memS (unK (flatK l)) ([], 0)).snd ∧ 1 = 1 ∧ [AV.int IntKind.i64 (kX l 0), AV.int
IntKind.i64 (kY l 0), AV.int IntKind.u8 (kQ l 0)] = [AV.int IntKind.i64 (kX l 0), AV.int IntKind.i64 (kY l 0), AV.int IntKind.u8 (kQ l 0)] ∧ 1 = 1 ∧ 0 = 0 ∧ 1 = 1 ∧ (∃ (L : List Cl), ∃ (R : List Cl),
repM (mdel (memS (unK (flatK l)) ([], 0)).fst [kX l 0, kY l 0, kQ l 0]) L ∧ [AV.int IntKind.i64 (kX l 0), AV.int IntKind.i64 (kY l 0), AV.int IntKind.u8 (kQ l 0)] = flatK R ∧ 1 = List.length R ∧ 1 ≤ 1
∧ 1 + List.length L < 1000000 ∧ invC l L (List.take 1 R)) ∧ ∀ (b : L42), (∃ (L : List Cl), ∃ (R : List Cl), repM b.es L ∧ b.o = flatK R ∧ b.n = List.length R ∧ b.w ≤ b.n ∧ b.n + List.length L <
1000000 ∧ invC l L (List.take b.w R)) → b.n = b.n ∧ (ltb 0 (↑b.w : Int) = true → b.n = b.n ∧ inR IntKind.i64 ((↑b.w : Int) - 1) = true ∧ leb 0 ((↑b.w : Int) - 1) = true ∧ ltb ((↑b.w : Int) - 1) (↑b.w
: Int) = true ∧ b.n = b.n ∧ b.n = b.n ∧ b.o[Int.toNat ((↑b.w : Int) - 1) * 3]? = some (AV.int IntKind.i64 (kX (unK b.o) ((↑b.w : Int) - 1))) ∧ b.o[Int.toNat ((↑b.w : Int) - 1) * 3 + 1]? = some (AV.int
IntKind.i64 (kY (unK b.o) ((↑b.w : Int) - 1))) ∧ b.o[Int.toNat ((↑b.w : Int) - 1) * 3 + 1 + 1]? = some (AV.int IntKind.u8 (kQ (unK b.o) ((↑b.w : Int) - 1))) ∧ b.n = b.n ∧ inR IntKind.i64 ((↑b.w : Int)
- 1) = true ∧ b.n = b.n ∧ leb 0 ((↑b.w : Int) - 1) = true ∧ len' (Int.toNat ((↑b.w : Int) - 1)) b.w = true ∧ 0 = 0 ∧ b.es = b.es ∧ b.k = b.k ∧ b.n = b.n ∧ b.o = b.o ∧ 1 = 1 ∧ kX (unK b.o) ((↑b.w :
Int) - 1) = kX (unK b.o) ((↑b.w : Int) - 1) ∧ kY (unK b.o) ((↑b.w : Int) - 1) = kY (unK b.o) ((↑b.w : Int) - 1) ∧ kQ (unK b.o) ((↑b.w : Int) - 1) = kQ (unK b.o) ((↑b.w : Int) - 1) ∧ b.n = b.n ∧ 3 = 3
∧ 0 = 0 ∧ Int.toNat ((↑b.w : Int) - 1) = Int.toNat ((↑b.w : Int) - 1) ∧ 0 = 0 ∧ iI 0 = 0 ∧ (∃ (L : List Cl), ∃ (R : List Cl), ∃ (j : Nat), 0 = (↑j : Int) ∧ j ≤ 3 ∧ repM b.es L ∧ b.o = flatK R ∧ b.n =
List.length R ∧ Int.toNat ((↑b.w : Int) - 1) ≤ b.n ∧ b.n + List.length L < 1000000 ∧ 2 * List.length b.es + Int.toNat ((↑b.w : Int) - 1) < 2 * List.length b.es + b.w ∧ invD l L (List.take (Int.toNat
((↑b.w : Int) - 1)) R) (kX (unK b.o) ((↑b.w : Int) - 1), kY (unK b.o) ((↑b.w : Int) - 1), kQ (unK b.o) ((↑b.w : Int) - 1)) (↑j : Int)) ∧ ∀ (b_1 : M42), (∃ (L : List Cl), ∃ (R : List Cl), ∃ (j : Nat),
b_1.e = (↑j : Int) ∧ j ≤ 3 ∧ repM b_1.es L ∧ b_1.o = flatK R ∧ b_1.n = List.length R ∧ b_1.w ≤ b_1.n ∧ b_1.n + List.length L < 1000000 ∧ 2 * List.length b_1.es + b_1.w < 2 * List.length b.es + b.w ∧
invD l L (List.take b_1.w R) (kX (unK b.o) ((↑b.w : Int) - 1), kY (unK b.o) ((↑b.w : Int) - 1), kQ (unK b.o) ((↑b.w : Int) - 1)) (↑j : Int)) → (ltb b_1.e 3 = true → (vldC (kX (unK b.o) ((↑b.w : Int) -
1), kY (unK b.o) ((↑b.w : Int) - 1), kQ (unK b.o) ((↑b.w : Int) - 1)) = true ∧ 0 ≤ kQ (unK b.o) ((↑b.w : Int) - 1) ∧ 0 ≤ b_1.e ∧ b_1.e ≤ 2) ∧ ((nbE (kX (unK b.o) ((↑b.w : Int) - 1)) (kY (unK b.o)
((↑b.w : Int) - 1)) (kQ (unK b.o) ((↑b.w : Int) - 1)) b_1.e == 0) = true → ((List.getD (Option.getD (mget b_1.es [nbX (kX (unK b.o) ((↑b.w : Int) - 1)) (kY (unK b.o) ((↑b.w : Int) - 1)) (kQ (unK b.o)
((↑b.w : Int) - 1)) b_1.e, nbY (kX (unK b.o) ((↑b.w : Int) - 1)) (kY (unK b.o) ((↑b.w : Int) - 1)) (kQ (unK b.o) ((↑b.w : Int) - 1)) b_1.e, nbQ (kX (unK b.o) ((↑b.w : Int) - 1)) (kY (unK b.o) ((↑b.w :
Int) - 1)) (kQ (unK b.o) ((↑b.w : Int) - 1)) b_1.e]) []) 0 0 != 0) = true → b_1.n = b_1.n ∧ len' ((b_1.w + 1) * 24) 140737488355328 = true ∧ inR IntKind.u8 (b_1.e + 1) = true ∧ 0 = 0 ∧ mdel b_1.es
[nbX (kX (unK b.o) ((↑b.w : Int) - 1)) (kY (unK b.o) ((↑b.w : Int) - 1)) (kQ (unK b.o) ((↑b.w : Int) - 1)) b_1.e, nbY (kX (unK b.o) ((↑b.w : Int) - 1)) (kY (unK b.o) ((↑b.w : Int) - 1)) (kQ (unK b.o)
((↑b.w : Int) - 1)) b_1.e, nbQ (kX (unK b.o) ((↑b.w : Int) - 1)) (kY (unK b.o) ((↑b.w : Int) - 1)) (kQ (unK b.o) ((↑b.w : Int) - 1)) b_1.e] = mdel b_1.es [nbX (kX (unK b.o) ((↑b.w : Int) - 1)) (kY
(unK b.o) ((↑b.w : Int) - 1)) (kQ (unK b.o) ((↑b.w : Int) - 1)) b_1.e, nbY (kX (unK b.o) ((↑b.w : Int) - 1)) (kY (unK b.o) ((↑b.w : Int) - 1)) (kQ (unK b.o) ((↑b.w : Int) - 1)) b_1.e, nbQ (kX (unK
b.o) ((↑b.w : Int) - 1)) (kY (unK b.o) ((↑b.w : Int) - 1)) (kQ (unK b.o) ((↑b.w : Int) - 1)) b_1.e] ∧ b_1.k = b_1.k ∧ max b_1.n (b_1.w + 1) = max b_1.n (b_1.w + 1) ∧ List.take (b_1.w * 3) b_1.o ++
[AV.int IntKind.i64 (nbX (kX (unK b.o) ((↑b.w : Int) - 1)) (kY (unK b.o) ((↑b.w : Int) - 1)) (kQ (unK b.o) ((↑b.w : Int) - 1)) b_1.e), AV.int IntKind.i64 (nbY (kX (unK b.o) ((↑b.w : Int) - 1)) (kY
(unK b.o) ((↑b.w : Int) - 1)) (kQ (unK b.o) ((↑b.w : Int) - 1)) b_1.e), AV.int IntKind.u8 (nbQ (kX (unK b.o) ((↑b.w : Int) - 1)) (kY (unK b.o) ((↑b.w : Int) - 1)) (kQ (unK b.o) ((↑b.w : Int) - 1))
b_1.e)] ++ List.drop ((b_1.w + 1) * 3) b_1.o = List.take (b_1.w * 3) b_1.o ++ [AV.int IntKind.i64 (nbX (kX (unK b.o) ((↑b.w : Int) - 1)) (kY (unK b.o) ((↑b.w : Int) - 1)) (kQ (unK b.o) ((↑b.w : Int) -
1)) b_1.e), AV.int IntKind.i64 (nbY (kX (unK b.o) ((↑b.w : Int) - 1)) (kY (unK b.o) ((↑b.w : Int) - 1)) (kQ (unK b.o) ((↑b.w : Int) - 1)) b_1.e), AV.int IntKind.u8 (nbQ (kX (unK b.o) ((↑b.w : Int) -
1)) (kY (unK b.o) ((↑b.w : Int) - 1)) (kQ (unK b.o) ((↑b.w : Int) - 1)) b_1.e)] ++ List.drop ((b_1.w + 1) * 3) b_1.o ∧ 1 = 1 ∧ kX (unK b.o) ((↑b.w : Int) - 1) = kX (unK b.o) ((↑b.w : Int) - 1) ∧ kY
(unK b.o) ((↑b.w : Int) - 1) = kY (unK b.o) ((↑b.w : Int) - 1) ∧ kQ (unK b.o) ((↑b.w : Int) - 1) = kQ (unK b.o) ((↑b.w : Int) - 1) ∧ max b_1.n (b_1.w + 1) = max b_1.n (b_1.w + 1) ∧ 3 = 3 ∧ 0 = 0 ∧
b_1.w + 1 = b_1.w + 1 ∧ 0 = 0 ∧ b_1.e + 1 = b_1.e + 1 ∧ (∃ (L : List Cl), ∃ (R : List Cl), ∃ (j : Nat), b_1.e + 1 = (↑j : Int) ∧ j ≤ 3 ∧ repM (mdel b_1.es [nbX (kX (unK b.o) ((↑b.w : Int) - 1)) (kY
(unK b.o) ((↑b.w : Int) - 1)) (kQ (unK b.o) ((↑b.w : Int) - 1)) b_1.e, nbY (kX (unK b.o) ((↑b.w : Int) - 1)) (kY (unK b.o) ((↑b.w : Int) - 1)) (kQ (unK b.o) ((↑b.w : Int) - 1)) b_1.e, nbQ (kX (unK
b.o) ((↑b.w : Int) - 1)) (kY (unK b.o) ((↑b.w : Int) - 1)) (kQ (unK b.o) ((↑b.w : Int) - 1)) b_1.e]) L ∧ List.take (b_1.w * 3) b_1.o ++ [AV.int IntKind.i64 (nbX (kX (unK b.o) ((↑b.w : Int) - 1)) (kY
(unK b.o) ((↑b.w : Int) - 1)) (kQ (unK b.o) ((↑b.w : Int) - 1)) b_1.e), AV.int IntKind.i64 (nbY (kX (unK b.o) ((↑b.w : Int) - 1)) (kY (unK b.o) ((↑b.w : Int) - 1)) (kQ (unK b.o) ((↑b.w : Int) - 1))
b_1.e), AV.int IntKind.u8 (nbQ (kX (unK b.o) ((↑b.w : Int) - 1)) (kY (unK b.o) ((↑b.w : Int) - 1)) (kQ (unK b.o) ((↑b.w : Int) - 1)) b_1.e)] ++ List.drop ((b_1.w + 1) * 3) b_1.o = flatK R ∧ max b_1.n
(b_1.w + 1) = List.length R ∧ b_1.w + 1 ≤ max b_1.n (b_1.w + 1) ∧ max b_1.n (b_1.w + 1) + List.length L < 1000000 ∧ 2 * List.length (mdel b_1.es [nbX (kX (unK b.o) ((↑b.w : Int) - 1)) (kY (unK b.o)
((↑b.w : Int) - 1)) (kQ (unK b.o) ((↑b.w : Int) - 1)) b_1.e, nbY (kX (unK b.o) ((↑b.w : Int) - 1)) (kY (unK b.o) ((↑b.w : Int) - 1)) (kQ (unK b.o) ((↑b.w : Int) - 1)) b_1.e, nbQ (kX (unK b.o) ((↑b.w :
Int) - 1)) (kY (unK b.o) ((↑b.w : Int) - 1)) (kQ (unK b.o) ((↑b.w : Int) - 1)) b_1.e]) + (b_1.w + 1) < 2 * List.length b.es + b.w ∧ invD l L (List.take (b_1.w + 1) R) (kX (unK b.o) ((↑b.w : Int) - 1),
kY (unK b.o) ((↑b.w : Int) - 1), kQ (unK b.o) ((↑b.w : Int) - 1)) (↑j : Int)) ∧ 3 - Int.toNat (b_1.e + 1) < 3 - Int.toNat b_1.e ∧ True) ∧ ((List.getD (Option.getD (mget b_1.es [nbX (kX (unK b.o)
((↑b.w : Int) - 1)) (kY (unK b.o) ((↑b.w : Int) - 1)) (kQ (unK b.o) ((↑b.w : Int) - 1)) b_1.e, nbY (kX (unK b.o) ((↑b.w : Int) - 1)) (kY (unK b.o) ((↑b.w : Int) - 1)) (kQ (unK b.o) ((↑b.w : Int) - 1))
b_1.e, nbQ (kX (unK b.o) ((↑b.w : Int) - 1)) (kY (unK b.o) ((↑b.w : Int) - 1)) (kQ (unK b.o) ((↑b.w : Int) - 1)) b_1.e]) []) 0 0 != 0) = false → inR IntKind.u8 (b_1.e + 1) = true ∧ 0 = 0 ∧ b_1.es =
b_1.es ∧ b_1.k = b_1.k ∧ b_1.n = b_1.n ∧ b_1.o = b_1.o ∧ 1 = 1 ∧ kX (unK b.o) ((↑b.w : Int) - 1) = kX (unK b.o) ((↑b.w : Int) - 1) ∧ kY (unK b.o) ((↑b.w : Int) - 1) = kY (unK b.o) ((↑b.w : Int) - 1) ∧
kQ (unK b.o) ((↑b.w : Int) - 1) = kQ (unK b.o) ((↑b.w : Int) - 1) ∧ b_1.n = b_1.n ∧ 3 = 3 ∧ 0 = 0 ∧ b_1.w = b_1.w ∧ 0 = 0 ∧ b_1.e + 1 = b_1.e + 1 ∧ (∃ (L : List Cl), ∃ (R : List Cl), ∃ (j : Nat),
b_1.e + 1 = (↑j : Int) ∧ j ≤ 3 ∧ repM b_1.es L ∧ b_1.o = flatK R ∧ b_1.n = List.length R ∧ b_1.w ≤ b_1.n ∧ b_1.n + List.length L < 1000000 ∧ 2 * List.length b_1.es + b_1.w < 2 * List.length b.es + b.w
∧ invD l L (List.take b_1.w R) (kX (unK b.o) ((↑b.w : Int) - 1), kY (unK b.o) ((↑b.w : Int) - 1), kQ (unK b.o) ((↑b.w : Int) - 1)) (↑j : Int)) ∧ 3 - Int.toNat (b_1.e + 1) < 3 - Int.toNat b_1.e ∧
True)) ∧ ((nbE (kX (unK b.o) ((↑b.w : Int) - 1)) (kY (unK b.o) ((↑b.w : Int) - 1)) (kQ (unK b.o) ((↑b.w : Int) - 1)) b_1.e == 0) = false → inR IntKind.u8 (b_1.e + 1) = true ∧ 0 = 0 ∧ b_1.es = b_1.es ∧
b_1.k = b_1.k ∧ b_1.n = b_1.n ∧ b_1.o = b_1.o ∧ 1 = 1 ∧ kX (unK b.o) ((↑b.w : Int) - 1) = kX (unK b.o) ((↑b.w : Int) - 1) ∧ kY (unK b.o) ((↑b.w : Int) - 1) = kY (unK b.o) ((↑b.w : Int) - 1) ∧ kQ (unK
b.o) ((↑b.w : Int) - 1) = kQ (unK b.o) ((↑b.w : Int) - 1) ∧ b_1.n = b_1.n ∧ 3 = 3 ∧ 0 = 0 ∧ b_1.w = b_1.w ∧ 0 = 0 ∧ b_1.e + 1 = b_1.e + 1 ∧ (∃ (L : List Cl), ∃ (R : List Cl), ∃ (j : Nat), b_1.e + 1 =
(↑j : Int) ∧ j ≤ 3 ∧ repM b_1.es L ∧ b_1.o = flatK R ∧ b_1.n = List.length R ∧ b_1.w ≤ b_1.n ∧ b_1.n + List.length L < 1000000 ∧ 2 * List.length b_1.es + b_1.w < 2 * List.length b.es + b.w ∧ invD l L
(List.take b_1.w R) (kX (unK b.o) ((↑b.w : Int) - 1), kY (unK b.o) ((↑b.w : Int) - 1), kQ (unK b.o) ((↑b.w : Int) - 1)) (↑j : Int)) ∧ 3 - Int.toNat (b_1.e + 1) < 3 - Int.toNat b_1.e ∧ True)) ∧ (ltb
b_1.e 3 = false → 0 = 0 ∧ b_1.es = b_1.es ∧ b_1.k = b_1.k ∧ b_1.n = b_1.n ∧ b_1.o = b_1.o ∧ b_1.n = b_1.n ∧ 3 = 3 ∧ 0 = 0 ∧ b_1.w = b_1.w ∧ (∃ (L : List Cl), ∃ (R : List Cl), repM b_1.es L ∧ b_1.o =
flatK R ∧ b_1.n = List.length R ∧ b_1.w ≤ b_1.n ∧ b_1.n + List.length L < 1000000 ∧ invC l L (List.take b_1.w R)) ∧ 2 * List.length b_1.es + b_1.w < 2 * List.length b.es + b.w ∧ True)) ∧ (ltb 0 (↑b.w
: Int) = false → ((↑(List.length b.es) : Int) == 0) = cnX l ∧ 0 = chkI l ∧ True)))) := by kernel_rfl

end Go.Proofs.YtmnaghfndigfkaaDoor.X
