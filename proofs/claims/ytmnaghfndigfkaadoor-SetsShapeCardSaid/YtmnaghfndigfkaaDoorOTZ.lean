/-
 What is to be shown of the functions (made by a program).
-/
import Derived.Test.YtmnaghfndigfkaaDoorDTZ
import Derived.KernelRfl
set_option maxRecDepth 1000000
set_option linter.unusedVariables false
namespace Go.Proofs.YtmnaghfndigfkaaDoor.X
open Go Go.Ab

theorem ob_o45 (l : List Cl) : fnP (TT45) G 10000 fe45 (.r [] 0 (.r [] 0 (.r [] 0 (.gho 3 9001 4 (Cont.vals []) (.lp (l45 l) [] [] (fun b => (.r [] 0 (.cnd (.r [] 0 (.lp (m45 l (kC l b.i) b.o b.n) [] [] (fun b_1 => (.r [] 0 (.cnd (.r [(580, .auto, Dr.val (kV l b.i))] 0 (.cnd (.r [(644, .auto, Dr.val (kV l b.i))] 512 (.r [] 0 .nil)) (.r [] 0 .nil))) (.r [] 0 .nil)))))) (.frz 3 0 (.r [] 0 .nil)))))))))) ([cls l]) ([.imm (.vals (flatE (outF l l.length))) (outF l l.length).length none]) ([]) = (
0 = 0 ∧ ([] : List AV) = [] ∧ Cont.vals (flatK l) = Cont.vals (flatK l) ∧ List.length l = List.length l ∧ 0 = 0 ∧ iI 0 = 0 ∧ (∃ (n : Nat), 0 = (↑n : Int) ∧ n ≤ List.length l ∧ [] = flatE (outF l n) ∧
0 = List.length (outF l n)) ∧ ∀ (b : M43), (∃ (n : Nat), b.i = (↑n : Int) ∧ n ≤ List.length l ∧ b.o = flatE (outF l n) ∧ b.n = List.length (outF l n)) → (ltb b.i (↑(List.length l) : Int) = true → b.n
= b.n ∧ b.o = b.o ∧ Cont.vals (flatK l) = Cont.vals (flatK l) ∧ List.length l = List.length l ∧ b.n = b.n ∧ b.i = b.i ∧ iI 0 = 0 ∧ (∃ (n : Nat), 0 = (↑n : Int) ∧ n ≤ 3 ∧ b.o = b.o ++ flatE (outE l (kX
l b.i, kY l b.i, kQ l b.i) n) ∧ b.n = b.n + List.length (outE l (kX l b.i, kY l b.i, kQ l b.i) n)) ∧ ∀ (b_1 : M43), (∃ (n : Nat), b_1.i = (↑n : Int) ∧ n ≤ 3 ∧ b_1.o = b.o ++ flatE (outE l (kX l b.i,
kY l b.i, kQ l b.i) n) ∧ b_1.n = b.n + List.length (outE l (kX l b.i, kY l b.i, kQ l b.i) n)) → (ltb b_1.i 3 = true → leb 0 b.i = true ∧ ltb b.i (↑(List.length l) : Int) = true ∧ ltn 0 (Cont.size
(Cont.vals (flatK l))) = true ∧ (List.drop (Int.toNat b.i * 3) (flatK l))[0]? = some (AV.int IntKind.i64 (kX l b.i)) ∧ (List.drop (Int.toNat b.i * 3) (flatK l))[1]? = some (AV.int IntKind.i64 (kY l
b.i)) ∧ (List.drop (Int.toNat b.i * 3) (flatK l))[2]? = some (AV.int IntKind.u8 (kQ l b.i)) ∧ (smc (kX l b.i) (kY l b.i) (kQ l b.i) ∧ (-4096 ≤ kX l b.i ∧ kX l b.i ≤ 4096) ∧ (-4096 ≤ kY l b.i ∧ kY l
b.i ≤ 4096) ∧ 0 ≤ b_1.i ∧ b_1.i ≤ 2) ∧ okL (flatK l) (List.length l) ∧ ((bI (hasL (unK (flatK l)) (nrX (kX l b.i) (kY l b.i) (kQ l b.i) b_1.i, nrY (kX l b.i) (kY l b.i) (kQ l b.i) b_1.i, nrQ (kX l
b.i) (kY l b.i) (kQ l b.i) b_1.i)) 1 0 == 0) = true → leb 0 b.i = true ∧ ltb b.i (↑(List.length l) : Int) = true ∧ ltn 0 (Cont.size (Cont.vals (flatK l))) = true ∧ (List.drop (Int.toNat b.i * 3)
(flatK l))[0]? = some (AV.int IntKind.i64 (kX l b.i)) ∧ (List.drop (Int.toNat b.i * 3) (flatK l))[1]? = some (AV.int IntKind.i64 (kY l b.i)) ∧ (List.drop (Int.toNat b.i * 3) (flatK l))[2]? = some
(AV.int IntKind.u8 (kQ l b.i)) ∧ inR IntKind.u8 b_1.i = true ∧ b_1.n = b_1.n ∧ len' ((b_1.n + 1) * 32) 140737488355328 = true ∧ inR IntKind.i64 (b_1.i + 1) = true ∧ b_1.n + 1 = b_1.n + 1 ∧ b_1.o ++
[AV.int IntKind.i64 (kX l b.i), AV.int IntKind.i64 (kY l b.i), AV.int IntKind.u8 (kQ l b.i), AV.int IntKind.u8 b_1.i] = b_1.o ++ [AV.int IntKind.i64 (kX l b.i), AV.int IntKind.i64 (kY l b.i), AV.int
IntKind.u8 (kQ l b.i), AV.int IntKind.u8 b_1.i] ∧ Cont.vals (flatK l) = Cont.vals (flatK l) ∧ List.length l = List.length l ∧ b_1.n + 1 = b_1.n + 1 ∧ b.i = b.i ∧ b_1.i + 1 = b_1.i + 1 ∧ (∃ (n : Nat),
b_1.i + 1 = (↑n : Int) ∧ n ≤ 3 ∧ b_1.o ++ [AV.int IntKind.i64 (kX l b.i), AV.int IntKind.i64 (kY l b.i), AV.int IntKind.u8 (kQ l b.i), AV.int IntKind.u8 b_1.i] = b.o ++ flatE (outE l (kX l b.i, kY l
b.i, kQ l b.i) n) ∧ b_1.n + 1 = b.n + List.length (outE l (kX l b.i, kY l b.i, kQ l b.i) n)) ∧ 3 - Int.toNat (b_1.i + 1) < 3 - Int.toNat b_1.i ∧ True) ∧ ((bI (hasL (unK (flatK l)) (nrX (kX l b.i) (kY
l b.i) (kQ l b.i) b_1.i, nrY (kX l b.i) (kY l b.i) (kQ l b.i) b_1.i, nrQ (kX l b.i) (kY l b.i) (kQ l b.i) b_1.i)) 1 0 == 0) = false → inR IntKind.i64 (b_1.i + 1) = true ∧ b_1.n = b_1.n ∧ b_1.o = b_1.o
∧ Cont.vals (flatK l) = Cont.vals (flatK l) ∧ List.length l = List.length l ∧ b_1.n = b_1.n ∧ b.i = b.i ∧ b_1.i + 1 = b_1.i + 1 ∧ (∃ (n : Nat), b_1.i + 1 = (↑n : Int) ∧ n ≤ 3 ∧ b_1.o = b.o ++ flatE
(outE l (kX l b.i, kY l b.i, kQ l b.i) n) ∧ b_1.n = b.n + List.length (outE l (kX l b.i, kY l b.i, kQ l b.i) n)) ∧ 3 - Int.toNat (b_1.i + 1) < 3 - Int.toNat b_1.i ∧ True)) ∧ (ltb b_1.i 3 = false → inR
IntKind.i64 (b.i + 1) = true ∧ b_1.n = b_1.n ∧ b_1.o = b_1.o ∧ Cont.vals (flatK l) = Cont.vals (flatK l) ∧ List.length l = List.length l ∧ b_1.n = b_1.n ∧ b.i + 1 = b.i + 1 ∧ (∃ (n : Nat), b.i + 1 =
(↑n : Int) ∧ n ≤ List.length l ∧ b_1.o = flatE (outF l n) ∧ b_1.n = List.length (outF l n)) ∧ List.length l - Int.toNat (b.i + 1) < List.length l - Int.toNat b.i ∧ True)) ∧ (ltb b.i (↑(List.length l)
: Int) = false → b.n = b.n ∧ Cont.vals b.o = Cont.vals (flatE (outF l (List.length l))) ∧ b.n = List.length (outF l (List.length l)) ∧ True)) := by kernel_rfl

theorem ob_d_47 (l : List Cl) (x y q : Int) : fnD (T0) G 10000 (fe47) (.r [] 0 (.r [] 0 (.lp (l47 l (x, y, q)) [] [] (fun b => (.r [] 0 (.cnd (.r [(323, .auto, Dr.val (kV l b.i))] 128 (.cnd (.r [] 0 .nil) (.r [] 0 .nil))) (.r [] 0 .nil))))))) ([.full 259 l.length, .agg [.int .i64 x, .int .i64 y, .int .u8 q]]) ([(259, b46 (flatK l) l.length)]) ([.int .i64 (bI (hasL l (x, y, q)) 1 0)]) ([(259, b46 (flatK l) l.length)]) = (
List.length l = List.length l ∧ flatK l = flatK l ∧ 1 = 1 ∧ x = x ∧ y = y ∧ q = q ∧ List.length l = List.length l ∧ 0 = 0 ∧ iI 0 = 0 ∧ (∃ (n : Nat), 0 = (↑n : Int) ∧ n ≤ List.length l ∧ hasL
(List.drop n l) (x, y, q) = hasL l (x, y, q)) ∧ ∀ (b : L1), (∃ (n : Nat), b.i = (↑n : Int) ∧ n ≤ List.length l ∧ hasL (List.drop n l) (x, y, q) = hasL l (x, y, q)) → List.length l = List.length l ∧
(ltb b.i (↑(List.length l) : Int) = true → leb 0 b.i = true ∧ ltb b.i (↑(List.length l) : Int) = true ∧ List.length l = List.length l ∧ List.length l = List.length l ∧ (flatK l)[Int.toNat b.i * 3]? =
some (AV.int IntKind.i64 (kX l b.i)) ∧ (flatK l)[Int.toNat b.i * 3 + 1]? = some (AV.int IntKind.i64 (kY l b.i)) ∧ (flatK l)[Int.toNat b.i * 3 + 1 + 1]? = some (AV.int IntKind.u8 (kQ l b.i)) ∧ ((kX l
b.i == x && (kY l b.i == y && kQ l b.i == q)) = true → List.length l = List.length l ∧ flatK l = flatK l ∧ 1 = bI (hasL l (x, y, q)) 1 0 ∧ True) ∧ ((kX l b.i == x && (kY l b.i == y && kQ l b.i == q))
= false → inR IntKind.i64 (b.i + 1) = true ∧ List.length l = List.length l ∧ flatK l = flatK l ∧ 1 = 1 ∧ x = x ∧ y = y ∧ q = q ∧ List.length l = List.length l ∧ 0 = 0 ∧ b.i + 1 = b.i + 1 ∧ (∃ (n :
Nat), b.i + 1 = (↑n : Int) ∧ n ≤ List.length l ∧ hasL (List.drop n l) (x, y, q) = hasL l (x, y, q)) ∧ List.length l - Int.toNat (b.i + 1) < List.length l - Int.toNat b.i ∧ True)) ∧ (ltb b.i
(↑(List.length l) : Int) = false → List.length l = List.length l ∧ flatK l = flatK l ∧ 0 = bI (hasL l (x, y, q)) 1 0 ∧ True)) := by kernel_rfl

theorem ob_o46 (l : List Cl) : fnP (TT46) G 10000 fe46 (.r [] 0 (.r [] 0 (.cnd (.r [] 0 .nil) (.r [(258, .auto, Dr.val (kV l 0))] 1 (.r [] 0 (.lp (l46 l) [] [] (fun b => (.r [] 0 (.cnd (.r [] 0 (.r [] 0 (.lp (m46 l b.n) [] [] (fun b_1 => (.r [] 0 (.cnd (.r [(708, .auto, Dr.val (kV l b_1.i)), (709, .auto, Dr.heap)] 0 (.cnd (.r [] 0 .nil) (.r [] 0 (.lp (n46 l (kC l b_1.i) b_1.i b.n) [] [] (fun b_2 => (.r [] 0 (.cnd (.rs 10 [(964, .auto, Dr.val (kV l b_1.i)), (967, .auto, Dr.heap)] 0 41 (.r [(974, .auto, Dr.val (kV l b_1.i)), (975, .auto, Dr.heap)] 384 (.cnd (.r [(1028, .auto, Dr.val (kV l b_1.i))] 256 (.r [] 0 (.r [] 0 .nil))) (.r [] 0 .nil))) (.r [(974, .auto, Dr.val (kV l b_1.i)), (975, .auto, Dr.heap)] 3 (.lit (.r [] 0 .nil)))) (.r [] 0 .nil)))))))) .nil)))))) (.r [] 0 (.cnd (.r [] 0 .nil) (.r [] 0 .nil)))))))))))) ([cls l]) ([.int .i64 (bI (conB l) 1 0)]) ([]) = (
(((↑(List.length l) : Int) == 0) = true → 1 = bI (conB l) 1 0 ∧ True) ∧ (((↑(List.length l) : Int) == 0) = false → ltb 0 (↑(List.length l) : Int) = true ∧ ltn 0 (Cont.size (Cont.vals (flatK l))) =
true ∧ (List.drop 0 (flatK l))[0]? = some (AV.int IntKind.i64 (kX l 0)) ∧ (List.drop 0 (flatK l))[1]? = some (AV.int IntKind.i64 (kY l 0)) ∧ (List.drop 0 (flatK l))[2]? = some (AV.int IntKind.u8 (kQ l
0)) ∧ 1 = 1 ∧ [AV.int IntKind.i64 (kX l 0), AV.int IntKind.i64 (kY l 0), AV.int IntKind.u8 (kQ l 0)] = [AV.int IntKind.i64 (kX l 0), AV.int IntKind.i64 (kY l 0), AV.int IntKind.u8 (kQ l 0)] ∧
Cont.vals (flatK l) = Cont.vals (flatK l) ∧ List.length l = List.length l ∧ 1 = 1 ∧ true = true ∧ (∃ (R : List Cl), [AV.int IntKind.i64 (kX l 0), AV.int IntKind.i64 (kY l 0), AV.int IntKind.u8 (kQ l
0)] = flatK R ∧ 1 = List.length R ∧ invR l R ∧ (true = false → stbl l R (List.length l))) ∧ ∀ (b : L46), (∃ (R : List Cl), b.o = flatK R ∧ b.n = List.length R ∧ invR l R ∧ (b.m = false → stbl l R
(List.length l))) → (b.m = true → b.n = b.n ∧ b.o = b.o ∧ Cont.vals (flatK l) = Cont.vals (flatK l) ∧ List.length l = List.length l ∧ b.n = b.n ∧ false = false ∧ iI 0 = 0 ∧ (∃ (R : List Cl), ∃ (k :
Nat), 0 = (↑k : Int) ∧ k ≤ List.length l ∧ b.o = flatK R ∧ b.n = List.length R ∧ invR l R ∧ (false = true → b.n < b.n) ∧ b.n ≤ b.n ∧ (false = false → stbl l R k)) ∧ ∀ (b_1 : M46), (∃ (R : List Cl), ∃
(k : Nat), b_1.i = (↑k : Int) ∧ k ≤ List.length l ∧ b_1.o = flatK R ∧ b_1.n = List.length R ∧ invR l R ∧ (b_1.m = true → b.n < b_1.n) ∧ b.n ≤ b_1.n ∧ (b_1.m = false → stbl l R k)) → (ltb b_1.i
(↑(List.length l) : Int) = true → leb 0 b_1.i = true ∧ ltb b_1.i (↑(List.length l) : Int) = true ∧ ltn 0 (Cont.size (Cont.vals (flatK l))) = true ∧ (List.drop (Int.toNat b_1.i * 3) (flatK l))[0]? =
some (AV.int IntKind.i64 (kX l b_1.i)) ∧ (List.drop (Int.toNat b_1.i * 3) (flatK l))[1]? = some (AV.int IntKind.i64 (kY l b_1.i)) ∧ (List.drop (Int.toNat b_1.i * 3) (flatK l))[2]? = some (AV.int
IntKind.u8 (kQ l b_1.i)) ∧ ([(259, HO.blk (Blk.mk (Cont.vals b_1.o) 3 b_1.n none (some false) true false))] = [(259, HO.blk (Blk.mk (Cont.vals b_1.o) 3 b_1.n none (some false) true false))] ∧ okL
b_1.o b_1.n) ∧ ((bI (hasL (unK b_1.o) (kX l b_1.i, kY l b_1.i, kQ l b_1.i)) 1 0 == 1) = true → inR IntKind.i64 (b_1.i + 1) = true ∧ b_1.n = b_1.n ∧ b_1.o = b_1.o ∧ Cont.vals (flatK l) = Cont.vals
(flatK l) ∧ List.length l = List.length l ∧ b_1.n = b_1.n ∧ b_1.m = b_1.m ∧ b_1.i + 1 = b_1.i + 1 ∧ (∃ (R : List Cl), ∃ (k : Nat), b_1.i + 1 = (↑k : Int) ∧ k ≤ List.length l ∧ b_1.o = flatK R ∧ b_1.n
= List.length R ∧ invR l R ∧ (b_1.m = true → b.n < b_1.n) ∧ b.n ≤ b_1.n ∧ (b_1.m = false → stbl l R k)) ∧ List.length l - Int.toNat (b_1.i + 1) < List.length l - Int.toNat b_1.i ∧ True) ∧ ((bI (hasL
(unK b_1.o) (kX l b_1.i, kY l b_1.i, kQ l b_1.i)) 1 0 == 1) = false → b_1.n = b_1.n ∧ b_1.o = b_1.o ∧ Cont.vals (flatK l) = Cont.vals (flatK l) ∧ List.length l = List.length l ∧ b_1.n = b_1.n ∧ b_1.m
= b_1.m ∧ b_1.i = b_1.i ∧ iI 0 = 0 ∧ (∃ (R : List Cl), ∃ (k : Nat), 0 = (↑k : Int) ∧ k ≤ 3 ∧ b_1.o = flatK R ∧ b_1.n = List.length R ∧ invR l R ∧ (b_1.m = true → b.n < b_1.n) ∧ b.n ≤ b_1.n ∧ (b_1.m =
false → stbl l R (Int.toNat b_1.i) ∧ free R (kX l b_1.i, kY l b_1.i, kQ l b_1.i) (↑k : Int))) ∧ ∀ (b_2 : M46), (∃ (R : List Cl), ∃ (k : Nat), b_2.i = (↑k : Int) ∧ k ≤ 3 ∧ b_2.o = flatK R ∧ b_2.n =
List.length R ∧ invR l R ∧ (b_2.m = true → b.n < b_2.n) ∧ b.n ≤ b_2.n ∧ (b_2.m = false → stbl l R (Int.toNat b_1.i) ∧ free R (kX l b_1.i, kY l b_1.i, kQ l b_1.i) (↑k : Int))) → (ltb b_2.i 3 = true →
leb 0 b_1.i = true ∧ ltb b_1.i (↑(List.length l) : Int) = true ∧ ltn 0 (Cont.size (Cont.vals (flatK l))) = true ∧ (List.drop (Int.toNat b_1.i * 3) (flatK l))[0]? = some (AV.int IntKind.i64 (kX l
b_1.i)) ∧ (List.drop (Int.toNat b_1.i * 3) (flatK l))[1]? = some (AV.int IntKind.i64 (kY l b_1.i)) ∧ (List.drop (Int.toNat b_1.i * 3) (flatK l))[2]? = some (AV.int IntKind.u8 (kQ l b_1.i)) ∧ (smc (kX
l b_1.i) (kY l b_1.i) (kQ l b_1.i) ∧ (-4096 ≤ kX l b_1.i ∧ kX l b_1.i ≤ 4096) ∧ (-4096 ≤ kY l b_1.i ∧ kY l b_1.i ≤ 4096) ∧ 0 ≤ b_2.i ∧ b_2.i ≤ 2) ∧ ([(259, HO.blk (Blk.mk (Cont.vals b_2.o) 3 b_2.n
none (some false) true false))] = [(259, HO.blk (Blk.mk (Cont.vals b_2.o) 3 b_2.n none (some false) true false))] ∧ okL b_2.o b_2.n) ∧ ((bI (hasL (unK b_2.o) (nrX (kX l b_1.i) (kY l b_1.i) (kQ l
b_1.i) b_2.i, nrY (kX l b_1.i) (kY l b_1.i) (kQ l b_1.i) b_2.i, nrQ (kX l b_1.i) (kY l b_1.i) (kQ l b_1.i) b_2.i)) 1 0 == 1) = true → leb 0 b_1.i = true ∧ ltb b_1.i (↑(List.length l) : Int) = true ∧
ltn 0 (Cont.size (Cont.vals (flatK l))) = true ∧ (List.drop (Int.toNat b_1.i * 3) (flatK l))[0]? = some (AV.int IntKind.i64 (kX l b_1.i)) ∧ (List.drop (Int.toNat b_1.i * 3) (flatK l))[1]? = some
(AV.int IntKind.i64 (kY l b_1.i)) ∧ (List.drop (Int.toNat b_1.i * 3) (flatK l))[2]? = some (AV.int IntKind.u8 (kQ l b_1.i)) ∧ ([(259, HO.blk (Blk.mk (Cont.vals b_2.o) 3 b_2.n none (some false) true
false))] = [(259, HO.blk (Blk.mk (Cont.vals b_2.o) 3 b_2.n none (some false) true false))] ∧ okL b_2.o b_2.n) ∧ ((bI (hasL (unK b_2.o) (kX l b_1.i, kY l b_1.i, kQ l b_1.i)) 1 0 == 0) = true → leb 0
b_1.i = true ∧ ltb b_1.i (↑(List.length l) : Int) = true ∧ ltn 0 (Cont.size (Cont.vals (flatK l))) = true ∧ (List.drop (Int.toNat b_1.i * 3) (flatK l))[0]? = some (AV.int IntKind.i64 (kX l b_1.i)) ∧
(List.drop (Int.toNat b_1.i * 3) (flatK l))[1]? = some (AV.int IntKind.i64 (kY l b_1.i)) ∧ (List.drop (Int.toNat b_1.i * 3) (flatK l))[2]? = some (AV.int IntKind.u8 (kQ l b_1.i)) ∧ b_2.n = b_2.n ∧
len' ((b_2.n + 1) * 24) 140737488355328 = true ∧ inR IntKind.i64 (b_2.i + 1) = true ∧ b_2.n + 1 = b_2.n + 1 ∧ b_2.o ++ [AV.int IntKind.i64 (kX l b_1.i), AV.int IntKind.i64 (kY l b_1.i), AV.int
IntKind.u8 (kQ l b_1.i)] = b_2.o ++ [AV.int IntKind.i64 (kX l b_1.i), AV.int IntKind.i64 (kY l b_1.i), AV.int IntKind.u8 (kQ l b_1.i)] ∧ Cont.vals (flatK l) = Cont.vals (flatK l) ∧ List.length l =
List.length l ∧ b_2.n + 1 = b_2.n + 1 ∧ true = true ∧ b_1.i = b_1.i ∧ b_2.i + 1 = b_2.i + 1 ∧ (∃ (R : List Cl), ∃ (k : Nat), b_2.i + 1 = (↑k : Int) ∧ k ≤ 3 ∧ b_2.o ++ [AV.int IntKind.i64 (kX l b_1.i),
AV.int IntKind.i64 (kY l b_1.i), AV.int IntKind.u8 (kQ l b_1.i)] = flatK R ∧ b_2.n + 1 = List.length R ∧ invR l R ∧ (true = true → b.n < b_2.n + 1) ∧ b.n ≤ b_2.n + 1 ∧ (true = false → stbl l R
(Int.toNat b_1.i) ∧ free R (kX l b_1.i, kY l b_1.i, kQ l b_1.i) (↑k : Int))) ∧ 3 - Int.toNat (b_2.i + 1) < 3 - Int.toNat b_2.i ∧ True) ∧ ((bI (hasL (unK b_2.o) (kX l b_1.i, kY l b_1.i, kQ l b_1.i)) 1
0 == 0) = false → inR IntKind.i64 (b_2.i + 1) = true ∧ b_2.n = b_2.n ∧ b_2.o = b_2.o ∧ Cont.vals (flatK l) = Cont.vals (flatK l) ∧ List.length l = List.length l ∧ b_2.n = b_2.n ∧ b_2.m = b_2.m ∧ b_1.i
= b_1.i ∧ b_2.i + 1 = b_2.i + 1 ∧ (∃ (R : List Cl), ∃ (k : Nat), b_2.i + 1 = (↑k : Int) ∧ k ≤ 3 ∧ b_2.o = flatK R ∧ b_2.n = List.length R ∧ invR l R ∧ (b_2.m = true → b.n < b_2.n) ∧ b.n ≤ b_2.n ∧
(b_2.m = false → stbl l R (Int.toNat b_1.i) ∧ free R (kX l b_1.i, kY l b_1.i, kQ l b_1.i) (↑k : Int))) ∧ 3 - Int.toNat (b_2.i + 1) < 3 - Int.toNat b_2.i ∧ True)) ∧ ((bI (hasL (unK b_2.o) (nrX (kX l
b_1.i) (kY l b_1.i) (kQ l b_1.i) b_2.i, nrY (kX l b_1.i) (kY l b_1.i) (kQ l b_1.i) b_2.i, nrQ (kX l b_1.i) (kY l b_1.i) (kQ l b_1.i) b_2.i)) 1 0 == 1) = false → inR IntKind.i64 (b_2.i + 1) = true ∧
b_2.n = b_2.n ∧ b_2.o = b_2.o ∧ Cont.vals (flatK l) = Cont.vals (flatK l) ∧ List.length l = List.length l ∧ b_2.n = b_2.n ∧ b_2.m = b_2.m ∧ b_1.i = b_1.i ∧ b_2.i + 1 = b_2.i + 1 ∧ (∃ (R : List Cl), ∃
(k : Nat), b_2.i + 1 = (↑k : Int) ∧ k ≤ 3 ∧ b_2.o = flatK R ∧ b_2.n = List.length R ∧ invR l R ∧ (b_2.m = true → b.n < b_2.n) ∧ b.n ≤ b_2.n ∧ (b_2.m = false → stbl l R (Int.toNat b_1.i) ∧ free R (kX l
b_1.i, kY l b_1.i, kQ l b_1.i) (↑k : Int))) ∧ 3 - Int.toNat (b_2.i + 1) < 3 - Int.toNat b_2.i ∧ True)) ∧ (ltb b_2.i 3 = false → inR IntKind.i64 (b_1.i + 1) = true ∧ b_2.n = b_2.n ∧ b_2.o = b_2.o ∧
Cont.vals (flatK l) = Cont.vals (flatK l) ∧ List.length l = List.length l ∧ b_2.n = b_2.n ∧ b_2.m = b_2.m ∧ b_1.i + 1 = b_1.i + 1 ∧ (∃ (R : List Cl), ∃ (k : Nat), b_1.i + 1 = (↑k : Int) ∧ k ≤
List.length l ∧ b_2.o = flatK R ∧ b_2.n = List.length R ∧ invR l R ∧ (b_2.m = true → b.n < b_2.n) ∧ b.n ≤ b_2.n ∧ (b_2.m = false → stbl l R k)) ∧ List.length l - Int.toNat (b_1.i + 1) < List.length l
- Int.toNat b_1.i ∧ True))) ∧ (ltb b_1.i (↑(List.length l) : Int) = false → b_1.n = b_1.n ∧ b_1.o = b_1.o ∧ Cont.vals (flatK l) = Cont.vals (flatK l) ∧ List.length l = List.length l ∧ b_1.n = b_1.n ∧
b_1.m = b_1.m ∧ (∃ (R : List Cl), b_1.o = flatK R ∧ b_1.n = List.length R ∧ invR l R ∧ (b_1.m = false → stbl l R (List.length l))) ∧ ((2 * (List.length l - b_1.n) + bif b_1.m then 1 else 0) < 2 *
(List.length l - b.n) + bif b.m then 1 else 0) ∧ True)) ∧ (b.m = false → b.n = b.n ∧ (((↑b.n : Int) == (↑(List.length l) : Int)) = true → 1 = bI (conB l) 1 0 ∧ True) ∧ (((↑b.n : Int) == (↑(List.length
l) : Int)) = false → 0 = bI (conB l) 1 0 ∧ True)))) := by kernel_rfl

end Go.Proofs.YtmnaghfndigfkaaDoor.X
