/-
 What is to be shown of the functions (made by a program).
-/
import Derived.Test.YtfafinkgmhkdmaaDoorVD8Z
import Derived.KernelRfl
set_option maxRecDepth 1000000
set_option linter.unusedVariables false
namespace Go.Proofs.YtfafinkgmhkdmaaDoor.X
open Go Go.Ab

theorem ob_y_28 (a k oa ok x y : List Int) : fnY (WB) G 10000 (9002) (.r [] 1 (.r [] 219 (.cnd (.r [] 3 .nil) .nil))) ([fanC x y]) (H28 a k oa ok) (true) ([(133, box28 (selL (ltF x y oa ok) x oa) (selL (ltF x y oa ok) y ok))]) = (
(List.length x = List.length x ∧ List.length oa = List.length oa ∧ List.length x < 1000000000000 ∧ List.length oa < 1000000000000) ∧ (List.length y = List.length y ∧ List.length ok = List.length ok ∧
List.length y < 1000000000000 ∧ List.length ok < 1000000000000) ∧ (ltb (orI (cmpL x oa) (cmpL y ok)) 0 = true → 1 = 1 ∧ Cont.ints IntKind.i64 x = Cont.ints IntKind.i64 (selL (ltF x y oa ok) x oa) ∧
List.length x = List.length (selL (ltF x y oa ok) x oa) ∧ List.length x = List.length (selL (ltF x y oa ok) x oa) ∧ Cont.ints IntKind.u8 y = Cont.ints IntKind.u8 (selL (ltF x y oa ok) y ok) ∧
List.length y = List.length (selL (ltF x y oa ok) y ok) ∧ List.length y = List.length (selL (ltF x y oa ok) y ok) ∧ 1 = 1 ∧ 0 = 0 ∧ (none : Option Ex) = none ∧ 34 = 34 ∧ [18] = [18] ∧ XC.reg 384
[XO.mk (some 6) (XOp.new (Cont.cells [AV.nils, AV.nils]) 1 2) none, XO.mk none (XOp.store 2 (Opd.t 6) (Opd.t 18)) none] [17, 18] = XC.reg 384 [XO.mk (some 6) (XOp.new (Cont.cells [AV.nils, AV.nils]) 1
2) none, XO.mk none (XOp.store 2 (Opd.t 6) (Opd.t 18)) none] [17, 18] ∧ XC.block 1 (XC.seq (XC.draw 448 [XO.mk (some 19) (XOp.fieldA 0 (Opd.t 6)) none, XO.mk (some 20) (XOp.load none (Opd.t 19)) none,
XO.mk (some 21) (XOp.fieldA 0 (Opd.t 4)) none, XO.mk (some 22) (XOp.load none (Opd.t 21)) none, XO.mk (some 23) (XOp.call 48 [Opd.t 20, Opd.t 22]) none, XO.mk (some 24) (XOp.fieldA 1 (Opd.t 6)) none,
XO.mk (some 25) (XOp.load none (Opd.t 24)) none, XO.mk (some 26) (XOp.fieldA 1 (Opd.t 4)) none, XO.mk (some 27) (XOp.load none (Opd.t 26)) none, XO.mk (some 28) (XOp.call 49 [Opd.t 25, Opd.t 27])
none, XO.mk (some 29) (XOp.buildS 1 2 4 [AV.int IntKind.i64 0] [(0, 1, Opd.t 23), (1, 1, Opd.t 28)]) none, XO.mk (some 30) (XOp.call 47 [Opd.t 29]) none, XO.mk (some 31) (XOp.bin BinOp.lss (Opd.t 30)
(Opd.c (AV.int IntKind.i64 0))) none] [[], [0], [], [2], [1, 3], [], [5], [], [7], [6, 8, 4], [4, 9], [10, 9], [11]] [0, 1, 2, 3, 4, 5, 6, 7, 8, 9, 10, 11, 12] [19, 20, 21, 22, 23, 24, 25, 26, 27, 28,
29, 30]) (XC.cond (Opd.t 31) (XC.reg 512 [XO.mk (some 32) (XOp.load (some 2) (Opd.t 6)) none, XO.mk none (XOp.store 2 (Opd.t 4) (Opd.t 32)) none] [6, 31, 32]) XC.skip)) = XC.block 1 (XC.seq (XC.draw
448 [XO.mk (some 19) (XOp.fieldA 0 (Opd.t 6)) none, XO.mk (some 20) (XOp.load none (Opd.t 19)) none, XO.mk (some 21) (XOp.fieldA 0 (Opd.t 4)) none, XO.mk (some 22) (XOp.load none (Opd.t 21)) none,
XO.mk (some 23) (XOp.call 48 [Opd.t 20, Opd.t 22]) none, XO.mk (some 24) (XOp.fieldA 1 (Opd.t 6)) none, XO.mk (some 25) (XOp.load none (Opd.t 24)) none, XO.mk (some 26) (XOp.fieldA 1 (Opd.t 4)) none,
XO.mk (some 27) (XOp.load none (Opd.t 26)) none, XO.mk (some 28) (XOp.call 49 [Opd.t 25, Opd.t 27]) none, XO.mk (some 29) (XOp.buildS 1 2 4 [AV.int IntKind.i64 0] [(0, 1, Opd.t 23), (1, 1, Opd.t 28)])
none, XO.mk (some 30) (XOp.call 47 [Opd.t 29]) none, XO.mk (some 31) (XOp.bin BinOp.lss (Opd.t 30) (Opd.c (AV.int IntKind.i64 0))) none] [[], [0], [], [2], [1, 3], [], [5], [], [7], [6, 8, 4], [4, 9],
[10, 9], [11]] [0, 1, 2, 3, 4, 5, 6, 7, 8, 9, 10, 11, 12] [19, 20, 21, 22, 23, 24, 25, 26, 27, 28, 29, 30]) (XC.cond (Opd.t 31) (XC.reg 512 [XO.mk (some 32) (XOp.load (some 2) (Opd.t 6)) none, XO.mk
none (XOp.store 2 (Opd.t 4) (Opd.t 32)) none] [6, 31, 32]) XC.skip)) ∧ 0 = 0 ∧ 0 = 0 ∧ Cont.vals [AV.imm (Cont.ints IntKind.i64 a) (List.length a) none, AV.imm (Cont.ints IntKind.u8 k) (List.length k)
none] = Cont.vals [AV.imm (Cont.ints IntKind.i64 a) (List.length a) none, AV.imm (Cont.ints IntKind.u8 k) (List.length k) none] ∧ true = true ∧ True) ∧ (ltb (orI (cmpL x oa) (cmpL y ok)) 0 = false → 1
= 1 ∧ Cont.ints IntKind.i64 oa = Cont.ints IntKind.i64 (selL (ltF x y oa ok) x oa) ∧ List.length oa = List.length (selL (ltF x y oa ok) x oa) ∧ List.length oa = List.length (selL (ltF x y oa ok) x oa)
∧ Cont.ints IntKind.u8 ok = Cont.ints IntKind.u8 (selL (ltF x y oa ok) y ok) ∧ List.length ok = List.length (selL (ltF x y oa ok) y ok) ∧ List.length ok = List.length (selL (ltF x y oa ok) y ok) ∧ 1 =
1 ∧ 0 = 0 ∧ (none : Option Ex) = none ∧ 34 = 34 ∧ [18] = [18] ∧ XC.reg 384 [XO.mk (some 6) (XOp.new (Cont.cells [AV.nils, AV.nils]) 1 2) none, XO.mk none (XOp.store 2 (Opd.t 6) (Opd.t 18)) none] [17,
18] = XC.reg 384 [XO.mk (some 6) (XOp.new (Cont.cells [AV.nils, AV.nils]) 1 2) none, XO.mk none (XOp.store 2 (Opd.t 6) (Opd.t 18)) none] [17, 18] ∧ XC.block 1 (XC.seq (XC.draw 448 [XO.mk (some 19)
(XOp.fieldA 0 (Opd.t 6)) none, XO.mk (some 20) (XOp.load none (Opd.t 19)) none, XO.mk (some 21) (XOp.fieldA 0 (Opd.t 4)) none, XO.mk (some 22) (XOp.load none (Opd.t 21)) none, XO.mk (some 23)
(XOp.call 48 [Opd.t 20, Opd.t 22]) none, XO.mk (some 24) (XOp.fieldA 1 (Opd.t 6)) none, XO.mk (some 25) (XOp.load none (Opd.t 24)) none, XO.mk (some 26) (XOp.fieldA 1 (Opd.t 4)) none, XO.mk (some 27)
(XOp.load none (Opd.t 26)) none, XO.mk (some 28) (XOp.call 49 [Opd.t 25, Opd.t 27]) none, XO.mk (some 29) (XOp.buildS 1 2 4 [AV.int IntKind.i64 0] [(0, 1, Opd.t 23), (1, 1, Opd.t 28)]) none, XO.mk
(some 30) (XOp.call 47 [Opd.t 29]) none, XO.mk (some 31) (XOp.bin BinOp.lss (Opd.t 30) (Opd.c (AV.int IntKind.i64 0))) none] [[], [0], [], [2], [1, 3], [], [5], [], [7], [6, 8, 4], [4, 9], [10, 9],
[11]] [0, 1, 2, 3, 4, 5, 6, 7, 8, 9, 10, 11, 12] [19, 20, 21, 22, 23, 24, 25, 26, 27, 28, 29, 30]) (XC.cond (Opd.t 31) (XC.reg 512 [XO.mk (some 32) (XOp.load (some 2) (Opd.t 6)) none, XO.mk none
(XOp.store 2 (Opd.t 4) (Opd.t 32)) none] [6, 31, 32]) XC.skip)) = XC.block 1 (XC.seq (XC.draw 448 [XO.mk (some 19) (XOp.fieldA 0 (Opd.t 6)) none, XO.mk (some 20) (XOp.load none (Opd.t 19)) none, XO.mk
(some 21) (XOp.fieldA 0 (Opd.t 4)) none, XO.mk (some 22) (XOp.load none (Opd.t 21)) none, XO.mk (some 23) (XOp.call 48 [Opd.t 20, Opd.t 22]) none, XO.mk (some 24) (XOp.fieldA 1 (Opd.t 6)) none, XO.mk
(some 25) (XOp.load none (Opd.t 24)) none, XO.mk (some 26) (XOp.fieldA 1 (Opd.t 4)) none, XO.mk (some 27) (XOp.load none (Opd.t 26)) none, XO.mk (some 28) (XOp.call 49 [Opd.t 25, Opd.t 27]) none,
XO.mk (some 29) (XOp.buildS 1 2 4 [AV.int IntKind.i64 0] [(0, 1, Opd.t 23), (1, 1, Opd.t 28)]) none, XO.mk (some 30) (XOp.call 47 [Opd.t 29]) none, XO.mk (some 31) (XOp.bin BinOp.lss (Opd.t 30) (Opd.c
(AV.int IntKind.i64 0))) none] [[], [0], [], [2], [1, 3], [], [5], [], [7], [6, 8, 4], [4, 9], [10, 9], [11]] [0, 1, 2, 3, 4, 5, 6, 7, 8, 9, 10, 11, 12] [19, 20, 21, 22, 23, 24, 25, 26, 27, 28, 29,
30]) (XC.cond (Opd.t 31) (XC.reg 512 [XO.mk (some 32) (XOp.load (some 2) (Opd.t 6)) none, XO.mk none (XOp.store 2 (Opd.t 4) (Opd.t 32)) none] [6, 31, 32]) XC.skip)) ∧ 0 = 0 ∧ 0 = 0 ∧ Cont.vals [AV.imm
(Cont.ints IntKind.i64 a) (List.length a) none, AV.imm (Cont.ints IntKind.u8 k) (List.length k) none] = Cont.vals [AV.imm (Cont.ints IntKind.i64 a) (List.length a) none, AV.imm (Cont.ints IntKind.u8
k) (List.length k) none] ∧ true = true ∧ True)) := by kernel_rfl

theorem ob_d_71 (a k : List Int) : fnD (TY28 a k) G 10000 (fe71) (.r [] 1 (.lp (l71 a k) [] [] (fun b => (.r [] 0 (.cnd (.r [] 0 (.r [(266, .auto, Dr.heap)] 5 (.lit (.r [] 0 .nil)))) .nil))))) ([.yld 9002, .iptr (fanVC a k)]) (H28 a k (rotL' a 0) (rotL' k 0)) ([]) ([(133, box28 (lsA a k) (lsK a k))]) = (
1 = 1 ∧ Cont.ints IntKind.i64 (rotL' a 0) = Cont.ints IntKind.i64 (rotL' a 0) ∧ List.length (rotL' a 0) = List.length (rotL' a 0) ∧ List.length (rotL' a 0) = List.length (rotL' a 0) ∧ Cont.ints
IntKind.u8 (rotL' k 0) = Cont.ints IntKind.u8 (rotL' k 0) ∧ List.length (rotL' k 0) = List.length (rotL' k 0) ∧ List.length (rotL' k 0) = List.length (rotL' k 0) ∧ 1 = 1 ∧ 0 = 0 ∧ (none : Option Ex) =
none ∧ 34 = 34 ∧ [18] = [18] ∧ XC.reg 384 [XO.mk (some 6) (XOp.new (Cont.cells [AV.nils, AV.nils]) 1 2) none, XO.mk none (XOp.store 2 (Opd.t 6) (Opd.t 18)) none] [17, 18] = XC.reg 384 [XO.mk (some 6)
(XOp.new (Cont.cells [AV.nils, AV.nils]) 1 2) none, XO.mk none (XOp.store 2 (Opd.t 6) (Opd.t 18)) none] [17, 18] ∧ XC.block 1 (XC.seq (XC.draw 448 [XO.mk (some 19) (XOp.fieldA 0 (Opd.t 6)) none, XO.mk
(some 20) (XOp.load none (Opd.t 19)) none, XO.mk (some 21) (XOp.fieldA 0 (Opd.t 4)) none, XO.mk (some 22) (XOp.load none (Opd.t 21)) none, XO.mk (some 23) (XOp.call 48 [Opd.t 20, Opd.t 22]) none,
XO.mk (some 24) (XOp.fieldA 1 (Opd.t 6)) none, XO.mk (some 25) (XOp.load none (Opd.t 24)) none, XO.mk (some 26) (XOp.fieldA 1 (Opd.t 4)) none, XO.mk (some 27) (XOp.load none (Opd.t 26)) none, XO.mk
(some 28) (XOp.call 49 [Opd.t 25, Opd.t 27]) none, XO.mk (some 29) (XOp.buildS 1 2 4 [AV.int IntKind.i64 0] [(0, 1, Opd.t 23), (1, 1, Opd.t 28)]) none, XO.mk (some 30) (XOp.call 47 [Opd.t 29]) none,
XO.mk (some 31) (XOp.bin BinOp.lss (Opd.t 30) (Opd.c (AV.int IntKind.i64 0))) none] [[], [0], [], [2], [1, 3], [], [5], [], [7], [6, 8, 4], [4, 9], [10, 9], [11]] [0, 1, 2, 3, 4, 5, 6, 7, 8, 9, 10,
11, 12] [19, 20, 21, 22, 23, 24, 25, 26, 27, 28, 29, 30]) (XC.cond (Opd.t 31) (XC.reg 512 [XO.mk (some 32) (XOp.load (some 2) (Opd.t 6)) none, XO.mk none (XOp.store 2 (Opd.t 4) (Opd.t 32)) none] [6,
31, 32]) XC.skip)) = XC.block 1 (XC.seq (XC.draw 448 [XO.mk (some 19) (XOp.fieldA 0 (Opd.t 6)) none, XO.mk (some 20) (XOp.load none (Opd.t 19)) none, XO.mk (some 21) (XOp.fieldA 0 (Opd.t 4)) none,
XO.mk (some 22) (XOp.load none (Opd.t 21)) none, XO.mk (some 23) (XOp.call 48 [Opd.t 20, Opd.t 22]) none, XO.mk (some 24) (XOp.fieldA 1 (Opd.t 6)) none, XO.mk (some 25) (XOp.load none (Opd.t 24))
none, XO.mk (some 26) (XOp.fieldA 1 (Opd.t 4)) none, XO.mk (some 27) (XOp.load none (Opd.t 26)) none, XO.mk (some 28) (XOp.call 49 [Opd.t 25, Opd.t 27]) none, XO.mk (some 29) (XOp.buildS 1 2 4 [AV.int
IntKind.i64 0] [(0, 1, Opd.t 23), (1, 1, Opd.t 28)]) none, XO.mk (some 30) (XOp.call 47 [Opd.t 29]) none, XO.mk (some 31) (XOp.bin BinOp.lss (Opd.t 30) (Opd.c (AV.int IntKind.i64 0))) none] [[], [0],
[], [2], [1, 3], [], [5], [], [7], [6, 8, 4], [4, 9], [10, 9], [11]] [0, 1, 2, 3, 4, 5, 6, 7, 8, 9, 10, 11, 12] [19, 20, 21, 22, 23, 24, 25, 26, 27, 28, 29, 30]) (XC.cond (Opd.t 31) (XC.reg 512 [XO.mk
(some 32) (XOp.load (some 2) (Opd.t 6)) none, XO.mk none (XOp.store 2 (Opd.t 4) (Opd.t 32)) none] [6, 31, 32]) XC.skip)) ∧ 0 = 0 ∧ 0 = 0 ∧ Cont.vals [AV.imm (Cont.ints IntKind.i64 a) (List.length a)
none, AV.imm (Cont.ints IntKind.u8 k) (List.length k) none] = Cont.vals [AV.imm (Cont.ints IntKind.i64 a) (List.length a) none, AV.imm (Cont.ints IntKind.u8 k) (List.length k) none] ∧ Cont.vals
[AV.imm (Cont.ints IntKind.i64 a) (List.length a) none, AV.imm (Cont.ints IntKind.u8 k) (List.length k) none] = Cont.vals [AV.imm (Cont.ints IntKind.i64 a) (List.length a) none, AV.imm (Cont.ints
IntKind.u8 k) (List.length k) none] ∧ (↑(List.length a) : Int) = (↑(List.length a) : Int) ∧ iI 0 = 0 ∧ (∃ (n : Nat), 0 = (↑n : Int) ∧ n ≤ List.length a ∧ rotL' a 0 = rotL' a (bestN (trn a k) n) ∧
rotL' k 0 = rotL' k (bestN (trn a k) n)) ∧ ∀ (b : L71), (∃ (n : Nat), b.i = (↑n : Int) ∧ n ≤ List.length a ∧ b.a = rotL' a (bestN (trn a k) n) ∧ b.k = rotL' k (bestN (trn a k) n)) → (ltb b.i
(↑(List.length a) : Int) = true → (List.length a = List.length a ∧ List.length a < 100000000000 ∧ 0 ≤ b.i ∧ b.i ≤ (↑(List.length a) : Int)) ∧ (List.length k = List.length k ∧ List.length k <
100000000000 ∧ 0 ≤ b.i ∧ b.i ≤ (↑(List.length k) : Int)) ∧ ([(133, HO.blk (Blk.mk (Cont.cells [AV.imm (Cont.ints IntKind.i64 b.a) (List.length b.a) (some (List.length b.a)), AV.imm (Cont.ints
IntKind.u8 b.k) (List.length b.k) (some (List.length b.k))]) 2 1 none (some false) true true)), (65, HO.blk (Blk.mk (Cont.cells [AV.nils, AV.nils]) 2 1 none (some false) true true)), (9002, HO.loop
(LoopS.mk 0 none [(2, AV.ptr 65 0), (4, AV.ptr 133 0), (17, AV.fn 71 [] [AV.iptr (Cont.vals [AV.imm (Cont.ints IntKind.i64 a) (List.length a) none, AV.imm (Cont.ints IntKind.u8 k) (List.length k)
none])])] 34 [18] (XC.reg 384 [XO.mk (some 6) (XOp.new (Cont.cells [AV.nils, AV.nils]) 1 2) none, XO.mk none (XOp.store 2 (Opd.t 6) (Opd.t 18)) none] [17, 18]) (XC.block 1 (XC.seq (XC.draw 448 [XO.mk
(some 19) (XOp.fieldA 0 (Opd.t 6)) none, XO.mk (some 20) (XOp.load none (Opd.t 19)) none, XO.mk (some 21) (XOp.fieldA 0 (Opd.t 4)) none, XO.mk (some 22) (XOp.load none (Opd.t 21)) none, XO.mk (some
23) (XOp.call 48 [Opd.t 20, Opd.t 22]) none, XO.mk (some 24) (XOp.fieldA 1 (Opd.t 6)) none, XO.mk (some 25) (XOp.load none (Opd.t 24)) none, XO.mk (some 26) (XOp.fieldA 1 (Opd.t 4)) none, XO.mk (some
27) (XOp.load none (Opd.t 26)) none, XO.mk (some 28) (XOp.call 49 [Opd.t 25, Opd.t 27]) none, XO.mk (some 29) (XOp.buildS 1 2 4 [AV.int IntKind.i64 0] [(0, 1, Opd.t 23), (1, 1, Opd.t 28)]) none, XO.mk
(some 30) (XOp.call 47 [Opd.t 29]) none, XO.mk (some 31) (XOp.bin BinOp.lss (Opd.t 30) (Opd.c (AV.int IntKind.i64 0))) none] [[], [0], [], [2], [1, 3], [], [5], [], [7], [6, 8, 4], [4, 9], [10, 9],
[11]] [0, 1, 2, 3, 4, 5, 6, 7, 8, 9, 10, 11, 12] [19, 20, 21, 22, 23, 24, 25, 26, 27, 28, 29, 30]) (XC.cond (Opd.t 31) (XC.reg 512 [XO.mk (some 32) (XOp.load (some 2) (Opd.t 6)) none, XO.mk none
(XOp.store 2 (Opd.t 4) (Opd.t 32)) none] [6, 31, 32]) XC.skip)))))] = [(133, HO.blk (Blk.mk (Cont.cells [AV.imm (Cont.ints IntKind.i64 b.a) (List.length b.a) (some (List.length b.a)), AV.imm
(Cont.ints IntKind.u8 b.k) (List.length b.k) (some (List.length b.k))]) 2 1 none (some false) true true)), (65, HO.blk (Blk.mk (Cont.cells [AV.nils, AV.nils]) 2 1 none (some false) true true)), (9002,
HO.loop (LoopS.mk 0 none [(2, AV.ptr 65 0), (4, AV.ptr 133 0), (17, AV.fn 71 [] [AV.iptr (Cont.vals [AV.imm (Cont.ints IntKind.i64 a) (List.length a) none, AV.imm (Cont.ints IntKind.u8 k) (List.length
k) none])])] 34 [18] (XC.reg 384 [XO.mk (some 6) (XOp.new (Cont.cells [AV.nils, AV.nils]) 1 2) none, XO.mk none (XOp.store 2 (Opd.t 6) (Opd.t 18)) none] [17, 18]) (XC.block 1 (XC.seq (XC.draw 448
[XO.mk (some 19) (XOp.fieldA 0 (Opd.t 6)) none, XO.mk (some 20) (XOp.load none (Opd.t 19)) none, XO.mk (some 21) (XOp.fieldA 0 (Opd.t 4)) none, XO.mk (some 22) (XOp.load none (Opd.t 21)) none, XO.mk
(some 23) (XOp.call 48 [Opd.t 20, Opd.t 22]) none, XO.mk (some 24) (XOp.fieldA 1 (Opd.t 6)) none, XO.mk (some 25) (XOp.load none (Opd.t 24)) none, XO.mk (some 26) (XOp.fieldA 1 (Opd.t 4)) none, XO.mk
(some 27) (XOp.load none (Opd.t 26)) none, XO.mk (some 28) (XOp.call 49 [Opd.t 25, Opd.t 27]) none, XO.mk (some 29) (XOp.buildS 1 2 4 [AV.int IntKind.i64 0] [(0, 1, Opd.t 23), (1, 1, Opd.t 28)]) none,
XO.mk (some 30) (XOp.call 47 [Opd.t 29]) none, XO.mk (some 31) (XOp.bin BinOp.lss (Opd.t 30) (Opd.c (AV.int IntKind.i64 0))) none] [[], [0], [], [2], [1, 3], [], [5], [], [7], [6, 8, 4], [4, 9], [10,
9], [11]] [0, 1, 2, 3, 4, 5, 6, 7, 8, 9, 10, 11, 12] [19, 20, 21, 22, 23, 24, 25, 26, 27, 28, 29, 30]) (XC.cond (Opd.t 31) (XC.reg 512 [XO.mk (some 32) (XOp.load (some 2) (Opd.t 6)) none, XO.mk none
(XOp.store 2 (Opd.t 4) (Opd.t 32)) none] [6, 31, 32]) XC.skip)))))] ∧ List.length (rotL' a (Int.toNat b.i)) = List.length (rotL' a (Int.toNat b.i)) ∧ List.length (rotL' k (Int.toNat b.i)) =
List.length (rotL' k (Int.toNat b.i)) ∧ List.length (rotL' a (Int.toNat b.i)) = List.length (rotL' a (Int.toNat b.i)) ∧ List.length (rotL' k (Int.toNat b.i)) = List.length (rotL' k (Int.toNat b.i)) ∧
List.length (rotL' a (Int.toNat b.i)) < 1000000000 ∧ List.length (rotL' k (Int.toNat b.i)) < 1000000000 ∧ List.length b.a < 1000000000 ∧ List.length b.k < 1000000000) ∧ inR IntKind.i64 (b.i + 1) =
true ∧ 1 = 1 ∧ Cont.ints IntKind.i64 (selL (ltF (rotL' a (Int.toNat b.i)) (rotL' k (Int.toNat b.i)) b.a b.k) (rotL' a (Int.toNat b.i)) b.a) = Cont.ints IntKind.i64 (selL (ltF (rotL' a (Int.toNat b.i))
(rotL' k (Int.toNat b.i)) b.a b.k) (rotL' a (Int.toNat b.i)) b.a) ∧ List.length (selL (ltF (rotL' a (Int.toNat b.i)) (rotL' k (Int.toNat b.i)) b.a b.k) (rotL' a (Int.toNat b.i)) b.a) = List.length
(selL (ltF (rotL' a (Int.toNat b.i)) (rotL' k (Int.toNat b.i)) b.a b.k) (rotL' a (Int.toNat b.i)) b.a) ∧ List.length (selL (ltF (rotL' a (Int.toNat b.i)) (rotL' k (Int.toNat b.i)) b.a b.k) (rotL' a
(Int.toNat b.i)) b.a) = List.length (selL (ltF (rotL' a (Int.toNat b.i)) (rotL' k (Int.toNat b.i)) b.a b.k) (rotL' a (Int.toNat b.i)) b.a) ∧ Cont.ints IntKind.u8 (selL (ltF (rotL' a (Int.toNat b.i))
(rotL' k (Int.toNat b.i)) b.a b.k) (rotL' k (Int.toNat b.i)) b.k) = Cont.ints IntKind.u8 (selL (ltF (rotL' a (Int.toNat b.i)) (rotL' k (Int.toNat b.i)) b.a b.k) (rotL' k (Int.toNat b.i)) b.k) ∧
List.length (selL (ltF (rotL' a (Int.toNat b.i)) (rotL' k (Int.toNat b.i)) b.a b.k) (rotL' k (Int.toNat b.i)) b.k) = List.length (selL (ltF (rotL' a (Int.toNat b.i)) (rotL' k (Int.toNat b.i)) b.a b.k)
(rotL' k (Int.toNat b.i)) b.k) ∧ List.length (selL (ltF (rotL' a (Int.toNat b.i)) (rotL' k (Int.toNat b.i)) b.a b.k) (rotL' k (Int.toNat b.i)) b.k) = List.length (selL (ltF (rotL' a (Int.toNat b.i))
(rotL' k (Int.toNat b.i)) b.a b.k) (rotL' k (Int.toNat b.i)) b.k) ∧ 1 = 1 ∧ 0 = 0 ∧ (none : Option Ex) = none ∧ 34 = 34 ∧ [18] = [18] ∧ XC.reg 384 [XO.mk (some 6) (XOp.new (Cont.cells [AV.nils,
AV.nils]) 1 2) none, XO.mk none (XOp.store 2 (Opd.t 6) (Opd.t 18)) none] [17, 18] = XC.reg 384 [XO.mk (some 6) (XOp.new (Cont.cells [AV.nils, AV.nils]) 1 2) none, XO.mk none (XOp.store 2 (Opd.t 6)
(Opd.t 18)) none] [17, 18] ∧ XC.block 1 (XC.seq (XC.draw 448 [XO.mk (some 19) (XOp.fieldA 0 (Opd.t 6)) none, XO.mk (some 20) (XOp.load none (Opd.t 19)) none, XO.mk (some 21) (XOp.fieldA 0 (Opd.t 4))
none, XO.mk (some 22) (XOp.load none (Opd.t 21)) none, XO.mk (some 23) (XOp.call 48 [Opd.t 20, Opd.t 22]) none, XO.mk (some 24) (XOp.fieldA 1 (Opd.t 6)) none, XO.mk (some 25) (XOp.load none (Opd.t
24)) none, XO.mk (some 26) (XOp.fieldA 1 (Opd.t 4)) none, XO.mk (some 27) (XOp.load none (Opd.t 26)) none, XO.mk (some 28) (XOp.call 49 [Opd.t 25, Opd.t 27]) none, XO.mk (some 29) (XOp.buildS 1 2 4
[AV.int IntKind.i64 0] [(0, 1, Opd.t 23), (1, 1, Opd.t 28)]) none, XO.mk (some 30) (XOp.call 47 [Opd.t 29]) none, XO.mk (some 31) (XOp.bin BinOp.lss (Opd.t 30) (Opd.c (AV.int IntKind.i64 0))) none]
[[], [0], [], [2], [1, 3], [], [5], [], [7], [6, 8, 4], [4, 9], [10, 9], [11]] [0, 1, 2, 3, 4, 5, 6, 7, 8, 9, 10, 11, 12] [19, 20, 21, 22, 23, 24, 25, 26, 27, 28, 29, 30]) (XC.cond (Opd.t 31) (XC.reg
512 [XO.mk (some 32) (XOp.load (some 2) (Opd.t 6)) none, XO.mk none (XOp.store 2 (Opd.t 4) (Opd.t 32)) none] [6, 31, 32]) XC.skip)) = XC.block 1 (XC.seq (XC.draw 448 [XO.mk (some 19) (XOp.fieldA 0
(Opd.t 6)) none, XO.mk (some 20) (XOp.load none (Opd.t 19)) none, XO.mk (some 21) (XOp.fieldA 0 (Opd.t 4)) none, XO.mk (some 22) (XOp.load none (Opd.t 21)) none, XO.mk (some 23) (XOp.call 48 [Opd.t
20, Opd.t 22]) none, XO.mk (some 24) (XOp.fieldA 1 (Opd.t 6)) none, XO.mk (some 25) (XOp.load none (Opd.t 24)) none, XO.mk (some 26) (XOp.fieldA 1 (Opd.t 4)) none, XO.mk (some 27) (XOp.load none
(Opd.t 26)) none, XO.mk (some 28) (XOp.call 49 [Opd.t 25, Opd.t 27]) none, XO.mk (some 29) (XOp.buildS 1 2 4 [AV.int IntKind.i64 0] [(0, 1, Opd.t 23), (1, 1, Opd.t 28)]) none, XO.mk (some 30)
(XOp.call 47 [Opd.t 29]) none, XO.mk (some 31) (XOp.bin BinOp.lss (Opd.t 30) (Opd.c (AV.int IntKind.i64 0))) none] [[], [0], [], [2], [1, 3], [], [5], [], [7], [6, 8, 4], [4, 9], [10, 9], [11]] [0, 1,
2, 3, 4, 5, 6, 7, 8, 9, 10, 11, 12] [19, 20, 21, 22, 23, 24, 25, 26, 27, 28, 29, 30]) (XC.cond (Opd.t 31) (XC.reg 512 [XO.mk (some 32) (XOp.load (some 2) (Opd.t 6)) none, XO.mk none (XOp.store 2
(Opd.t 4) (Opd.t 32)) none] [6, 31, 32]) XC.skip)) ∧ 0 = 0 ∧ 0 = 0 ∧ Cont.vals [AV.imm (Cont.ints IntKind.i64 a) (List.length a) none, AV.imm (Cont.ints IntKind.u8 k) (List.length k) none] = Cont.vals
[AV.imm (Cont.ints IntKind.i64 a) (List.length a) none, AV.imm (Cont.ints IntKind.u8 k) (List.length k) none] ∧ Cont.vals [AV.imm (Cont.ints IntKind.i64 a) (List.length a) none, AV.imm (Cont.ints
IntKind.u8 k) (List.length k) none] = Cont.vals [AV.imm (Cont.ints IntKind.i64 a) (List.length a) none, AV.imm (Cont.ints IntKind.u8 k) (List.length k) none] ∧ (↑(List.length a) : Int) =
(↑(List.length a) : Int) ∧ b.i + 1 = b.i + 1 ∧ (∃ (n : Nat), b.i + 1 = (↑n : Int) ∧ n ≤ List.length a ∧ selL (ltF (rotL' a (Int.toNat b.i)) (rotL' k (Int.toNat b.i)) b.a b.k) (rotL' a (Int.toNat b.i))
b.a = rotL' a (bestN (trn a k) n) ∧ selL (ltF (rotL' a (Int.toNat b.i)) (rotL' k (Int.toNat b.i)) b.a b.k) (rotL' k (Int.toNat b.i)) b.k = rotL' k (bestN (trn a k) n)) ∧ List.length a - Int.toNat (b.i
+ 1) < List.length a - Int.toNat b.i ∧ True) ∧ (ltb b.i (↑(List.length a) : Int) = false → 1 = 1 ∧ Cont.ints IntKind.i64 b.a = Cont.ints IntKind.i64 (lsA a k) ∧ List.length b.a = List.length (lsA a k)
∧ List.length b.a = List.length (lsA a k) ∧ Cont.ints IntKind.u8 b.k = Cont.ints IntKind.u8 (lsK a k) ∧ List.length b.k = List.length (lsK a k) ∧ List.length b.k = List.length (lsK a k) ∧ 1 = 1 ∧ 0 =
0 ∧ (none : Option Ex) = none ∧ 34 = 34 ∧ [18] = [18] ∧ XC.reg 384 [XO.mk (some 6) (XOp.new (Cont.cells [AV.nils, AV.nils]) 1 2) none, XO.mk none (XOp.store 2 (Opd.t 6) (Opd.t 18)) none] [17, 18] =
XC.reg 384 [XO.mk (some 6) (XOp.new (Cont.cells [AV.nils, AV.nils]) 1 2) none, XO.mk none (XOp.store 2 (Opd.t 6) (Opd.t 18)) none] [17, 18] ∧ XC.block 1 (XC.seq (XC.draw 448 [XO.mk (some 19)
(XOp.fieldA 0 (Opd.t 6)) none, XO.mk (some 20) (XOp.load none (Opd.t 19)) none, XO.mk (some 21) (XOp.fieldA 0 (Opd.t 4)) none, XO.mk (some 22) (XOp.load none (Opd.t 21)) none, XO.mk (some 23)
(XOp.call 48 [Opd.t 20, Opd.t 22]) none, XO.mk (some 24) (XOp.fieldA 1 (Opd.t 6)) none, XO.mk (some 25) (XOp.load none (Opd.t 24)) none, XO.mk (some 26) (XOp.fieldA 1 (Opd.t 4)) none, XO.mk (some 27)
(XOp.load none (Opd.t 26)) none, XO.mk (some 28) (XOp.call 49 [Opd.t 25, Opd.t 27]) none, XO.mk (some 29) (XOp.buildS 1 2 4 [AV.int IntKind.i64 0] [(0, 1, Opd.t 23), (1, 1, Opd.t 28)]) none, XO.mk
(some 30) (XOp.call 47 [Opd.t 29]) none, XO.mk (some 31) (XOp.bin BinOp.lss (Opd.t 30) (Opd.c (AV.int IntKind.i64 0))) none] [[], [0], [], [2], [1, 3], [], [5], [], [7], [6, 8, 4], [4, 9], [10, 9],
[11]] [0, 1, 2, 3, 4, 5, 6, 7, 8, 9, 10, 11, 12] [19, 20, 21, 22, 23, 24, 25, 26, 27, 28, 29, 30]) (XC.cond (Opd.t 31) (XC.reg 512 [XO.mk (some 32) (XOp.load (some 2) (Opd.t 6)) none, XO.mk none
(XOp.store 2 (Opd.t 4) (Opd.t 32)) none] [6, 31, 32]) XC.skip)) = XC.block 1 (XC.seq (XC.draw 448 [XO.mk (some 19) (XOp.fieldA 0 (Opd.t 6)) none, XO.mk (some 20) (XOp.load none (Opd.t 19)) none, XO.mk
(some 21) (XOp.fieldA 0 (Opd.t 4)) none, XO.mk (some 22) (XOp.load none (Opd.t 21)) none, XO.mk (some 23) (XOp.call 48 [Opd.t 20, Opd.t 22]) none, XO.mk (some 24) (XOp.fieldA 1 (Opd.t 6)) none, XO.mk
(some 25) (XOp.load none (Opd.t 24)) none, XO.mk (some 26) (XOp.fieldA 1 (Opd.t 4)) none, XO.mk (some 27) (XOp.load none (Opd.t 26)) none, XO.mk (some 28) (XOp.call 49 [Opd.t 25, Opd.t 27]) none,
XO.mk (some 29) (XOp.buildS 1 2 4 [AV.int IntKind.i64 0] [(0, 1, Opd.t 23), (1, 1, Opd.t 28)]) none, XO.mk (some 30) (XOp.call 47 [Opd.t 29]) none, XO.mk (some 31) (XOp.bin BinOp.lss (Opd.t 30) (Opd.c
(AV.int IntKind.i64 0))) none] [[], [0], [], [2], [1, 3], [], [5], [], [7], [6, 8, 4], [4, 9], [10, 9], [11]] [0, 1, 2, 3, 4, 5, 6, 7, 8, 9, 10, 11, 12] [19, 20, 21, 22, 23, 24, 25, 26, 27, 28, 29,
30]) (XC.cond (Opd.t 31) (XC.reg 512 [XO.mk (some 32) (XOp.load (some 2) (Opd.t 6)) none, XO.mk none (XOp.store 2 (Opd.t 4) (Opd.t 32)) none] [6, 31, 32]) XC.skip)) ∧ 0 = 0 ∧ 0 = 0 ∧ Cont.vals [AV.imm
(Cont.ints IntKind.i64 a) (List.length a) none, AV.imm (Cont.ints IntKind.u8 k) (List.length k) none] = Cont.vals [AV.imm (Cont.ints IntKind.i64 a) (List.length a) none, AV.imm (Cont.ints IntKind.u8
k) (List.length k) none] ∧ True)) := by kernel_rfl

theorem ob_o28 (a k : List Int) : fnP (T28 a k) G 10000 fe28 (.r [] 0 (.r [] 29 (.r [] 0 (.cnd (.r [] 1 .nil) (.r [] 1 (.rf 9002 0 (.r [] 3 .nil))))))) ([fanV a k]) ([fanC (lsA a k) (lsK a k), .int .i64 0]) ([]) = (
(List.length a = List.length a ∧ List.length k = List.length k ∧ List.length a < 100000000000 ∧ chk a k = 0) ∧ ((bI (tOk a 0) 0 1 != 0) = true → Cont.size (Cont.ints IntKind.i64 (lsA a k)) = 0 ∧
List.length (lsA a k) = 0 ∧ List.length (lsA a k) = 0 ∧ Cont.size (Cont.ints IntKind.u8 (lsK a k)) = 0 ∧ List.length (lsK a k) = 0 ∧ List.length (lsK a k) = 0 ∧ bI (tOk a 0) 0 1 = 0 ∧ True) ∧ ((bI
(tOk a 0) 0 1 != 0) = false → (List.length a = List.length a ∧ List.length k = List.length k) ∧ ([(133, HO.blk (Blk.mk (Cont.cells [AV.imm (Cont.ints IntKind.i64 (bLt (tOk a 0) (rotL' a 0)))
(List.length (bLt (tOk a 0) (rotL' a 0))) (some (List.length (bLt (tOk a 0) (rotL' a 0)))), AV.imm (Cont.ints IntKind.u8 (bLt (tOk a 0) (rotL' k 0))) (List.length (bLt (tOk a 0) (rotL' k 0))) (some
(List.length (bLt (tOk a 0) (rotL' k 0))))]) 2 1 none (some false) true true)), (65, HO.blk (Blk.mk (Cont.cells [AV.nils, AV.nils]) 2 1 none (some false) true true)), (9002, HO.loop (LoopS.mk 0 none
[(2, AV.ptr 65 0), (4, AV.ptr 133 0), (17, AV.fn 71 [] [AV.iptr (Cont.vals [AV.imm (Cont.ints IntKind.i64 a) (List.length a) none, AV.imm (Cont.ints IntKind.u8 k) (List.length k) none])])] 34 [18]
(XC.reg 384 [XO.mk (some 6) (XOp.new (Cont.cells [AV.nils, AV.nils]) 1 2) none, XO.mk none (XOp.store 2 (Opd.t 6) (Opd.t 18)) none] [17, 18]) (XC.block 1 (XC.seq (XC.draw 448 [XO.mk (some 19)
(XOp.fieldA 0 (Opd.t 6)) none, XO.mk (some 20) (XOp.load none (Opd.t 19)) none, XO.mk (some 21) (XOp.fieldA 0 (Opd.t 4)) none, XO.mk (some 22) (XOp.load none (Opd.t 21)) none, XO.mk (some 23)
(XOp.call 48 [Opd.t 20, Opd.t 22]) none, XO.mk (some 24) (XOp.fieldA 1 (Opd.t 6)) none, XO.mk (some 25) (XOp.load none (Opd.t 24)) none, XO.mk (some 26) (XOp.fieldA 1 (Opd.t 4)) none, XO.mk (some 27)
(XOp.load none (Opd.t 26)) none, XO.mk (some 28) (XOp.call 49 [Opd.t 25, Opd.t 27]) none, XO.mk (some 29) (XOp.buildS 1 2 4 [AV.int IntKind.i64 0] [(0, 1, Opd.t 23), (1, 1, Opd.t 28)]) none, XO.mk
(some 30) (XOp.call 47 [Opd.t 29]) none, XO.mk (some 31) (XOp.bin BinOp.lss (Opd.t 30) (Opd.c (AV.int IntKind.i64 0))) none] [[], [0], [], [2], [1, 3], [], [5], [], [7], [6, 8, 4], [4, 9], [10, 9],
[11]] [0, 1, 2, 3, 4, 5, 6, 7, 8, 9, 10, 11, 12] [19, 20, 21, 22, 23, 24, 25, 26, 27, 28, 29, 30]) (XC.cond (Opd.t 31) (XC.reg 512 [XO.mk (some 32) (XOp.load (some 2) (Opd.t 6)) none, XO.mk none
(XOp.store 2 (Opd.t 4) (Opd.t 32)) none] [6, 31, 32]) XC.skip)))))] = [(133, HO.blk (Blk.mk (Cont.cells [AV.imm (Cont.ints IntKind.i64 (rotL' a 0)) (List.length (rotL' a 0)) (some (List.length (rotL'
a 0))), AV.imm (Cont.ints IntKind.u8 (rotL' k 0)) (List.length (rotL' k 0)) (some (List.length (rotL' k 0)))]) 2 1 none (some false) true true)), (65, HO.blk (Blk.mk (Cont.cells [AV.nils, AV.nils]) 2
1 none (some false) true true)), (9002, HO.loop (LoopS.mk 0 none [(2, AV.ptr 65 0), (4, AV.ptr 133 0), (17, AV.fn 71 [] [AV.iptr (Cont.vals [AV.imm (Cont.ints IntKind.i64 a) (List.length a) none,
AV.imm (Cont.ints IntKind.u8 k) (List.length k) none])])] 34 [18] (XC.reg 384 [XO.mk (some 6) (XOp.new (Cont.cells [AV.nils, AV.nils]) 1 2) none, XO.mk none (XOp.store 2 (Opd.t 6) (Opd.t 18)) none]
[17, 18]) (XC.block 1 (XC.seq (XC.draw 448 [XO.mk (some 19) (XOp.fieldA 0 (Opd.t 6)) none, XO.mk (some 20) (XOp.load none (Opd.t 19)) none, XO.mk (some 21) (XOp.fieldA 0 (Opd.t 4)) none, XO.mk (some
22) (XOp.load none (Opd.t 21)) none, XO.mk (some 23) (XOp.call 48 [Opd.t 20, Opd.t 22]) none, XO.mk (some 24) (XOp.fieldA 1 (Opd.t 6)) none, XO.mk (some 25) (XOp.load none (Opd.t 24)) none, XO.mk
(some 26) (XOp.fieldA 1 (Opd.t 4)) none, XO.mk (some 27) (XOp.load none (Opd.t 26)) none, XO.mk (some 28) (XOp.call 49 [Opd.t 25, Opd.t 27]) none, XO.mk (some 29) (XOp.buildS 1 2 4 [AV.int IntKind.i64
0] [(0, 1, Opd.t 23), (1, 1, Opd.t 28)]) none, XO.mk (some 30) (XOp.call 47 [Opd.t 29]) none, XO.mk (some 31) (XOp.bin BinOp.lss (Opd.t 30) (Opd.c (AV.int IntKind.i64 0))) none] [[], [0], [], [2], [1,
3], [], [5], [], [7], [6, 8, 4], [4, 9], [10, 9], [11]] [0, 1, 2, 3, 4, 5, 6, 7, 8, 9, 10, 11, 12] [19, 20, 21, 22, 23, 24, 25, 26, 27, 28, 29, 30]) (XC.cond (Opd.t 31) (XC.reg 512 [XO.mk (some 32)
(XOp.load (some 2) (Opd.t 6)) none, XO.mk none (XOp.store 2 (Opd.t 4) (Opd.t 32)) none] [6, 31, 32]) XC.skip)))))] ∧ [AV.yld 9002, AV.iptr (Cont.vals [AV.imm (Cont.ints IntKind.i64 a) (List.length a)
none, AV.imm (Cont.ints IntKind.u8 k) (List.length k) none])] = [AV.yld 9002, AV.iptr (Cont.vals [AV.imm (Cont.ints IntKind.i64 a) (List.length a) none, AV.imm (Cont.ints IntKind.u8 k) (List.length k)
none])] ∧ List.length k = List.length a ∧ List.length a < 1000000000) ∧ Cont.ints IntKind.i64 (lsA a k) = Cont.ints IntKind.i64 (lsA a k) ∧ List.length (lsA a k) = List.length (lsA a k) ∧ List.length
(lsA a k) = List.length (lsA a k) ∧ Cont.ints IntKind.u8 (lsK a k) = Cont.ints IntKind.u8 (lsK a k) ∧ List.length (lsK a k) = List.length (lsK a k) ∧ List.length (lsK a k) = List.length (lsK a k) ∧ iI
0 = 0 ∧ True)) := by kernel_rfl

end Go.Proofs.YtfafinkgmhkdmaaDoor.X
