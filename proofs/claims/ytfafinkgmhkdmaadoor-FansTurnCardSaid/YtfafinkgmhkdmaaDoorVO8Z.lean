/-
  What is to be shown of the functions (made by a program).
-/
import Derived.Test.YtfafinkgmhkdmaaDoorVD8Z
import Derived.KernelRfl
set_option maxRecDepth 1000000
set_option linter.unusedVariables false
namespace Go.Proofs.YtfafinkgmhkdmaaDoor.X
open Go Go.Ab

theorem ob_y_28 (a k oa ok x y : List Int) : fnY (WB) G 10000 (9002) (.r [] 1 (.r [] 219 (.cnd (.r [] 3 .nil) .nil))) ([fanC x y]) (H28 a k oa ok) (true) ([(133, box28 (selL (ltF x y oa ok) x oa) (selL (ltF x y oa ok) y ok))]) = (
(List.length x = List.length x ∧ List.length oa = List.length oa ∧ List.length x < 1000000000000 ∧ List.length oa < 1000000000000) ∧ (List.length y = List.length y ∧ List.length ok = List.length ok ∧
List.length y < 1000000000000 ∧ List.length ok < 1000000000000) ∧ (ltb (orI (cmpL x oa) (cmpL y ok)) 0 = true → 1 = 1 ∧ Cont.ints IntKind.i64 x = Cont.ints IntKind.i64 (selL (ltF x y oa ok) x oa) ∧
List.length x = List.length (selL (ltF x y oa ok) x oa) ∧ List.length x = List.length (selL (ltF x y oa ok) x oa) ∧ Cont.ints IntKind.u8 y = Cont.ints IntKind.u8 (selL (ltF x y oa ok) y ok) ∧
List.length y = List.length (selL (ltF x y oa ok) y ok) ∧ List.length y = List.length (selL (ltF x y oa ok) y ok) ∧ 1 = 1 ∧ 0 = 0 ∧ (none : Option Ex) = none ∧ 34 = 34 ∧ [18] = [18] ∧ XC.reg 384
[XO.mk (some 6) (XOp.new (Cont.cells [AV.nils, AV.nils]) 1 2) none, XO.mk none (XOp.store 2 (Opd.t 6) (Opd.t 18)) none] [17, 18] = XC.reg 384 [XO.mk (some 6) (XOp.new (Cont.cells [AV.nils, AV.nils]) 1
2) none, XO.mk none (XOp.store 2 (Opd.t 6) (Opd.t 18)) none] [17, 18] ∧ XC.block 1 (XC.seq (XC.draw 448 [XO.mk (some 19) (XOp.fieldA 0 (Opd.t 6)) none, XO.mk (some 20) (XOp.load none (Opd.t 19)) none,
XO.mk (some 21) (XOp.fieldA 0 (Opd.t 4)) none, XO.mk (some 22) (XOp.load none (Opd.t 21)) none, XO.mk (some 23) (XOp.call 48 [Opd.t 20, Opd.t 22]) none, XO.mk (some 24) (XOp.fieldA 1 (Opd.t 6)) none,
XO.mk (some 25) (XOp.load none (Opd.t 24)) none, XO.mk (some 26) (XOp.fieldA 1 (Opd.t 4)) none, XO.mk (some 27) (XOp.load none (Opd.t 26)) none, XO.mk (some 28) (XOp.call 49 [Opd.t 25, Opd.t 27])
none, XO.mk (some 29) (XOp.buildS 1 2 4 [AV.int IntKind.i64 0] [(0, 1, Opd.t 23), (1, 1, Opd.t 28)]) none, XO.mk (some 30) (XOp.call 47 [Opd.t 29]) none, XO.mk (some 31) (XOp.bin BinOp.lss (Opd.t 30)
(Opd.c (AV.int IntKind.i64 0))) none] [[], [0], [], [2], [1, 3], [], [5], [], [7], [6, 8, 4], [4, 9], [10, 9], [11]] [0, 1, 2, 3, 4, 5, 6, 7, 8, 9, 10, 11, 12] [19, 20, 21, 22, 23, 24, 25, 26, 27, 28,
29, 30]) (XC.cond (Opd.t 31) (XC.reg 512 [XO.mk (some 32) (XOp.load (some 2) (Opd.t 6)) none, XO.mk none (XOp.store 2 (Opd.t 4) (Opd.t 32)) none] [6, 31, 32]) XC.skip)) = XC.block 1 (XC.seq (XC.draw
448 [XO.mk (some 19) (XOp.fieldA 0 (Opd.t 6)) none, XO.mk (some 20) (XOp.load none (Opd.t 19)) none, XO.mk (some 21) (XOp.fieldA 0 (Opd.t 4)) none, XO.mk (some 22) (XOp.load none (Opd.t 21)) none,
XO.mk (some 23) (XOp.call 48 [Opd.t 20, Opd.t 22]) none, XO.mk (some 24) (XOp.fieldA 1 (Opd.t 6)) none, XO.mk (some 25) (XOp.load none (Opd.t 24)) none, XO.mk (some 26) (XOp.fieldA 1 (Opd.t 4)) none,
XO.mk (some 27) (XOp.load none (Opd.t 26)) none, XO.mk (some 28) (XOp.call 49 [Opd.t 25, Opd.t 27]) none, XO.mk (some 29) (XOp.buildS 1 2 4 [AV.int IntKind.i64 0] [(0, 1, Opd.t 23), (1, 1, Opd.t 28)])
none, XO.mk (some 30) (XOp.call 47 [Opd.t 29]) none, XO.mk (some 31) (XOp.bin BinOp.lss (Opd.t 30) (Opd.c (AV.int IntKind.i64 0))) none] [[], [0], [], [2], [1, 3], [], [5], [], [7], [6, 8, 4], [4, 9],
[10, 9], [11]] [0, 1, 2, 3, 4, 5, 6, 7, 8, 9, 10, 11, 12] [19, 20, 21, 22, 23, 24, 25, 26, 27, 28, 29, 30]) (XC.cond (Opd.t 31) (XC.reg 512 [XO.mk (some 32) (XOp.load (some 2) (Opd.t 6)) none, XO.mk
none (XOp.store 2 (Opd.t 4) (Opd.t 32)) none] [6, 31, 32]) XC.skip)) ∧ 0 = 0 ∧ 0 = 0 ∧ Cont.vals [AV.imm (Cont.ints IntKind.i64 a) (List.length a) none, AV.imm (Cont.ints IntKind.u8 k) (List.length k)
none] = Cont.vals [AV.imm (Cont.ints IntKind.i64 a) (List.length a) none, AV.imm (Cont.ints IntKind.u8 k) (List.length k) none] ∧ true = true ∧ True) ∧ (ltb (orI (cmpL x oa) (cmpL y ok)) 0 = false → 1
= 1 ∧ Cont.ints IntKind.i64 oa = Cont.ints IntKind.i64 (selL (ltF x y oa ok) x oa) ∧ List.length oa = List.length (selL (ltF x y oa ok) x oa) ∧ List.length oa = List.length (selL (ltF x y oa ok) x oa)
∧ Cont.ints IntKind.u8 ok = Cont.ints IntKind.u8 (selL (ltF x y oa ok) y ok) ∧ List.length ok = List.length (selL (ltF x y oa ok) y ok) ∧ List.length ok = List.length (selL (ltF x y oa ok) y ok) ∧ 1 =
1 ∧ 0 = 0 ∧ (none : Option Ex) = none ∧ 34 = 34 ∧ [18] = [18] ∧ XC.reg 384 [XO.mk (some 6) (XOp.new (Cont.cells [AV.nils, AV.nils]) 1 2) none, XO.mk none (XOp.store 2 (Opd.t 6) (Opd.t 18)) none] [17,
18] = XC.reg 384 [XO.mk (some 6) (XOp.new (Cont.cells [AV.nils, AV.nils]) 1 2) none, XO.mk none (XOp.store 2 (Opd.t 6) (Opd.t 18)) none] [17, 18] ∧ XC.block 1 (XC.seq (XC.draw 448 [XO.mk (some 19)
(XOp.fieldA 0 (Opd.t 6)) none, XO.mk (some 20) (XOp.load none (Opd.t 19)) none, XO.mk (some 21) (XOp.fieldA 0 (Opd.t 4)) none, XO.mk (some 22) (XOp.load none (Opd.t 21)) none, XO.mk (some 23)
(XOp.call 48 [Opd.t 20, Opd.t 22]) none, XO.mk (some 24) (XOp.fieldA 1 (Opd.t 6)) none, XO.mk (some 25) (XOp.load none (Opd.t 24)) none, XO.mk (some 26) (XOp.fieldA 1 (Opd.t 4)) none, XO.mk (some 27)
(XOp.load none (Opd.t 26)) none, XO.mk (some 28) (XOp.call 49 [Opd.t 25, Opd.t 27]) none, XO.mk (some 29) (XOp.buildS 1 2 4 [AV.int IntKind.i64 0] [(0, 1, Opd.t 23), (1, 1, Opd.t 28)]) none, XO.mk
(some 30) (XOp.call 47 [Opd.t 29]) none, XO.mk (some 31) (XOp.bin BinOp.lss (Opd.t 30) (Opd.c (AV.int IntKind.i64 0))) none] [[], [0], [], [2], [1, 3], [], [5], [], [7], [6, 8, 4], [4, 9], [10, 9],
[11]] [0, 1, 2, 3, 4, 5, 6, 7, 8, 9, 10, 11, 12] [19, 20, 21, 22, 23, 24, 25, 26, 27, 28, 29, 30]) (XC.cond (Opd.t 31) (XC.reg 512 [XO.mk (some 32) (XOp.load (some 2) (Opd.t 6)) none, XO.mk none
(XOp.store 2 (Opd.t 4) (Opd.t 32)) none] [6, 31, 32]) XC.skip)) = XC.block 1 (XC.seq (XC.draw 448 [XO.mk (some 19) (XOp.fieldA 0 (Opd.t 6)) none, XO.mk (some 20) (XOp.load none (Opd.t 19)) none, XO.mk
(some 21) (XOp.fieldA 0 (Opd.t 4)) none, XO.mk (some 22) (XOp.load none (Opd.t 21)) none, XO.mk (some 23) (XOp.call 48 [Opd.t 20, Opd.t 22]) none, XO.mk (some 24) (XOp.fieldA 1 (Opd.t 6)) none, XO.mk
(some 25) (XOp.load none (Opd.t 24)) none, XO.mk (some 26) (XOp.fieldA 1 (Opd.t 4)) none, XO.mk (some 27) (XOp.load none (Opd.t 26)) none, XO.mk (some 28) (XOp.call 49 [Opd.t 25, Opd.t 27]) none,
XO.mk (some 29) (XOp.buildS 1 2 4 [AV.int IntKind.i64 0] [(0, 1, Opd.t 23), (1, 1, Opd.t 28)]) none, XO.mk (some 30) (XOp.call 47 [Opd.t 29]) none, XO.mk (some 31) (XOp.bin BinOp.lss (Opd.t 30) (Opd.c
(AV.int IntKind.i64 0))) none] [[], [0], [], [2], [1, 3], [], [5], [], [7], [6, 8, 4], [4, 9], [10, 9], [11]] [0, 1, 2, 3, 4, 5, 6, 7, 8, 9, 10, 11, 12] [19, 20, 21, 22, 23, 24, 25, 26, 27, 28, 29,
30]) (XC.cond (Opd.t 31) (XC.reg 512 [XO.mk (some 32) (XOp.load (some 2) (Opd.t 6)) none, XO.mk none (XOp.store 2 (Opd.t 4) (Opd.t 32)) none] [6, 31, 32]) XC.skip)) ∧ 0 = 0 ∧ 0 = 0 ∧ Cont.vals [AV.imm
(Cont.ints IntKind.i64 a) (List.length a) none, AV.imm (Cont.ints IntKind.u8 k) (List.length k) none] = Cont.vals [AV.imm (Cont.ints IntKind.i64 a) (List.length a) none, AV.imm (Cont.ints IntKind.u8
k) (List.length k) none] ∧ true = true ∧ True)) := by kernel_rfl

theorem ob_d_71 (a k : List Int) : fnD (TY28 a k) G 10000 (fe71) (.r [] 1 (.lp (l71 a k) [] [] (fun b => (.r [] 0 (.cnd (.r [] 0 (.r [(266, .auto, Dr.heap)] 5 (.lit (.r [] 0 .nil)))) .nil))))) ([.yld 9002, .iptr (fanVC a k)]) (H28 a k (rotL' a 0) (rotL' k 0)) ([]) ([(133, box28 (lsA a k) (lsK a k))]) = (
1 = 1 ∧ Cont.ints IntKind.i64 (rotL' a 0) = Cont.ints IntKind.i64 (rotL' a 0) ∧ List.length (rotL' a 0) = List.length (rotL' a 0) ∧ List.length (rotL' a 0) = List.length (rotL' a 0) ∧ Cont.ints
IntKind.u8 (rotL' k 0) = Cont.ints IntKind.u8 (rotL' k 0) ∧ List.length (rotL' k 0) = List.length (rotL' k 0) ∧ List.length (rotL' k 0) = List.length (rotL' k 0) ∧ 1 = 1 ∧ 0 = 0 ∧ (none : Option Ex) =
none ∧ 34 = 34 ∧ [18] = [18] ∧ XC.reg 384 [XO.mk (some 6) (XOp.new (Cont.cells [AV.nils, AV.nils]) 1 2) none, XO.mk none (XOp.store 2 (Opd.t 6) (Opd.t 18)) none] [17, 18] = XC.reg 384 [XO.mk (some 6)
(XOp.new (Cont.cells [AV.nils, AV.nils]) 1 2) none, XO.mk none (XOp.store 2 (Opd.t 6) (Opd.t 18)) none] [17, 18] ∧ XC.block 1 (XC.seq (XC.draw 448 [XO.mk (some 19) (XOp.fieldA 0 (Opd.t 6)) none, XO.mk
(some 20) (XOp.load none (Opd.t 19)) none, XO.mk (some 21) (XOp.fieldA 0 (Opd.t 4)) none, XO.mk (some 22) (XOp.load none (Opd.t 21)) none, XO.mk (some 23) (XOp.call 48 [Opd.t 20, Opd.t 22]) none,
XO.mk (some 24) (XOp.fieldA 1 (Opd.t 6)) none, XO.mk (some 25) (XOp.load none (Opd.t 24)) none, XO.mk (some 26) (XOp.fieldA 1 (Opd.t 4)) none, XO.mk (some 27) (XOp.load none (Opd.t 26)) none, XO.mk
(some 28) (XOp.call 49 [Opd.t 25, Opd.t 27]) none, XO.mk (some 29) (XOp.buildS 1 2 4 [AV.int IntKind.i64 0] [(0, 1, Opd.t 23), (1, 1, Opd.t 28)]) none, XO.mk (some 30) (XOp.call 47 [Opd.t 29]) none,
XO.mk (some 31) (XOp.bin BinOp.lss (Opd.t 30) (Opd.c (AV.int IntKind.i64 0))) none] [[], [0], [], [2], [1, 3], [], [5], [], [7], [6, 8, 4], [4, 9], [10, 9], [11]] [0, 1, 2, 3, 4, 5, 6, 7, 8, 9, 10,
11, 12] [19, 20, 21, 22, 23, 24, 25, 26, 27, 28, 29, 30]) (XC.cond (Opd.t 31) (XC.reg 512 [XO.mk (some 32) (XOp.load (some 2) (Opd.t 6)) none, XO.mk none (XOp.store 2 (Opd.t 4) (Opd.t 32)) none] [6,
31, 32]) XC.skip)) = XC.block 1 (XC.seq (XC.draw 448 [XO.mk (some 19) (XOp.fieldA 0 (Opd.t 6)) none, XO.mk (some 20) (XOp.load none (Opd.t 19)) none, XO.mk (some 21) (XOp.fieldA 0 (Opd.t 4)) none,
XO.mk (some 22) (XOp.load none (Opd.t 21)) none, XO.mk (some 23) (XOp.call 48 [Opd.t 20, Opd.t 22]) none, XO.mk (some 24) (XOp.fieldA 1 (Opd.t 6)) none, XO.mk (some 25) (XOp.load none (Opd.t 24))
none, XO.mk (some 26) (XOp.fieldA 1 (Opd.t 4)) none, XO.mk (some 27) (XOp.load none (Opd.t 26)) none, XO.mk (some 28) (XOp.call 49 [Opd.t 25, Opd.t 27]) none, XO.mk (some 29) (XOp.buildS 1 2 4 [AV.int
IntKind.i64 0] [(0, 1, Opd.t 23), (1, 1, Opd.t 28)]) none, XO.mk (some 30) (XOp.call 47 [Opd.t 29]) none, XO.mk (some 31) (XOp.bin BinOp.lss (Opd.t 30) (Opd.c (AV.int IntKind.i64 0))) none] [[], [0],
[], [2], [1, 3], [], [5], [], [7], [6, 8, 4], [4, 9], [10, 9], [11]] [0, 1, 2, 3, 4, 5, 6, 7, 8, 9, 10, 11, 12] [19, 20, 21, 22, 23, 24, 25, 26, 27, 28, 29, 30]) (XC.cond (Opd.t 31) (XC.reg 512 [XO.mk
(some 32) (XOp.load (some 2) (Opd.t 6)) none, XO.mk none (XOp.store 2 (Opd.t 4) (Opd.t 32)) none] [6, 31, 32]) XC.skip)) ∧ 0 = 0 ∧ 0 = 0 ∧ Cont.vals [AV.imm (Cont.ints IntKind.i64 a) (List.length a)
none, AV.imm (Cont.ints IntKind.u8 k) (List.length k) none] = Cont.vals [AV.imm (Cont.ints IntKind.i64 a) (List.length a) none, AV.imm (Cont.ints IntKind.u8 k) (List.length k) none] ∧ Cont.vals
[AV.imm (Cont.ints IntKind.i64 a) (List.length a) none, AV.imm (Cont.ints IntKind.u8 k) (List.length k) none] = Cont.vals [AV.imm (Cont.ints IntKind.i64 a) (List.length a) none, AV.imm (Cont.ints
IntKind.u8 k) (List.length k) none] ∧ (↑(List.length a) : Int) = (↑(List.length a) : Int) ∧ iI 0 = 0 ∧ (∃ (n : Nat), 0 = (↑n : Int) ∧ n ≤ List.length a ∧ rotL' a 0 = rotL' a (bestN (trn a k) n) ∧
rotL' k 0 = rotL' k (bestN (trn a k) n)) ∧ ∀ (b : L71), (∃ (n : Nat), b.i = (↑n : Int) ∧ n ≤ List.length a ∧ b.a = rotL' a (bestN (trn a k) n) ∧ b.k = rotL' k (bestN (trn a k) n)) → (ltb b.i
(↑(List.length a) : Int) = true → (List.length a = List.length a ∧ List.length a < 100000000000 ∧ 0 ≤ b.i ∧ b.i ≤ (↑(List.length a) : Int)) ∧ (List.length k = List.length k ∧ List.length k <
100000000000 ∧ 0 ≤ b.i ∧ b.i ≤ (↑(List.length k) : Int)) ∧ ([(133, HO.blk (Blk.mk (Cont.cells [AV.imm (Cont.ints IntKind.i64 b.a) (List.length b.a) (some (List.length b.a)), AV.imm (Cont.ints
IntKind.u8 b.k) (List.length b.k) (some (List.length b.k))]) 2 1 none (some false) true true)), (65, HO.blk (Blk.mk (Cont.cells [AV.nils, AV.nils]) 2 1 none (some false) true true)), (9002, HO.loop
(LoopS.mk 0 none [(2, AV.ptr 65 0), (4, AV.ptr 133 0), (17, AV.fn 71 [] [AV.iptr (Cont.vals [AV.imm (Cont.ints IntKind.i64 a) (List.length a) none, AV.imm (Cont.ints IntKind.u8 k) (List.length k)
none])])] 34 [18] (XC.reg 384 [XO.mk (some 6) (XOp.new (Cont.cells [AV.nils, AV.nils]) 1 2) none, XO.mk none (XOp.store 2 (Opd.t 6) (Opd.t 18)) none] [17, 18]) (XC.block 1 (XC.seq (XC.draw 448 [XO.mk
(some 19) (XOp.fieldA 0 (Opd.t 6)) none, XO.mk (some 20) (XOp.load none (Opd.t 19)) none, XO.mk (some 21) (XOp.fieldA 0 (Opd.t 4)) none, XO.mk (some 22) (XOp.load none (Opd.t 21)) none, XO.mk (some
23) (XOp.call 48 [Opd.t 20, Opd.t 22]) none, XO.mk (some 24) (XOp.fieldA 1 (Opd.t 6)) none, XO.mk (some 25) (XOp.load none (Opd.t 24)) none, XO.mk (some 26) (XOp.fieldA 1 (Opd.t 4)) none, XO.mk (some
27) (XOp.load none (Opd.t 26)) none, XO.mk (some 28) (XOp.call 49 [Opd.t 25, Opd.t 27]) none, XO.mk (some 29) (XOp.buildS 1 2 4 [AV.int IntKind.i64 0] [(0, 1, Opd.t 23), (1, 1, Opd.t 28)]) none, XO.mk
(some 30) (XOp.call 47 [Opd.t 29]) none, XO.mk (some 31) (XOp.bin BinOp.lss (Opd.t 30) (Opd.c (AV.int IntKind.i64 0))) none] [[], [0], [], [2], [1, 3], [], [5], [], [7], [6, 8, 4], [4, 9], [10, 9],
[11]] [0, 1, 2, 3, 4, 5, 6, 7, 8, 9, 10, 11, 12] [19, 20, 21, 22, 23, 24, 25, 26, 27, 28, 29, 30]) (XC.cond (Opd.t 31) (XC.reg 512 [XO.mk (some 32) (XOp.load (some 2) (Opd.t 6)) none, XO.mk none
(XOp.store 2 (Opd.t 4) (Opd.t 32)) none] [6, 31, 32]) XC.skip)))))] = [(133, HO.blk (Blk.mk (Cont.cells [AV.imm (Cont.ints IntKind.i64 b.a) (List.length b.a) (some (List.length b.a)), AV.imm
(Cont.ints IntKind.u8 b.k) (List.length b.k) (some (List.length b.k))]) 2 1 none (some false) true true)), (65, HO.blk (Blk.mk (Cont.cells [AV.nils, AV.nils]) 2 1 none (some false) true true)), (9002,
HO.loop (LoopS.mk 0 none [(2, AV.ptr 65 0), (4, AV.ptr 133 0), (17, AV.fn 71 [] [AV.iptr (Cont.vals [AV.imm (Cont.ints IntKind.i64 a) (List.length a) none, AV.imm (Cont.ints IntKind.u8 k) (List.length
k) none])])] 34 [18] (XC.reg 384 [XO.mk (some 6) (XOp.new (Cont.cells [AV.nils, AV.nils]) 1 2) none, XO.mk none (XOp.store 2 (Opd.t 6) (Opd.t 18)) none] [17, 18]) (XC.block 1 (XC.seq (XC.draw 448
[XO.mk (some 19) (XOp.fieldA 0 (Opd.t 6)) none, XO.mk (some 20) (XOp.load none (Opd.t 19)) none, XO.mk (some 21) (XOp.fieldA 0 (Opd.t 4)) none, XO.mk (some 22) (XOp.load none (Opd.t 21)) none, XO.mk
(some 23) (XOp.call 48 [Opd.t 20, Opd.t 22]) none, XO.mk (some 24) (XOp.fieldA 1 (Opd.t 6)) none, XO.mk (some 25) (XOp.load none (Opd.t 24)) none, XO.mk (some 26) (XOp.fieldA 1 (Opd.t 4)) none, XO.mk
(some 27) (XOp.load none (Opd.t 26)) none, XO.mk (some 28) (XOp.call 49 [Opd.t 25, Opd.t 27]) none, XO.mk (some 29) (XOp.buildS 1 2 4 [AV.int IntKind.i64 0] [(0, 1, Opd.t 23), (1, 1, Opd.t 28)]) none,
XO.mk (some 30) (XOp.call 47 [Opd.t 29]) none, XO.mk (some 31) (XOp.bin BinOp.lss (Opd.t 30) (Opd.c (AV.int IntKind.i64 0))) none] [[], [0], [], [2], [1, 3], [], [5], [], [7], [6, 8, 4], [4, 9], [10,
9], [11]] [0, 1, 2, 3, 4, 5, 6, 7, 8, 9, 10, 11, 12] [19, 20, 21, 22, 23, 24, 25, 26, 27, 28, 29, 30]) (XC.cond (Opd.t 31) (XC.reg 512 [XO.mk (some 32) (XOp.load (some 2) (Opd.t 6)) none, XO.mk none
(XOp.store 2 (Opd.t 4) (Opd.t 32)) none] [6, 31, 32]) XC.skip)))))] ∧ List.length (rotL' a (Int.toNat b.i)) = List.length (rotL' a (Int.toNat b.i)) ∧ List.length (rotL' k (Int.toNat b.i)) =
List.length (rotL' k (Int.toNat b.i)) ∧ List.length (rotL' a (Int.toNat b.i)) = List.length (rotL' a (Int.toNat b.i)) ∧ List.length (rotL' k (Int.toNat b.i)) = List.length (rotL' k (Int.toNat b.i)) ∧
List.length (rotL' a (Int.toNat b.i)) < 1000000000 ∧ List.length (rotL' k (Int.toNat b.i)) < 1000000000 ∧ List.length b.a < 1000000000 ∧ List.length b.k < 1000000000) ∧ inR IntKind.i64 (b.i + 1) =
true ∧ 1 = 1 ∧ Cont.ints IntKind.i64 (selL (ltF (rotL' a (Int.toNat b.i)) (rotL' k (Int.toNat b.i)) b.a b.k) (rotL' a (Int.toNat b.i)) b.a) = Cont.ints IntKind.i64 (selL (ltF (rotL' a (Int.toNat b.i))
(rotL' k (Int.toNat b.i)) b.a b.k) (rotL' a (Int.toNat b.i)) b.a) ∧ List.length (selL (ltF (rotL' a (Int.toNat b.i)) (rotL' k (Int.toNat b.i)) b.a b.k) (rotL' a (Int.toNat b.i)) b.a) = List.length
(selL (ltF (rotL' a (Int.toNat b.i)) (rotL' k (Int.toNat b.i)) b.a b.k) (rotL' a (Int.toNat b.i)) b.a) ∧ List.length (selL (ltF (rotL' a (Int.toNat b.i)) (rotL' k (Int.toNat b.i)) b.a b.k) (rotL' a
(Int.toNat b.i)) b.a) = List.length (selL (ltF (rotL' a (Int.toNat b.i)) (rotL' k (Int.toNat b.i)) b.a b.k) (rotL' a (Int.toNat b.i)) b.a) ∧ Cont.ints IntKind.u8 (selL (ltF (rotL' a (Int.toNat b.i))
(rotL' k (Int.toNat b.i)) b.a b.k) (rotL' k (Int.toNat b.i)) b.k) = Cont.ints IntKind.u8 (selL (ltF (rotL' a (Int.toNat b.i)) (rotL' k (Int.toNat b.i)) b.a b.k) (rotL' k (Int.toNat b.i)) b.k) ∧
List.length (selL (ltF (rotL' a (Int.toNat b.i)) (rotL' k (Int.toNat b.i)) b.a b.k) (rotL' k (Int.toNat b.i)) b.k) = List.length (selL (ltF (rotL' a (Int.toNat b.i)) (rotL' k (Int.toNat b.i)) b.a b.k)
(rotL' k (Int.toNat b.i)) b.k) ∧ List.length (selL (ltF (rotL' a (Int.toNat b.i)) (rotL' k (Int.toNat b.i)) b.a b.k) (rotL' k (Int.toNat b.i)) b.k) = List.length (selL (ltF (rotL' a (Int.toNat b.i))
(rotL' k (Int.toNat b.i)) b.a b.k) (rotL' k (Int.toNat b.i)) b.k) ∧ 1 = 1 ∧ 0 = 0 ∧ (none : Option Ex) = none ∧ 34 = 34 ∧ [18] = [18] ∧ XC.reg 384 [XO.mk (some 6) (XOp.new (Cont.cells [AV.nils,
AV.nils]) 1 2) none, XO.mk none (XOp.store 2 (Opd.t 6) (Opd.t 18)) none] [17, 18] = XC.reg 384 [XO.mk (some 6) (XOp.new (Cont.cells [AV.nils, AV.nils]) 1 2) none, XO.mk none (XOp.store 2 (Opd.t 6)
(Opd.t 18)) none] [17, 18] ∧ XC.block 1 (XC.seq (XC.draw 448 [XO.mk (some 19) (XOp.fieldA 0 (Opd.t 6)) none, XO.mk (some 20) (XOp.load none (Opd.t 19)) none, XO.mk (some 21) (XOp.fieldA 0 (Opd.t 4))
none, XO.mk (some 22) (XOp.load none (Opd.t 21)) none, XO.mk (some 23) (XOp.call 48 [Opd.t 20, Opd.t 22]) none, XO.mk (some 24) (XOp.fieldA 1 (Opd.t 6)) none, XO.mk (some 25) (XOp.load none (Opd.t
24)) none, XO.mk (some 26) (XOp.fieldA 1 (Opd.t 4)) none, XO.mk (some 27) (XOp.load none (Opd.t 26)) none, XO.mk (some 28) (XOp.call 49 [Opd.t 25, Opd.t 27]) none, XO.mk (some 29) (XOp.buildS 1 2 4
[AV.int IntKind.i64 0] [(0, 1, Opd.t 23), (1, 1, Opd.t 28)]) none, XO.mk (some 30) (XOp.call 47 [Opd.t 29]) none, XO.mk (some 31) (XOp.bin BinOp.lss (Opd.t 30) (Opd.c (AV.int IntKind.i64 0))) none]
[[], [0], [], [2], [1, 3], [], [5], [], [7], [6, 8, 4], [4, 9], [10, 9], [11]] [0, 1, 2, 3, 4, 5, 6, 7, 8, 9, 10, 11, 12] [19, 20, 21, 22, 23, 24, 25, 26, 27, 28, 29, 30]) (XC.cond (Opd.t 31) (XC.reg
512 [XO.mk (some 32) (XOp.load (some 2) (Opd.t 6)) none, XO.mk none (XOp.store 2 (Opd.t 4) (Opd.t 32)) none] [6, 31, 32]) XC.skip)) = XC.block 1 (XC.seq (XC.draw 448 [XO.mk (some 19) (XOp.fieldA 0
(Opd.t 6)) none, XO.mk (some 20) (XOp.load none (Opd.t 19)) none, XO.mk (some 21) (XOp.fieldA 0 (Opd.t 4)) none, XO.mk (some 22) (XOp.load none (Opd.t 21)) none, XO.mk (some 23) (XOp.call 48 [Opd.t
20, Opd.t 22]) none, XO.mk (some 24) (XOp.fieldA 1 (Opd.t 6)) none, XO.mk (some 25) (XOp.load none (Opd.t 24)) none, XO.mk (some 26) (XOp.fieldA 1 (Opd.t 4)) none, XO.mk (some 27) (XOp.load none
(Opd.t 26)) none, XO.mk (some 28) (XOp.call 49 [Opd.t 25, Opd.t 27]) none, XO.mk (some 29) (XOp.buildS 1 2 4 [AV.int IntKind.i64 0] [(0, 1, Opd.t 23), (1, 1, Opd.t 28)]) none, XO.mk (some 30)
(XOp.call 47 [Opd.t 29]) none, XO.mk (some 31) (XOp.bin BinOp.lss (Opd.t 30) (Opd.c (AV.int IntKind.i64 0))) none] [[], [0], [], [2], [1, 3], [], [5], [], [7], [6, 8, 4], [4, 9], [10, 9], [11]] [0, 1,
2, 3, 4, 5, 6, 7, 8, 9, 10, 11, 12] [19, 20, 21, 22, 23, 24, 25, 26, 27, 28, 29, 30]) (XC.cond (Opd.t 31) (XC.reg 512 [XO.mk (some 32) (XOp.load (some 2) (Opd.t 6)) none, XO.mk none (XOp.store 2
(Opd.t 4) (Opd.t 32)) none] [6, 31, 32]) XC.skip)) ∧ 0 = 0 ∧ 0 = 0 ∧ Cont.vals [AV.imm (Cont.ints IntKind.i64 a) (List.length a) none, AV.imm (Cont.ints IntKind.u8 k) (List.length k) none] = Cont.vals
[AV.imm (Cont.ints IntKind.i64 a) (List.length a) none, AV.imm (Cont.ints IntKind.u8 k) (List.length k) none] ∧ Cont.vals [AV.imm (Cont.ints IntKind.i64 a) (List.length a) none, AV.imm (Cont.ints
IntKind.u8 k) (List.length k) none] = Cont.vals [AV.imm (Cont.ints IntKind.i64 a) (List.length a) none, AV.imm (Cont.ints IntKind.u8 k) (List.length k) none] ∧ (↑(List.length a) : Int) =
(↑(List.length a) : Int) ∧ b.i + 1 = b.i + 1 ∧ (∃ (n : Nat), b.i + 1 = (↑n : Int) ∧ n ≤ List.length a ∧ selL (ltF (rotL' a (Int.toNat b.i)) (rotL' k (Int.toNat b.i)) b.a b.k) (rotL' a (Int.toNat b.i))
b.a = rotL' a (bestN (trn a k) n) ∧ selL (ltF (rotL' a (Int.toNat b.i)) (rotL' k (Int.toNat b.i)) b.a b.k) (rotL' k (Int.toNat b.i)) b.k = rotL' k (bestN (trn a k) n)) ∧ List.length a - Int.toNat (b.i
+ 1) < List.length a - Int.toNat b.i ∧ True) ∧ (ltb b.i (↑(List.length a) : Int) = false → 1 = 1 ∧ Cont.ints IntKind.i64 b.a = Cont.ints IntKind.i64 (lsA a k) ∧ List.length b.a = List.length (lsA a k)
∧ List.length b.a = List.length (lsA a k) ∧ Cont.ints IntKind.u8 b.k = Cont.ints IntKind.u8 (lsK a k) ∧ List.length b.k = List.length (lsK a k) ∧ List.length b.k = List.length (lsK a k) ∧ 1 = 1 ∧ 0 =
0 ∧ (none : Option Ex) = none ∧ 34 = 34 ∧ [18] = [18] ∧ XC.reg 384 [XO.mk (some 6) (XOp.new (Cont.cells [AV.nils, AV.nils]) 1 2) none, XO.mk none (XOp.store 2 (Opd.t 6) (Opd.t 18)) none] [17, 18] =
XC.reg 384 [XO.mk (some 6) (XOp.new (Cont.cells [AV.nils, AV.nils]) 1 2) none, XO.mk none (XOp.store 2 (Opd.t 6) (Opd.t 18)) none] [17, 18] ∧ XC.block 1 (XC.seq (XC.draw 448 [XO.mk (some 19)
(XOp.fieldA 0 (Opd.t 6)) none, XO.mk (some 20) (XOp.load none (Opd.t 19)) none, XO.mk (some 21) (XOp.fieldA 0 (Opd.t 4)) none, XO.mk (some 22) (XOp.load none (Opd.t 21)) none, XO.mk (some 23)
(XOp.call 48 [Opd.t 20, Opd.t 22]) none, XO.mk (some 24) (XOp.fieldA 1 (Opd.t 6)) none, XO.mk (some 25) (XOp.load none (Opd.t 24)) none, XO.mk (some 26) (XOp.fieldA 1 (Opd.t 4)) none, XO.mk (some 27)
(XOp.load none (Opd.t 26)) none, XO.mk (some 28) (XOp.call 49 [Opd.t 25, Opd.t 27]) none, XO.mk (some 29) (XOp.buildS 1 2 4 [AV.int IntKind.i64 0] [(0, 1, Opd.t 23), (1, 1, Opd.t 28)]) none, XO.mk
(some 30) (XOp.call 47 [Opd.t 29]) none, XO.mk (some 31) (XOp.bin BinOp.lss (Opd.t 30) (Opd.c (AV.int IntKind.i64 0))) none] [[], [0], [], [2], [1, 3], [], [5], [], [7], [6, 8, 4], [4, 9], [10, 9],
[11]] [0, 1, 2, 3, 4, 5, 6, 7, 8, 9, 10, 11, 12] [19, 20, 21, 22, 23, 24, 25, 26, 27, 28, 29, 30]) (XC.cond (Opd.t 31) (XC.reg 512 [XO.mk (some 32) (XOp.load (some 2) (Opd.t 6)) none, XO.mk none
(XOp.store 2 (Opd.t 4) (Opd.t 32)) none] [6, 31, 32]) XC.skip)) = XC.block 1 (XC.seq (XC.draw 448 [XO.mk (some 19) (XOp.fieldA 0 (Opd.t 6)) none, XO.mk (some 20) (XOp.load none (Opd.t 19)) none, XO.mk
(some 21) (XOp.fieldA 0 (Opd.t 4)) none, XO.mk (some 22) (XOp.load none (Opd.t 21)) none, XO.mk (some 23) (XOp.call 48 [Opd.t 20, Opd.t 22]) none, XO.mk (some 24) (XOp.fieldA 1 (Opd.t 6)) none, XO.mk
(some 25) (XOp.load none (Opd.t 24)) none, XO.mk (some 26) (XOp.fieldA 1 (Opd.t 4)) none, XO.mk (some 27) (XOp.load none (Opd.t 26)) none, XO.mk (some 28) (XOp.call 49 [Opd.t 25, Opd.t 27]) none,
XO.mk (some 29) (XOp.buildS 1 2 4 [AV.int IntKind.i64 0] [(0, 1, Opd.t 23), (1, 1, Opd.t 28)]) none, XO.mk (some 30) (XOp.call 47 [Opd.t 29]) none, XO.mk (some 31) (XOp.bin BinOp.lss (Opd.t 30) (Opd.c
(AV.int IntKind.i64 0))) none] [[], [0], [], [2], [1, 3], [], [5], [], [7], [6, 8, 4], [4, 9], [10, 9], [11]] [0, 1, 2, 3, 4, 5, 6, 7, 8, 9, 10, 11, 12] [19, 20, 21, 22, 23, 24, 25, 26, 27, 28, 29,
30]) (XC.cond (Opd.t 31) (XC.reg 512 [XO.mk (some 32) (XOp.load (some 2) (Opd.t 6)) none, XO.mk none (XOp.store 2 (Opd.t 4) (Opd.t 32)) none] [6, 31, 32]) XC.skip)) ∧ 0 = 0 ∧ 0 = 0 ∧ Cont.vals [AV.imm
(Cont.ints IntKind.i64 a) (List.length a) none, AV.imm (Cont.ints IntKind.u8 k) (List.length k) none] = Cont.vals [AV.imm (Cont.ints IntKind.i64 a) (List.length a) none, AV.imm (Cont.ints IntKind.u8
k) (List.length k) none] ∧ True)) := by kernel_rfl

theorem ob_o28 (a k : List Int) : fnP (T28 a k) G 10000 fe28 (.r [] 0 (.r [] 29 (.r [] 0 (.cnd (.r [] 1 .nil) (.r [] 1 (.rf 9002 0 (.r [] 3 .nil))))))) ([fanV a k]) ([fanC (lsA a k) (lsK a k), .int .i64 0]) ([]) = (
(List.length a = List.length a ∧ List.length k = List.length k ∧ List.length a < 100000000000 ∧ chk a k = 0) ∧ ((bI (tOk a 0) 0 1 != 0) = true → Cont.size (Cont.ints IntKind.i64 (lsA a k)) = 0 ∧
List.length (lsA a k) = 0 ∧ List.length (lsA a k) = 0 ∧ Cont.size (Cont.ints IntKind.u8 (lsK a k)) = 0 ∧ List.length (lsK a k) = 0 ∧ List.length (lsK a k) = 0 ∧ bI (tOk a 0) 0 1 = 0 ∧ True) ∧ ((bI
(tOk a 0) 0 1 != 0) = false → (List.length a = List.length a ∧ List.length k = List.length k) ∧ ([(133, HO.blk (Blk.mk (Cont.cells [AV.imm (Cont.ints IntKind.i64 (bLt (tOk a 0) (rotL' a 0)))
(List.length (bLt (tOk a 0) (rotL' a 0))) (some (List.length (bLt (tOk a 0) (rotL' a 0)))), AV.imm (Cont.ints IntKind.u8 (bLt (tOk a 0) (rotL' k 0))) (List.length (bLt (tOk a 0) (rotL' k 0))) (some
(List.length (bLt (tOk a 0) (rotL' k 0))))]) 2 1 none (some false) true true)), (65, HO.blk (Blk.mk (Cont.cells [AV.nils, AV.nils]) 2 1 none (some false) true true)), (9002, HO.loop (LoopS.mk 0 none
[(2, AV.ptr 65 0), (4, AV.ptr 133 0), (17, AV.fn 71 [] [AV.iptr (Cont.vals [AV.imm (Cont.ints IntKind.i64 a) (List.length a) none, AV.imm (Cont.ints IntKind.u8 k) (List.length k) none])])] 34 [18]
(XC.reg 384 [XO.mk (some 6) (XOp.new (Cont.cells [AV.nils, AV.nils]) 1 2) none, XO.mk none (XOp.store 2 (Opd.t 6) (Opd.t 18)) none] [17, 18]) (XC.block 1 (XC.seq (XC.draw 448 [XO.mk (some 19)
(XOp.fieldA 0 (Opd.t 6)) none, XO.mk (some 20) (XOp.load none (Opd.t 19)) none, XO.mk (some 21) (XOp.fieldA 0 (Opd.t 4)) none, XO.mk (some 22) (XOp.load none (Opd.t 21)) none, XO.mk (some 23)
(XOp.call 48 [Opd.t 20, Opd.t 22]) none, XO.mk (some 24) (XOp.fieldA 1 (Opd.t 6)) none, XO.mk (some 25) (XOp.load none (Opd.t 24)) none, XO.mk (some 26) (XOp.fieldA 1 (Opd.t 4)) none, XO.mk (some 27)
(XOp.load none (Opd.t 26)) none, XO.mk (some 28) (XOp.call 49 [Opd.t 25, Opd.t 27]) none, XO.mk (some 29) (XOp.buildS 1 2 4 [AV.int IntKind.i64 0] [(0, 1, Opd.t 23), (1, 1, Opd.t 28)]) none, XO.mk
(some 30) (XOp.call 47 [Opd.t 29]) none, XO.mk (some 31) (XOp.bin BinOp.lss (Opd.t 30) (Opd.c (AV.int IntKind.i64 0))) none] [[], [0], [], [2], [1, 3], [], [5], [], [7], [6, 8, 4], [4, 9], [10, 9],
[11]] [0, 1, 2, 3, 4, 5, 6, 7, 8, 9, 10, 11, 12] [19, 20, 21, 22, 23, 24, 25, 26, 27, 28, 29, 30]) (XC.cond (Opd.t 31) (XC.reg 512 [XO.mk (some 32) (XOp.load (some 2) (Opd.t 6)) none, XO.mk none
(XOp.store 2 (Opd.t 4) (Opd.t 32)) none] [6, 31, 32]) XC.skip)))))] = [(133, HO.blk (Blk.mk (Cont.cells [AV.imm (Cont.ints IntKind.i64 (rotL' a 0)) (List.length (rotL' a 0)) (some (List.length (rotL'
a 0))), AV.imm (Cont.ints IntKind.u8 (rotL' k 0)) (List.length (rotL' k 0)) (some (List.length (rotL' k 0)))]) 2 1 none (some false) true true)), (65, HO.blk (Blk.mk (Cont.cells [AV.nils, AV.nils]) 2
1 none (some false) true true)), (9002, HO.loop (LoopS.mk 0 none [(2, AV.ptr 65 0), (4, AV.ptr 133 0), (17, AV.fn 71 [] [AV.iptr (Cont.vals [AV.imm (Cont.ints IntKind.i64 a) (List.length a) none,
AV.imm (Cont.ints IntKind.u8 k) (List.length k) none])])] 34 [18] (XC.reg 384 [XO.mk (some 6) (XOp.new (Cont.cells [AV.nils, AV.nils]) 1 2) none, XO.mk none (XOp.store 2 (Opd.t 6) (Opd.t 18)) none]
[17, 18]) (XC.block 1 (XC.seq (XC.draw 448 [XO.mk (some 19) (XOp.fieldA 0 (Opd.t 6)) none, XO.mk (some 20) (XOp.load none (Opd.t 19)) none, XO.mk (some 21) (XOp.fieldA 0 (Opd.t 4)) none, XO.mk (some
22) (XOp.load none (Opd.t 21)) none, XO.mk (some 23) (XOp.call 48 [Opd.t 20, Opd.t 22]) none, XO.mk (some 24) (XOp.fieldA 1 (Opd.t 6)) none, XO.mk (some 25) (XOp.load none (Opd.t 24)) none, XO.mk
(some 26) (XOp.fieldA 1 (Opd.t 4)) none, XO.mk (some 27) (XOp.load none (Opd.t 26)) none, XO.mk (some 28) (XOp.call 49 [Opd.t 25, Opd.t 27]) none, XO.mk (some 29) (XOp.buildS 1 2 4 [AV.int IntKind.i64
0] [(0, 1, Opd.t 23), (1, 1, Opd.t 28)]) none, XO.mk (some 30) (XOp.call 47 [Opd.t 29]) none, XO.mk (some 31) (XOp.bin BinOp.lss (Opd.t 30) (Opd.c (AV.int IntKind.i64 0))) none] [[], [0], [], [2], [1,
3], [], [5], [], [7], [6, 8, 4], [4, 9], [10, 9], [11]] [0, 1, 2, 3, 4, 5, 6, 7, 8, 9, 10, 11, 12] [19, 20, 21, 22, 23, 24, 25, 26, 27, 28, 29, 30]) (XC.cond (Opd.t 31) (XC.reg 512 [XO.mk (some 32)
(XOp.load (some 2) (Opd.t 6)) none, XO.mk none (XOp.store 2 (Opd.t 4) (Opd.t 32)) none] [6, 31, 32]) XC.skip)))))] ∧ [AV.yld 9002, AV.iptr (Cont.vals [AV.imm (Cont.ints IntKind.i64 a) (List.length a)
none, AV.imm (Cont.ints IntKind.u8 k) (List.length k) none])] = [AV.yld 9002, AV.iptr (Cont.vals [AV.imm (Cont.ints IntKind.i64 a) (List.length a) none, AV.imm (Cont.ints IntKind.u8 k) (List.length k)
none])] ∧ List.length k = List.length a ∧ List.length a < 1000000000) ∧ Cont.ints IntKind.i64 (lsA a k) = Cont.ints IntKind.i64 (lsA a k) ∧ List.length (lsA a k) = List.length (lsA a k) ∧ List.length
(lsA a k) = List.length (lsA a k) ∧ Cont.ints IntKind.u8 (lsK a k) = Cont.ints IntKind.u8 (lsK a k) ∧ List.length (lsK a k) = List.length (lsK a k) ∧ List.length (lsK a k) = List.length (lsK a k) ∧ iI
0 = 0 ∧ True)) := by kernel_rfl

theorem ob_o9 (c l : Int) (ks : List Int) (x : Int) : fnP (WL) G 10000 fe9 (.r [] 0 (.r [] 5 (.r [] 1 (.r [] 113 (.r [yL 323, yL 330, yL 337, yL 344] 61167 (.ff (.r [] 0 (.r [] 0 (.lp (l9 (ofA c l ks) (ofK c ks)) [] [] (fun b => (.r [] 0 (.cnd (.r [] 113 (.r [] 29 (.r [yL 835, yL 839, yL 846, yL 853, yL 860, yL 867] 28800894 (.ff (.r [] 0 (.lp (m9 (ofA c l ks)) [] [] (fun b_1 => (.r [] 0 (.cnd (.r [yO 1168, yO 1169, yO 1170, yO 1171, yO 1172, yO 1173, yO 1174, yO 1175, yO 1176, yO 1177, yO 1178, yO 1179, yO 1180, yO 1181, yO 1182] 2199056842785 (.ff (.r [] 0 .nil))) (.rs 2 [] 0 155 (.r [] 3 (.r [] 3 (.ff (.r [] 0 .nil)))) (.r [] 27 (.r [] 3 (.ff (.r [] 0 .nil)))))))))))))) (.r [] 113 (.rs 3 [] 0 171 (.rs 4 [] 0 175 (.r [] 15 (.r [yL 1602, yL 1608] 2038 .nil)) (.r [] 15 (.rs 10 [yL 1602, yL 1608] 6 189 (.r [] 127 .nil) (.r [yL 1613, yL 1621] 3838 .nil)))) (.r [] 3 (.r [yL 1602, yL 1608, yL 1613, yL 1621] 61414 .nil)))))))))))))))) ([fV c l ks, .int .i64 x]) ([.bool true]) ([]) = (
(List.length ks = List.length ks ∧ okK ks) ∧ List.length (ofA c l ks) = List.length (ofA c l ks) ∧ List.length (ofA c l ks) = List.length (ofA c l ks) ∧ List.length (ofK c ks) = List.length (ofK c ks)
∧ (List.length (ofA c l ks) = List.length (ofA c l ks) ∧ List.length (ofK c ks) = List.length (ofK c ks) ∧ List.length (ofA c l ks) < 1000000000 ∧ chk (ofA c l ks) (ofK c ks) = 0) ∧ (!(↑(List.length
(lsA (ofA c l ks) (ofK c ks))) : Int) != (↑(List.length (ofA c l ks)) : Int)) = true ∧ (!(↑(List.length (lsK (ofA c l ks) (ofK c ks))) : Int) != (↑(List.length (ofA c l ks)) : Int)) = true ∧
(!(↑(List.length (lsA (ofA c l ks) (ofK c ks))) : Int) != (↑(List.length (ofA c l ks)) : Int)) = true ∧ ((↑(List.length (lsK (ofA c l ks) (ofK c ks))) : Int) != (↑(List.length (ofA c l ks)) : Int)) =
false ∧ 1 = 1 ∧ c = c ∧ l = l ∧ Cont.ints IntKind.u8 ks = Cont.ints IntKind.u8 ks ∧ List.length ks = List.length ks ∧ List.length (ofA c l ks) = List.length (ofA c l ks) ∧ ofA c l ks = ofA c l ks ∧
List.length (ofK c ks) = List.length (ofK c ks) ∧ ofK c ks = ofK c ks ∧ 1 = 1 ∧ List.length (ofA c l ks) = List.length (ofA c l ks) ∧ List.length (ofK c ks) = List.length (ofK c ks) ∧ 1 = 1 ∧
Cont.ints IntKind.i64 (lsA (ofA c l ks) (ofK c ks)) = Cont.ints IntKind.i64 (lsA (ofA c l ks) (ofK c ks)) ∧ List.length (lsA (ofA c l ks) (ofK c ks)) = List.length (lsA (ofA c l ks) (ofK c ks)) ∧
List.length (lsA (ofA c l ks) (ofK c ks)) = List.length (lsA (ofA c l ks) (ofK c ks)) ∧ Cont.ints IntKind.u8 (lsK (ofA c l ks) (ofK c ks)) = Cont.ints IntKind.u8 (lsK (ofA c l ks) (ofK c ks)) ∧
List.length (lsK (ofA c l ks) (ofK c ks)) = List.length (lsK (ofA c l ks) (ofK c ks)) ∧ List.length (lsK (ofA c l ks) (ofK c ks)) = List.length (lsK (ofA c l ks) (ofK c ks)) ∧ x = x ∧ 0 = 0 ∧
(↑(List.length (ofA c l ks)) : Int) = (↑(List.length (ofA c l ks)) : Int) ∧ 0 = 0 ∧ ((↑(List.length (ofA c l ks)) : Int) == 0) = ((↑(List.length (ofA c l ks)) : Int) == 0) ∧ iI 0 = 0 ∧ (∃ (n : Nat), 0
= (↑n : Int) ∧ n ≤ List.length (ofA c l ks) ∧ ((↑(List.length (ofA c l ks)) : Int) == 0) = fndB (ofA c l ks) (ofK c ks) n) ∧ ∀ (b : L9), (∃ (n : Nat), b.k = (↑n : Int) ∧ n ≤ List.length (ofA c l ks) ∧
b.f = fndB (ofA c l ks) (ofK c ks) n) → (ltb b.k (↑(List.length (ofA c l ks)) : Int) = true → List.length (ofA c l ks) = List.length (ofA c l ks) ∧ List.length (ofK c ks) = List.length (ofK c ks) ∧
(List.length (ofA c l ks) = List.length (ofA c l ks) ∧ List.length (ofK c ks) = List.length (ofK c ks) ∧ List.length (ofA c l ks) < 100000000000 ∧ chk (ofA c l ks) (ofK c ks) = 0) ∧ (List.length (bLt
(tOk (ofA c l ks) b.k) (rotL' (ofA c l ks) (Int.toNat b.k))) = List.length (bLt (tOk (ofA c l ks) b.k) (rotL' (ofA c l ks) (Int.toNat b.k))) ∧ List.length (bLt (tOk (ofA c l ks) b.k) (rotL' (ofK c ks)
(Int.toNat b.k))) = List.length (bLt (tOk (ofA c l ks) b.k) (rotL' (ofK c ks) (Int.toNat b.k))) ∧ List.length (bLt (tOk (ofA c l ks) b.k) (rotL' (ofA c l ks) (Int.toNat b.k))) < 1000000000 ∧ chk (bLt
(tOk (ofA c l ks) b.k) (rotL' (ofA c l ks) (Int.toNat b.k))) (bLt (tOk (ofA c l ks) b.k) (rotL' (ofK c ks) (Int.toNat b.k))) = 0) ∧ (!bI (tOk (ofA c l ks) b.k) 0 1 != 0) = true ∧ (!(↑(List.length (bLt
(tOk (ofA c l ks) b.k) (rotL' (ofA c l ks) (Int.toNat b.k)))) : Int) != (↑(List.length (ofA c l ks)) : Int)) = true ∧ (!(↑(List.length (bLt (tOk (ofA c l ks) b.k) (rotL' (ofK c ks) (Int.toNat b.k))))
: Int) != (↑(List.length (ofA c l ks)) : Int)) = true ∧ (!(↑(List.length (bLt (tOk (ofA c l ks) b.k) (rotL' (ofA c l ks) (Int.toNat b.k)))) : Int) != (↑(List.length (ofA c l ks)) : Int)) = true ∧
(!(↑(List.length (bLt (tOk (ofA c l ks) b.k) (rotL' (ofK c ks) (Int.toNat b.k)))) : Int) != (↑(List.length (ofA c l ks)) : Int)) = true ∧ (List.length (lsA (bLt (tOk (ofA c l ks) b.k) (rotL' (ofA c l
ks) (Int.toNat b.k))) (bLt (tOk (ofA c l ks) b.k) (rotL' (ofK c ks) (Int.toNat b.k)))) = List.length (lsA (bLt (tOk (ofA c l ks) b.k) (rotL' (ofA c l ks) (Int.toNat b.k))) (bLt (tOk (ofA c l ks) b.k)
(rotL' (ofK c ks) (Int.toNat b.k)))) ∧ List.length (lsK (bLt (tOk (ofA c l ks) b.k) (rotL' (ofA c l ks) (Int.toNat b.k))) (bLt (tOk (ofA c l ks) b.k) (rotL' (ofK c ks) (Int.toNat b.k)))) = List.length
(lsK (bLt (tOk (ofA c l ks) b.k) (rotL' (ofA c l ks) (Int.toNat b.k))) (bLt (tOk (ofA c l ks) b.k) (rotL' (ofK c ks) (Int.toNat b.k)))) ∧ List.length (lsA (ofA c l ks) (ofK c ks)) = List.length (lsA
(ofA c l ks) (ofK c ks)) ∧ List.length (lsK (ofA c l ks) (ofK c ks)) = List.length (lsK (ofA c l ks) (ofK c ks)) ∧ List.length (lsA (bLt (tOk (ofA c l ks) b.k) (rotL' (ofA c l ks) (Int.toNat b.k)))
(bLt (tOk (ofA c l ks) b.k) (rotL' (ofK c ks) (Int.toNat b.k)))) = List.length (lsA (bLt (tOk (ofA c l ks) b.k) (rotL' (ofA c l ks) (Int.toNat b.k))) (bLt (tOk (ofA c l ks) b.k) (rotL' (ofK c ks)
(Int.toNat b.k)))) ∧ List.length (lsK (bLt (tOk (ofA c l ks) b.k) (rotL' (ofA c l ks) (Int.toNat b.k))) (bLt (tOk (ofA c l ks) b.k) (rotL' (ofK c ks) (Int.toNat b.k)))) = List.length (lsK (bLt (tOk
(ofA c l ks) b.k) (rotL' (ofA c l ks) (Int.toNat b.k))) (bLt (tOk (ofA c l ks) b.k) (rotL' (ofK c ks) (Int.toNat b.k)))) ∧ List.length (lsA (bLt (tOk (ofA c l ks) b.k) (rotL' (ofA c l ks) (Int.toNat
b.k))) (bLt (tOk (ofA c l ks) b.k) (rotL' (ofK c ks) (Int.toNat b.k)))) = List.length (lsA (ofA c l ks) (ofK c ks)) ∧ List.length (lsK (bLt (tOk (ofA c l ks) b.k) (rotL' (ofA c l ks) (Int.toNat b.k)))
(bLt (tOk (ofA c l ks) b.k) (rotL' (ofK c ks) (Int.toNat b.k)))) = List.length (lsK (ofA c l ks) (ofK c ks)) ∧ List.length (lsA (bLt (tOk (ofA c l ks) b.k) (rotL' (ofA c l ks) (Int.toNat b.k))) (bLt
(tOk (ofA c l ks) b.k) (rotL' (ofK c ks) (Int.toNat b.k)))) < 1000000000000 ∧ List.length (lsK (bLt (tOk (ofA c l ks) b.k) (rotL' (ofA c l ks) (Int.toNat b.k))) (bLt (tOk (ofA c l ks) b.k) (rotL' (ofK
c ks) (Int.toNat b.k)))) < 1000000000000) ∧ (!(eqB (lsA (bLt (tOk (ofA c l ks) b.k) (rotL' (ofA c l ks) (Int.toNat b.k))) (bLt (tOk (ofA c l ks) b.k) (rotL' (ofK c ks) (Int.toNat b.k)))) (lsA (ofA c l
ks) (ofK c ks)) && eqB (lsK (bLt (tOk (ofA c l ks) b.k) (rotL' (ofA c l ks) (Int.toNat b.k))) (bLt (tOk (ofA c l ks) b.k) (rotL' (ofK c ks) (Int.toNat b.k)))) (lsK (ofA c l ks) (ofK c ks)))) = false ∧
1 = 1 ∧ c = c ∧ l = l ∧ Cont.ints IntKind.u8 ks = Cont.ints IntKind.u8 ks ∧ List.length ks = List.length ks ∧ List.length (ofA c l ks) = List.length (ofA c l ks) ∧ ofA c l ks = ofA c l ks ∧
List.length (ofK c ks) = List.length (ofK c ks) ∧ ofK c ks = ofK c ks ∧ 1 = 1 ∧ List.length (ofA c l ks) = List.length (ofA c l ks) ∧ List.length (ofK c ks) = List.length (ofK c ks) ∧ 1 = 1 ∧
Cont.ints IntKind.i64 (lsA (ofA c l ks) (ofK c ks)) = Cont.ints IntKind.i64 (lsA (ofA c l ks) (ofK c ks)) ∧ List.length (lsA (ofA c l ks) (ofK c ks)) = List.length (lsA (ofA c l ks) (ofK c ks)) ∧
List.length (lsA (ofA c l ks) (ofK c ks)) = List.length (lsA (ofA c l ks) (ofK c ks)) ∧ Cont.ints IntKind.u8 (lsK (ofA c l ks) (ofK c ks)) = Cont.ints IntKind.u8 (lsK (ofA c l ks) (ofK c ks)) ∧
List.length (lsK (ofA c l ks) (ofK c ks)) = List.length (lsK (ofA c l ks) (ofK c ks)) ∧ List.length (lsK (ofA c l ks) (ofK c ks)) = List.length (lsK (ofA c l ks) (ofK c ks)) ∧ 1 = 1 ∧ Cont.ints
IntKind.i64 (bLt (tOk (ofA c l ks) b.k) (rotL' (ofA c l ks) (Int.toNat b.k))) = Cont.ints IntKind.i64 (bLt (tOk (ofA c l ks) b.k) (rotL' (ofA c l ks) (Int.toNat b.k))) ∧ List.length (bLt (tOk (ofA c l
ks) b.k) (rotL' (ofA c l ks) (Int.toNat b.k))) = List.length (bLt (tOk (ofA c l ks) b.k) (rotL' (ofA c l ks) (Int.toNat b.k))) ∧ List.length (bLt (tOk (ofA c l ks) b.k) (rotL' (ofA c l ks) (Int.toNat
b.k))) = List.length (bLt (tOk (ofA c l ks) b.k) (rotL' (ofA c l ks) (Int.toNat b.k))) ∧ Cont.ints IntKind.u8 (bLt (tOk (ofA c l ks) b.k) (rotL' (ofK c ks) (Int.toNat b.k))) = Cont.ints IntKind.u8
(bLt (tOk (ofA c l ks) b.k) (rotL' (ofK c ks) (Int.toNat b.k))) ∧ List.length (bLt (tOk (ofA c l ks) b.k) (rotL' (ofK c ks) (Int.toNat b.k))) = List.length (bLt (tOk (ofA c l ks) b.k) (rotL' (ofK c
ks) (Int.toNat b.k))) ∧ List.length (bLt (tOk (ofA c l ks) b.k) (rotL' (ofK c ks) (Int.toNat b.k))) = List.length (bLt (tOk (ofA c l ks) b.k) (rotL' (ofK c ks) (Int.toNat b.k))) ∧ 1 = 1 ∧ Cont.ints
IntKind.i64 (lsA (bLt (tOk (ofA c l ks) b.k) (rotL' (ofA c l ks) (Int.toNat b.k))) (bLt (tOk (ofA c l ks) b.k) (rotL' (ofK c ks) (Int.toNat b.k)))) = Cont.ints IntKind.i64 (lsA (bLt (tOk (ofA c l ks)
b.k) (rotL' (ofA c l ks) (Int.toNat b.k))) (bLt (tOk (ofA c l ks) b.k) (rotL' (ofK c ks) (Int.toNat b.k)))) ∧ List.length (lsA (bLt (tOk (ofA c l ks) b.k) (rotL' (ofA c l ks) (Int.toNat b.k))) (bLt
(tOk (ofA c l ks) b.k) (rotL' (ofK c ks) (Int.toNat b.k)))) = List.length (lsA (bLt (tOk (ofA c l ks) b.k) (rotL' (ofA c l ks) (Int.toNat b.k))) (bLt (tOk (ofA c l ks) b.k) (rotL' (ofK c ks)
(Int.toNat b.k)))) ∧ List.length (lsA (bLt (tOk (ofA c l ks) b.k) (rotL' (ofA c l ks) (Int.toNat b.k))) (bLt (tOk (ofA c l ks) b.k) (rotL' (ofK c ks) (Int.toNat b.k)))) = List.length (lsA (bLt (tOk
(ofA c l ks) b.k) (rotL' (ofA c l ks) (Int.toNat b.k))) (bLt (tOk (ofA c l ks) b.k) (rotL' (ofK c ks) (Int.toNat b.k)))) ∧ Cont.ints IntKind.u8 (lsK (bLt (tOk (ofA c l ks) b.k) (rotL' (ofA c l ks)
(Int.toNat b.k))) (bLt (tOk (ofA c l ks) b.k) (rotL' (ofK c ks) (Int.toNat b.k)))) = Cont.ints IntKind.u8 (lsK (bLt (tOk (ofA c l ks) b.k) (rotL' (ofA c l ks) (Int.toNat b.k))) (bLt (tOk (ofA c l ks)
b.k) (rotL' (ofK c ks) (Int.toNat b.k)))) ∧ List.length (lsK (bLt (tOk (ofA c l ks) b.k) (rotL' (ofA c l ks) (Int.toNat b.k))) (bLt (tOk (ofA c l ks) b.k) (rotL' (ofK c ks) (Int.toNat b.k)))) =
List.length (lsK (bLt (tOk (ofA c l ks) b.k) (rotL' (ofA c l ks) (Int.toNat b.k))) (bLt (tOk (ofA c l ks) b.k) (rotL' (ofK c ks) (Int.toNat b.k)))) ∧ List.length (lsK (bLt (tOk (ofA c l ks) b.k)
(rotL' (ofA c l ks) (Int.toNat b.k))) (bLt (tOk (ofA c l ks) b.k) (rotL' (ofK c ks) (Int.toNat b.k)))) = List.length (lsK (bLt (tOk (ofA c l ks) b.k) (rotL' (ofA c l ks) (Int.toNat b.k))) (bLt (tOk
(ofA c l ks) b.k) (rotL' (ofK c ks) (Int.toNat b.k)))) ∧ x = x ∧ 0 = 0 ∧ (↑(List.length (ofA c l ks)) : Int) = (↑(List.length (ofA c l ks)) : Int) ∧ 0 = 0 ∧ b.f = b.f ∧ b.k = b.k ∧ 0 = 0 ∧ iI 0 = 0 ∧
false = false ∧ 0 = 0 ∧ Cont.ints IntKind.i64 (bLt (tOk (ofA c l ks) b.k) (rotL' (ofA c l ks) (Int.toNat b.k))) = Cont.ints IntKind.i64 (bLt (tOk (ofA c l ks) b.k) (rotL' (ofA c l ks) (Int.toNat
b.k))) ∧ List.length (bLt (tOk (ofA c l ks) b.k) (rotL' (ofA c l ks) (Int.toNat b.k))) = List.length (bLt (tOk (ofA c l ks) b.k) (rotL' (ofA c l ks) (Int.toNat b.k))) ∧ List.length (bLt (tOk (ofA c l
ks) b.k) (rotL' (ofA c l ks) (Int.toNat b.k))) = List.length (bLt (tOk (ofA c l ks) b.k) (rotL' (ofA c l ks) (Int.toNat b.k))) ∧ (↑(List.length (bLt (tOk (ofA c l ks) b.k) (rotL' (ofA c l ks)
(Int.toNat b.k)))) : Int) = (↑(List.length (bLt (tOk (ofA c l ks) b.k) (rotL' (ofA c l ks) (Int.toNat b.k)))) : Int) ∧ (↑(List.length (ofA c l ks)) : Int) = (↑(List.length (ofA c l ks)) : Int) ∧
((↑(List.length (bLt (tOk (ofA c l ks) b.k) (rotL' (ofA c l ks) (Int.toNat b.k)))) : Int) != (↑(List.length (ofA c l ks)) : Int)) = ((↑(List.length (bLt (tOk (ofA c l ks) b.k) (rotL' (ofA c l ks)
(Int.toNat b.k)))) : Int) != (↑(List.length (ofA c l ks)) : Int)) ∧ 1 = 1 ∧ Cont.ints IntKind.u8 (bLt (tOk (ofA c l ks) b.k) (rotL' (ofK c ks) (Int.toNat b.k))) = Cont.ints IntKind.u8 (bLt (tOk (ofA c
l ks) b.k) (rotL' (ofK c ks) (Int.toNat b.k))) ∧ List.length (bLt (tOk (ofA c l ks) b.k) (rotL' (ofK c ks) (Int.toNat b.k))) = List.length (bLt (tOk (ofA c l ks) b.k) (rotL' (ofK c ks) (Int.toNat
b.k))) ∧ List.length (bLt (tOk (ofA c l ks) b.k) (rotL' (ofK c ks) (Int.toNat b.k))) = List.length (bLt (tOk (ofA c l ks) b.k) (rotL' (ofK c ks) (Int.toNat b.k))) ∧ (↑(List.length (bLt (tOk (ofA c l
ks) b.k) (rotL' (ofK c ks) (Int.toNat b.k)))) : Int) = (↑(List.length (bLt (tOk (ofA c l ks) b.k) (rotL' (ofK c ks) (Int.toNat b.k)))) : Int) ∧ (↑(List.length (ofA c l ks)) : Int) = (↑(List.length
(ofA c l ks)) : Int) ∧ ((↑(List.length (bLt (tOk (ofA c l ks) b.k) (rotL' (ofK c ks) (Int.toNat b.k)))) : Int) != (↑(List.length (ofA c l ks)) : Int)) = ((↑(List.length (bLt (tOk (ofA c l ks) b.k)
(rotL' (ofK c ks) (Int.toNat b.k)))) : Int) != (↑(List.length (ofA c l ks)) : Int)) ∧ 0 = 0 ∧ Cont.ints IntKind.i64 (bLt (tOk (ofA c l ks) b.k) (rotL' (ofA c l ks) (Int.toNat b.k))) = Cont.ints
IntKind.i64 (bLt (tOk (ofA c l ks) b.k) (rotL' (ofA c l ks) (Int.toNat b.k))) ∧ List.length (bLt (tOk (ofA c l ks) b.k) (rotL' (ofA c l ks) (Int.toNat b.k))) = List.length (bLt (tOk (ofA c l ks) b.k)
(rotL' (ofA c l ks) (Int.toNat b.k))) ∧ List.length (bLt (tOk (ofA c l ks) b.k) (rotL' (ofA c l ks) (Int.toNat b.k))) = List.length (bLt (tOk (ofA c l ks) b.k) (rotL' (ofA c l ks) (Int.toNat b.k))) ∧
(↑(List.length (bLt (tOk (ofA c l ks) b.k) (rotL' (ofA c l ks) (Int.toNat b.k)))) : Int) = (↑(List.length (bLt (tOk (ofA c l ks) b.k) (rotL' (ofA c l ks) (Int.toNat b.k)))) : Int) ∧ (↑(List.length
(ofA c l ks)) : Int) = (↑(List.length (ofA c l ks)) : Int) ∧ ((↑(List.length (bLt (tOk (ofA c l ks) b.k) (rotL' (ofA c l ks) (Int.toNat b.k)))) : Int) != (↑(List.length (ofA c l ks)) : Int)) =
((↑(List.length (bLt (tOk (ofA c l ks) b.k) (rotL' (ofA c l ks) (Int.toNat b.k)))) : Int) != (↑(List.length (ofA c l ks)) : Int)) ∧ 1 = 1 ∧ Cont.ints IntKind.u8 (bLt (tOk (ofA c l ks) b.k) (rotL' (ofK
c ks) (Int.toNat b.k))) = Cont.ints IntKind.u8 (bLt (tOk (ofA c l ks) b.k) (rotL' (ofK c ks) (Int.toNat b.k))) ∧ List.length (bLt (tOk (ofA c l ks) b.k) (rotL' (ofK c ks) (Int.toNat b.k))) =
List.length (bLt (tOk (ofA c l ks) b.k) (rotL' (ofK c ks) (Int.toNat b.k))) ∧ List.length (bLt (tOk (ofA c l ks) b.k) (rotL' (ofK c ks) (Int.toNat b.k))) = List.length (bLt (tOk (ofA c l ks) b.k)
(rotL' (ofK c ks) (Int.toNat b.k))) ∧ (↑(List.length (bLt (tOk (ofA c l ks) b.k) (rotL' (ofK c ks) (Int.toNat b.k)))) : Int) = (↑(List.length (bLt (tOk (ofA c l ks) b.k) (rotL' (ofK c ks) (Int.toNat
b.k)))) : Int) ∧ (↑(List.length (ofA c l ks)) : Int) = (↑(List.length (ofA c l ks)) : Int) ∧ ((↑(List.length (bLt (tOk (ofA c l ks) b.k) (rotL' (ofK c ks) (Int.toNat b.k)))) : Int) != (↑(List.length
(ofA c l ks)) : Int)) = ((↑(List.length (bLt (tOk (ofA c l ks) b.k) (rotL' (ofK c ks) (Int.toNat b.k)))) : Int) != (↑(List.length (ofA c l ks)) : Int)) ∧ Cont.ints IntKind.i64 (lsA (bLt (tOk (ofA c l
ks) b.k) (rotL' (ofA c l ks) (Int.toNat b.k))) (bLt (tOk (ofA c l ks) b.k) (rotL' (ofK c ks) (Int.toNat b.k)))) = Cont.ints IntKind.i64 (lsA (bLt (tOk (ofA c l ks) b.k) (rotL' (ofA c l ks) (Int.toNat
b.k))) (bLt (tOk (ofA c l ks) b.k) (rotL' (ofK c ks) (Int.toNat b.k)))) ∧ List.length (lsA (bLt (tOk (ofA c l ks) b.k) (rotL' (ofA c l ks) (Int.toNat b.k))) (bLt (tOk (ofA c l ks) b.k) (rotL' (ofK c
ks) (Int.toNat b.k)))) = List.length (lsA (bLt (tOk (ofA c l ks) b.k) (rotL' (ofA c l ks) (Int.toNat b.k))) (bLt (tOk (ofA c l ks) b.k) (rotL' (ofK c ks) (Int.toNat b.k)))) ∧ List.length (lsA (bLt
(tOk (ofA c l ks) b.k) (rotL' (ofA c l ks) (Int.toNat b.k))) (bLt (tOk (ofA c l ks) b.k) (rotL' (ofK c ks) (Int.toNat b.k)))) = List.length (lsA (bLt (tOk (ofA c l ks) b.k) (rotL' (ofA c l ks)
(Int.toNat b.k))) (bLt (tOk (ofA c l ks) b.k) (rotL' (ofK c ks) (Int.toNat b.k)))) ∧ Cont.ints IntKind.u8 (lsK (bLt (tOk (ofA c l ks) b.k) (rotL' (ofA c l ks) (Int.toNat b.k))) (bLt (tOk (ofA c l ks)
b.k) (rotL' (ofK c ks) (Int.toNat b.k)))) = Cont.ints IntKind.u8 (lsK (bLt (tOk (ofA c l ks) b.k) (rotL' (ofA c l ks) (Int.toNat b.k))) (bLt (tOk (ofA c l ks) b.k) (rotL' (ofK c ks) (Int.toNat b.k))))
∧ List.length (lsK (bLt (tOk (ofA c l ks) b.k) (rotL' (ofA c l ks) (Int.toNat b.k))) (bLt (tOk (ofA c l ks) b.k) (rotL' (ofK c ks) (Int.toNat b.k)))) = List.length (lsK (bLt (tOk (ofA c l ks) b.k)
(rotL' (ofA c l ks) (Int.toNat b.k))) (bLt (tOk (ofA c l ks) b.k) (rotL' (ofK c ks) (Int.toNat b.k)))) ∧ List.length (lsK (bLt (tOk (ofA c l ks) b.k) (rotL' (ofA c l ks) (Int.toNat b.k))) (bLt (tOk
(ofA c l ks) b.k) (rotL' (ofK c ks) (Int.toNat b.k)))) = List.length (lsK (bLt (tOk (ofA c l ks) b.k) (rotL' (ofA c l ks) (Int.toNat b.k))) (bLt (tOk (ofA c l ks) b.k) (rotL' (ofK c ks) (Int.toNat
b.k)))) ∧ Cont.ints IntKind.i64 (lsA (ofA c l ks) (ofK c ks)) = Cont.ints IntKind.i64 (lsA (ofA c l ks) (ofK c ks)) ∧ List.length (lsA (ofA c l ks) (ofK c ks)) = List.length (lsA (ofA c l ks) (ofK c
ks)) ∧ List.length (lsA (ofA c l ks) (ofK c ks)) = List.length (lsA (ofA c l ks) (ofK c ks)) ∧ Cont.ints IntKind.u8 (lsK (ofA c l ks) (ofK c ks)) = Cont.ints IntKind.u8 (lsK (ofA c l ks) (ofK c ks)) ∧
List.length (lsK (ofA c l ks) (ofK c ks)) = List.length (lsK (ofA c l ks) (ofK c ks)) ∧ List.length (lsK (ofA c l ks) (ofK c ks)) = List.length (lsK (ofA c l ks) (ofK c ks)) ∧ (eqB (lsA (bLt (tOk (ofA
c l ks) b.k) (rotL' (ofA c l ks) (Int.toNat b.k))) (bLt (tOk (ofA c l ks) b.k) (rotL' (ofK c ks) (Int.toNat b.k)))) (lsA (ofA c l ks) (ofK c ks)) && eqB (lsK (bLt (tOk (ofA c l ks) b.k) (rotL' (ofA c
l ks) (Int.toNat b.k))) (bLt (tOk (ofA c l ks) b.k) (rotL' (ofK c ks) (Int.toNat b.k)))) (lsK (ofA c l ks) (ofK c ks))) = (eqB (lsA (bLt (tOk (ofA c l ks) b.k) (rotL' (ofA c l ks) (Int.toNat b.k)))
(bLt (tOk (ofA c l ks) b.k) (rotL' (ofK c ks) (Int.toNat b.k)))) (lsA (ofA c l ks) (ofK c ks)) && eqB (lsK (bLt (tOk (ofA c l ks) b.k) (rotL' (ofA c l ks) (Int.toNat b.k))) (bLt (tOk (ofA c l ks) b.k)
(rotL' (ofK c ks) (Int.toNat b.k)))) (lsK (ofA c l ks) (ofK c ks))) ∧ (!(eqB (lsA (bLt (tOk (ofA c l ks) b.k) (rotL' (ofA c l ks) (Int.toNat b.k))) (bLt (tOk (ofA c l ks) b.k) (rotL' (ofK c ks)
(Int.toNat b.k)))) (lsA (ofA c l ks) (ofK c ks)) && eqB (lsK (bLt (tOk (ofA c l ks) b.k) (rotL' (ofA c l ks) (Int.toNat b.k))) (bLt (tOk (ofA c l ks) b.k) (rotL' (ofK c ks) (Int.toNat b.k)))) (lsK
(ofA c l ks) (ofK c ks)))) = !(eqB (lsA (bLt (tOk (ofA c l ks) b.k) (rotL' (ofA c l ks) (Int.toNat b.k))) (bLt (tOk (ofA c l ks) b.k) (rotL' (ofK c ks) (Int.toNat b.k)))) (lsA (ofA c l ks) (ofK c ks))
&& eqB (lsK (bLt (tOk (ofA c l ks) b.k) (rotL' (ofA c l ks) (Int.toNat b.k))) (bLt (tOk (ofA c l ks) b.k) (rotL' (ofK c ks) (Int.toNat b.k)))) (lsK (ofA c l ks) (ofK c ks))) ∧ iI 0 = 0 ∧ (∃ (n : Nat),
0 = (↑n : Int) ∧ n ≤ List.length (ofA c l ks)) ∧ ∀ (b_1 : L26), (∃ (n : Nat), b_1.i = (↑n : Int) ∧ n ≤ List.length (ofA c l ks)) → (ltb b_1.i (↑(List.length (ofA c l ks)) : Int) = true → leb 0 b_1.i =
true ∧ ltb b_1.i (↑(List.length (bLt (tOk (ofA c l ks) b.k) (rotL' (ofA c l ks) (Int.toNat b.k)))) : Int) = true ∧ ltn 0 (Cont.size (Cont.ints IntKind.i64 (bLt (tOk (ofA c l ks) b.k) (rotL' (ofA c l
ks) (Int.toNat b.k))))) = true ∧ ltn 0 (Cont.size (Cont.ints IntKind.i64 (List.drop (Int.toNat b_1.i) (bLt (tOk (ofA c l ks) b.k) (rotL' (ofA c l ks) (Int.toNat b.k)))))) = true ∧ inR IntKind.i64
(b_1.i + b.k) = true ∧ (!(↑(List.length (ofA c l ks)) : Int) == 0) = true ∧ leb 0 (Int.tmod (b_1.i + b.k) (↑(List.length (ofA c l ks)) : Int)) = true ∧ ltb (Int.tmod (b_1.i + b.k) (↑(List.length (ofA
c l ks)) : Int)) (↑(List.length (ofA c l ks)) : Int) = true ∧ List.length (ofA c l ks) = List.length (ofA c l ks) ∧ List.length (ofA c l ks) = List.length (ofA c l ks) ∧ ltn (Int.toNat (Int.tmod
(b_1.i + b.k) (↑(List.length (ofA c l ks)) : Int))) (Cont.size (Cont.ints IntKind.i64 (ofA c l ks))) = true ∧ (!List.getD (List.drop (Int.toNat b_1.i) (bLt (tOk (ofA c l ks) b.k) (rotL' (ofA c l ks)
(Int.toNat b.k)))) 0 0 != List.getD (ofA c l ks) (Int.toNat (Int.tmod (b_1.i + b.k) (↑(List.length (ofA c l ks)) : Int))) 0) = true ∧ (!List.getD (List.drop (Int.toNat b_1.i) (bLt (tOk (ofA c l ks)
b.k) (rotL' (ofA c l ks) (Int.toNat b.k)))) 0 0 != List.getD (ofA c l ks) (Int.toNat (Int.tmod (b_1.i + b.k) (↑(List.length (ofA c l ks)) : Int))) 0) = true ∧ (!List.getD (List.drop (Int.toNat b_1.i)
(bLt (tOk (ofA c l ks) b.k) (rotL' (ofA c l ks) (Int.toNat b.k)))) 0 0 != List.getD (ofA c l ks) (Int.toNat (Int.tmod (b_1.i + b.k) (↑(List.length (ofA c l ks)) : Int))) 0) = true ∧ (!List.getD
(List.drop (Int.toNat b_1.i) (bLt (tOk (ofA c l ks) b.k) (rotL' (ofA c l ks) (Int.toNat b.k)))) 0 0 != List.getD (ofA c l ks) (Int.toNat (Int.tmod (b_1.i + b.k) (↑(List.length (ofA c l ks)) : Int)))
0) = true ∧ leb 0 b_1.i = true ∧ ltb b_1.i (↑(List.length (bLt (tOk (ofA c l ks) b.k) (rotL' (ofK c ks) (Int.toNat b.k)))) : Int) = true ∧ ltn 0 (Cont.size (Cont.ints IntKind.u8 (bLt (tOk (ofA c l ks)
b.k) (rotL' (ofK c ks) (Int.toNat b.k))))) = true ∧ (!List.getD (List.drop (Int.toNat b_1.i) (bLt (tOk (ofA c l ks) b.k) (rotL' (ofA c l ks) (Int.toNat b.k)))) 0 0 != List.getD (ofA c l ks) (Int.toNat
(Int.tmod (b_1.i + b.k) (↑(List.length (ofA c l ks)) : Int))) 0) = true ∧ ltn 0 (Cont.size (Cont.ints IntKind.u8 (List.drop (Int.toNat b_1.i) (bLt (tOk (ofA c l ks) b.k) (rotL' (ofK c ks) (Int.toNat
b.k)))))) = true ∧ (!List.getD (List.drop (Int.toNat b_1.i) (bLt (tOk (ofA c l ks) b.k) (rotL' (ofA c l ks) (Int.toNat b.k)))) 0 0 != List.getD (ofA c l ks) (Int.toNat (Int.tmod (b_1.i + b.k)
(↑(List.length (ofA c l ks)) : Int))) 0) = true ∧ (!List.getD (List.drop (Int.toNat b_1.i) (bLt (tOk (ofA c l ks) b.k) (rotL' (ofA c l ks) (Int.toNat b.k)))) 0 0 != List.getD (ofA c l ks) (Int.toNat
(Int.tmod (b_1.i + b.k) (↑(List.length (ofA c l ks)) : Int))) 0) = true ∧ (!List.getD (List.drop (Int.toNat b_1.i) (bLt (tOk (ofA c l ks) b.k) (rotL' (ofA c l ks) (Int.toNat b.k)))) 0 0 != List.getD
(ofA c l ks) (Int.toNat (Int.tmod (b_1.i + b.k) (↑(List.length (ofA c l ks)) : Int))) 0) = true ∧ (!List.getD (List.drop (Int.toNat b_1.i) (bLt (tOk (ofA c l ks) b.k) (rotL' (ofA c l ks) (Int.toNat
b.k)))) 0 0 != List.getD (ofA c l ks) (Int.toNat (Int.tmod (b_1.i + b.k) (↑(List.length (ofA c l ks)) : Int))) 0) = true ∧ (!List.getD (List.drop (Int.toNat b_1.i) (bLt (tOk (ofA c l ks) b.k) (rotL'
(ofA c l ks) (Int.toNat b.k)))) 0 0 != List.getD (ofA c l ks) (Int.toNat (Int.tmod (b_1.i + b.k) (↑(List.length (ofA c l ks)) : Int))) 0) = true ∧ inR IntKind.i64 (b_1.i + b.k) = true ∧ (!List.getD
(List.drop (Int.toNat b_1.i) (bLt (tOk (ofA c l ks) b.k) (rotL' (ofA c l ks) (Int.toNat b.k)))) 0 0 != List.getD (ofA c l ks) (Int.toNat (Int.tmod (b_1.i + b.k) (↑(List.length (ofA c l ks)) : Int)))
0) = true ∧ (!List.getD (List.drop (Int.toNat b_1.i) (bLt (tOk (ofA c l ks) b.k) (rotL' (ofA c l ks) (Int.toNat b.k)))) 0 0 != List.getD (ofA c l ks) (Int.toNat (Int.tmod (b_1.i + b.k) (↑(List.length
(ofA c l ks)) : Int))) 0) = true ∧ (!(↑(List.length (ofA c l ks)) : Int) == 0) = true ∧ (!List.getD (List.drop (Int.toNat b_1.i) (bLt (tOk (ofA c l ks) b.k) (rotL' (ofA c l ks) (Int.toNat b.k)))) 0 0
!= List.getD (ofA c l ks) (Int.toNat (Int.tmod (b_1.i + b.k) (↑(List.length (ofA c l ks)) : Int))) 0) = true ∧ leb 0 (Int.tmod (b_1.i + b.k) (↑(List.length (ofA c l ks)) : Int)) = true ∧ ltb (Int.tmod
(b_1.i + b.k) (↑(List.length (ofA c l ks)) : Int)) (↑(List.length (ofK c ks)) : Int) = true ∧ List.length (ofK c ks) = List.length (ofK c ks) ∧ (!List.getD (List.drop (Int.toNat b_1.i) (bLt (tOk (ofA
c l ks) b.k) (rotL' (ofA c l ks) (Int.toNat b.k)))) 0 0 != List.getD (ofA c l ks) (Int.toNat (Int.tmod (b_1.i + b.k) (↑(List.length (ofA c l ks)) : Int))) 0) = true ∧ List.length (ofK c ks) =
List.length (ofK c ks) ∧ ltn (Int.toNat (Int.tmod (b_1.i + b.k) (↑(List.length (ofA c l ks)) : Int))) (Cont.size (Cont.ints IntKind.u8 (ofK c ks))) = true ∧ (!List.getD (List.drop (Int.toNat b_1.i)
(bLt (tOk (ofA c l ks) b.k) (rotL' (ofA c l ks) (Int.toNat b.k)))) 0 0 != List.getD (ofA c l ks) (Int.toNat (Int.tmod (b_1.i + b.k) (↑(List.length (ofA c l ks)) : Int))) 0) = true ∧ (bif List.getD
(List.drop (Int.toNat b_1.i) (bLt (tOk (ofA c l ks) b.k) (rotL' (ofA c l ks) (Int.toNat b.k)))) 0 0 != List.getD (ofA c l ks) (Int.toNat (Int.tmod (b_1.i + b.k) (↑(List.length (ofA c l ks)) : Int))) 0
then true else true) = true ∧ (bif List.getD (List.drop (Int.toNat b_1.i) (bLt (tOk (ofA c l ks) b.k) (rotL' (ofA c l ks) (Int.toNat b.k)))) 0 0 != List.getD (ofA c l ks) (Int.toNat (Int.tmod (b_1.i +
b.k) (↑(List.length (ofA c l ks)) : Int))) 0 then true else List.getD (List.drop (Int.toNat b_1.i) (bLt (tOk (ofA c l ks) b.k) (rotL' (ofK c ks) (Int.toNat b.k)))) 0 0 != List.getD (ofK c ks)
(Int.toNat (Int.tmod (b_1.i + b.k) (↑(List.length (ofA c l ks)) : Int))) 0) = false ∧ inR IntKind.i64 (b_1.i + 1) = true ∧ 1 = 1 ∧ c = c ∧ l = l ∧ Cont.ints IntKind.u8 ks = Cont.ints IntKind.u8 ks ∧
List.length ks = List.length ks ∧ List.length (ofA c l ks) = List.length (ofA c l ks) ∧ ofA c l ks = ofA c l ks ∧ List.length (ofK c ks) = List.length (ofK c ks) ∧ ofK c ks = ofK c ks ∧ 1 = 1 ∧
List.length (ofA c l ks) = List.length (ofA c l ks) ∧ List.length (ofK c ks) = List.length (ofK c ks) ∧ 1 = 1 ∧ Cont.ints IntKind.i64 (lsA (ofA c l ks) (ofK c ks)) = Cont.ints IntKind.i64 (lsA (ofA c
l ks) (ofK c ks)) ∧ List.length (lsA (ofA c l ks) (ofK c ks)) = List.length (lsA (ofA c l ks) (ofK c ks)) ∧ List.length (lsA (ofA c l ks) (ofK c ks)) = List.length (lsA (ofA c l ks) (ofK c ks)) ∧
Cont.ints IntKind.u8 (lsK (ofA c l ks) (ofK c ks)) = Cont.ints IntKind.u8 (lsK (ofA c l ks) (ofK c ks)) ∧ List.length (lsK (ofA c l ks) (ofK c ks)) = List.length (lsK (ofA c l ks) (ofK c ks)) ∧
List.length (lsK (ofA c l ks) (ofK c ks)) = List.length (lsK (ofA c l ks) (ofK c ks)) ∧ 1 = 1 ∧ Cont.ints IntKind.i64 (bLt (tOk (ofA c l ks) b.k) (rotL' (ofA c l ks) (Int.toNat b.k))) = Cont.ints
IntKind.i64 (bLt (tOk (ofA c l ks) b.k) (rotL' (ofA c l ks) (Int.toNat b.k))) ∧ List.length (bLt (tOk (ofA c l ks) b.k) (rotL' (ofA c l ks) (Int.toNat b.k))) = List.length (bLt (tOk (ofA c l ks) b.k)
(rotL' (ofA c l ks) (Int.toNat b.k))) ∧ List.length (bLt (tOk (ofA c l ks) b.k) (rotL' (ofA c l ks) (Int.toNat b.k))) = List.length (bLt (tOk (ofA c l ks) b.k) (rotL' (ofA c l ks) (Int.toNat b.k))) ∧
Cont.ints IntKind.u8 (bLt (tOk (ofA c l ks) b.k) (rotL' (ofK c ks) (Int.toNat b.k))) = Cont.ints IntKind.u8 (bLt (tOk (ofA c l ks) b.k) (rotL' (ofK c ks) (Int.toNat b.k))) ∧ List.length (bLt (tOk (ofA
c l ks) b.k) (rotL' (ofK c ks) (Int.toNat b.k))) = List.length (bLt (tOk (ofA c l ks) b.k) (rotL' (ofK c ks) (Int.toNat b.k))) ∧ List.length (bLt (tOk (ofA c l ks) b.k) (rotL' (ofK c ks) (Int.toNat
b.k))) = List.length (bLt (tOk (ofA c l ks) b.k) (rotL' (ofK c ks) (Int.toNat b.k))) ∧ 1 = 1 ∧ Cont.ints IntKind.i64 (lsA (bLt (tOk (ofA c l ks) b.k) (rotL' (ofA c l ks) (Int.toNat b.k))) (bLt (tOk
(ofA c l ks) b.k) (rotL' (ofK c ks) (Int.toNat b.k)))) = Cont.ints IntKind.i64 (lsA (bLt (tOk (ofA c l ks) b.k) (rotL' (ofA c l ks) (Int.toNat b.k))) (bLt (tOk (ofA c l ks) b.k) (rotL' (ofK c ks)
(Int.toNat b.k)))) ∧ List.length (lsA (bLt (tOk (ofA c l ks) b.k) (rotL' (ofA c l ks) (Int.toNat b.k))) (bLt (tOk (ofA c l ks) b.k) (rotL' (ofK c ks) (Int.toNat b.k)))) = List.length (lsA (bLt (tOk
(ofA c l ks) b.k) (rotL' (ofA c l ks) (Int.toNat b.k))) (bLt (tOk (ofA c l ks) b.k) (rotL' (ofK c ks) (Int.toNat b.k)))) ∧ List.length (lsA (bLt (tOk (ofA c l ks) b.k) (rotL' (ofA c l ks) (Int.toNat
b.k))) (bLt (tOk (ofA c l ks) b.k) (rotL' (ofK c ks) (Int.toNat b.k)))) = List.length (lsA (bLt (tOk (ofA c l ks) b.k) (rotL' (ofA c l ks) (Int.toNat b.k))) (bLt (tOk (ofA c l ks) b.k) (rotL' (ofK c
ks) (Int.toNat b.k)))) ∧ Cont.ints IntKind.u8 (lsK (bLt (tOk (ofA c l ks) b.k) (rotL' (ofA c l ks) (Int.toNat b.k))) (bLt (tOk (ofA c l ks) b.k) (rotL' (ofK c ks) (Int.toNat b.k)))) = Cont.ints
IntKind.u8 (lsK (bLt (tOk (ofA c l ks) b.k) (rotL' (ofA c l ks) (Int.toNat b.k))) (bLt (tOk (ofA c l ks) b.k) (rotL' (ofK c ks) (Int.toNat b.k)))) ∧ List.length (lsK (bLt (tOk (ofA c l ks) b.k) (rotL'
(ofA c l ks) (Int.toNat b.k))) (bLt (tOk (ofA c l ks) b.k) (rotL' (ofK c ks) (Int.toNat b.k)))) = List.length (lsK (bLt (tOk (ofA c l ks) b.k) (rotL' (ofA c l ks) (Int.toNat b.k))) (bLt (tOk (ofA c l
ks) b.k) (rotL' (ofK c ks) (Int.toNat b.k)))) ∧ List.length (lsK (bLt (tOk (ofA c l ks) b.k) (rotL' (ofA c l ks) (Int.toNat b.k))) (bLt (tOk (ofA c l ks) b.k) (rotL' (ofK c ks) (Int.toNat b.k)))) =
List.length (lsK (bLt (tOk (ofA c l ks) b.k) (rotL' (ofA c l ks) (Int.toNat b.k))) (bLt (tOk (ofA c l ks) b.k) (rotL' (ofK c ks) (Int.toNat b.k)))) ∧ x = x ∧ 0 = 0 ∧ (↑(List.length (ofA c l ks)) :
Int) = (↑(List.length (ofA c l ks)) : Int) ∧ 0 = 0 ∧ b.f = b.f ∧ b.k = b.k ∧ 0 = 0 ∧ iI 0 = 0 ∧ false = false ∧ 0 = 0 ∧ Cont.ints IntKind.i64 (bLt (tOk (ofA c l ks) b.k) (rotL' (ofA c l ks) (Int.toNat
b.k))) = Cont.ints IntKind.i64 (bLt (tOk (ofA c l ks) b.k) (rotL' (ofA c l ks) (Int.toNat b.k))) ∧ List.length (bLt (tOk (ofA c l ks) b.k) (rotL' (ofA c l ks) (Int.toNat b.k))) = List.length (bLt (tOk
(ofA c l ks) b.k) (rotL' (ofA c l ks) (Int.toNat b.k))) ∧ List.length (bLt (tOk (ofA c l ks) b.k) (rotL' (ofA c l ks) (Int.toNat b.k))) = List.length (bLt (tOk (ofA c l ks) b.k) (rotL' (ofA c l ks)
(Int.toNat b.k))) ∧ (↑(List.length (bLt (tOk (ofA c l ks) b.k) (rotL' (ofA c l ks) (Int.toNat b.k)))) : Int) = (↑(List.length (bLt (tOk (ofA c l ks) b.k) (rotL' (ofA c l ks) (Int.toNat b.k)))) : Int)
∧ (↑(List.length (ofA c l ks)) : Int) = (↑(List.length (ofA c l ks)) : Int) ∧ ((↑(List.length (bLt (tOk (ofA c l ks) b.k) (rotL' (ofA c l ks) (Int.toNat b.k)))) : Int) != (↑(List.length (ofA c l ks))
: Int)) = ((↑(List.length (bLt (tOk (ofA c l ks) b.k) (rotL' (ofA c l ks) (Int.toNat b.k)))) : Int) != (↑(List.length (ofA c l ks)) : Int)) ∧ 1 = 1 ∧ Cont.ints IntKind.u8 (bLt (tOk (ofA c l ks) b.k)
(rotL' (ofK c ks) (Int.toNat b.k))) = Cont.ints IntKind.u8 (bLt (tOk (ofA c l ks) b.k) (rotL' (ofK c ks) (Int.toNat b.k))) ∧ List.length (bLt (tOk (ofA c l ks) b.k) (rotL' (ofK c ks) (Int.toNat b.k)))
= List.length (bLt (tOk (ofA c l ks) b.k) (rotL' (ofK c ks) (Int.toNat b.k))) ∧ List.length (bLt (tOk (ofA c l ks) b.k) (rotL' (ofK c ks) (Int.toNat b.k))) = List.length (bLt (tOk (ofA c l ks) b.k)
(rotL' (ofK c ks) (Int.toNat b.k))) ∧ (↑(List.length (bLt (tOk (ofA c l ks) b.k) (rotL' (ofK c ks) (Int.toNat b.k)))) : Int) = (↑(List.length (bLt (tOk (ofA c l ks) b.k) (rotL' (ofK c ks) (Int.toNat
b.k)))) : Int) ∧ (↑(List.length (ofA c l ks)) : Int) = (↑(List.length (ofA c l ks)) : Int) ∧ ((↑(List.length (bLt (tOk (ofA c l ks) b.k) (rotL' (ofK c ks) (Int.toNat b.k)))) : Int) != (↑(List.length
(ofA c l ks)) : Int)) = ((↑(List.length (bLt (tOk (ofA c l ks) b.k) (rotL' (ofK c ks) (Int.toNat b.k)))) : Int) != (↑(List.length (ofA c l ks)) : Int)) ∧ 0 = 0 ∧ Cont.ints IntKind.i64 (bLt (tOk (ofA c
l ks) b.k) (rotL' (ofA c l ks) (Int.toNat b.k))) = Cont.ints IntKind.i64 (bLt (tOk (ofA c l ks) b.k) (rotL' (ofA c l ks) (Int.toNat b.k))) ∧ List.length (bLt (tOk (ofA c l ks) b.k) (rotL' (ofA c l ks)
(Int.toNat b.k))) = List.length (bLt (tOk (ofA c l ks) b.k) (rotL' (ofA c l ks) (Int.toNat b.k))) ∧ List.length (bLt (tOk (ofA c l ks) b.k) (rotL' (ofA c l ks) (Int.toNat b.k))) = List.length (bLt
(tOk (ofA c l ks) b.k) (rotL' (ofA c l ks) (Int.toNat b.k))) ∧ (↑(List.length (bLt (tOk (ofA c l ks) b.k) (rotL' (ofA c l ks) (Int.toNat b.k)))) : Int) = (↑(List.length (bLt (tOk (ofA c l ks) b.k)
(rotL' (ofA c l ks) (Int.toNat b.k)))) : Int) ∧ (↑(List.length (ofA c l ks)) : Int) = (↑(List.length (ofA c l ks)) : Int) ∧ ((↑(List.length (bLt (tOk (ofA c l ks) b.k) (rotL' (ofA c l ks) (Int.toNat
b.k)))) : Int) != (↑(List.length (ofA c l ks)) : Int)) = ((↑(List.length (bLt (tOk (ofA c l ks) b.k) (rotL' (ofA c l ks) (Int.toNat b.k)))) : Int) != (↑(List.length (ofA c l ks)) : Int)) ∧ 1 = 1 ∧
Cont.ints IntKind.u8 (bLt (tOk (ofA c l ks) b.k) (rotL' (ofK c ks) (Int.toNat b.k))) = Cont.ints IntKind.u8 (bLt (tOk (ofA c l ks) b.k) (rotL' (ofK c ks) (Int.toNat b.k))) ∧ List.length (bLt (tOk (ofA
c l ks) b.k) (rotL' (ofK c ks) (Int.toNat b.k))) = List.length (bLt (tOk (ofA c l ks) b.k) (rotL' (ofK c ks) (Int.toNat b.k))) ∧ List.length (bLt (tOk (ofA c l ks) b.k) (rotL' (ofK c ks) (Int.toNat
b.k))) = List.length (bLt (tOk (ofA c l ks) b.k) (rotL' (ofK c ks) (Int.toNat b.k))) ∧ (↑(List.length (bLt (tOk (ofA c l ks) b.k) (rotL' (ofK c ks) (Int.toNat b.k)))) : Int) = (↑(List.length (bLt (tOk
(ofA c l ks) b.k) (rotL' (ofK c ks) (Int.toNat b.k)))) : Int) ∧ (↑(List.length (ofA c l ks)) : Int) = (↑(List.length (ofA c l ks)) : Int) ∧ ((↑(List.length (bLt (tOk (ofA c l ks) b.k) (rotL' (ofK c
ks) (Int.toNat b.k)))) : Int) != (↑(List.length (ofA c l ks)) : Int)) = ((↑(List.length (bLt (tOk (ofA c l ks) b.k) (rotL' (ofK c ks) (Int.toNat b.k)))) : Int) != (↑(List.length (ofA c l ks)) : Int))
∧ Cont.ints IntKind.i64 (lsA (bLt (tOk (ofA c l ks) b.k) (rotL' (ofA c l ks) (Int.toNat b.k))) (bLt (tOk (ofA c l ks) b.k) (rotL' (ofK c ks) (Int.toNat b.k)))) = Cont.ints IntKind.i64 (lsA (bLt (tOk
(ofA c l ks) b.k) (rotL' (ofA c l ks) (Int.toNat b.k))) (bLt (tOk (ofA c l ks) b.k) (rotL' (ofK c ks) (Int.toNat b.k)))) ∧ List.length (lsA (bLt (tOk (ofA c l ks) b.k) (rotL' (ofA c l ks) (Int.toNat
b.k))) (bLt (tOk (ofA c l ks) b.k) (rotL' (ofK c ks) (Int.toNat b.k)))) = List.length (lsA (bLt (tOk (ofA c l ks) b.k) (rotL' (ofA c l ks) (Int.toNat b.k))) (bLt (tOk (ofA c l ks) b.k) (rotL' (ofK c
ks) (Int.toNat b.k)))) ∧ List.length (lsA (bLt (tOk (ofA c l ks) b.k) (rotL' (ofA c l ks) (Int.toNat b.k))) (bLt (tOk (ofA c l ks) b.k) (rotL' (ofK c ks) (Int.toNat b.k)))) = List.length (lsA (bLt
(tOk (ofA c l ks) b.k) (rotL' (ofA c l ks) (Int.toNat b.k))) (bLt (tOk (ofA c l ks) b.k) (rotL' (ofK c ks) (Int.toNat b.k)))) ∧ Cont.ints IntKind.u8 (lsK (bLt (tOk (ofA c l ks) b.k) (rotL' (ofA c l
ks) (Int.toNat b.k))) (bLt (tOk (ofA c l ks) b.k) (rotL' (ofK c ks) (Int.toNat b.k)))) = Cont.ints IntKind.u8 (lsK (bLt (tOk (ofA c l ks) b.k) (rotL' (ofA c l ks) (Int.toNat b.k))) (bLt (tOk (ofA c l
ks) b.k) (rotL' (ofK c ks) (Int.toNat b.k)))) ∧ List.length (lsK (bLt (tOk (ofA c l ks) b.k) (rotL' (ofA c l ks) (Int.toNat b.k))) (bLt (tOk (ofA c l ks) b.k) (rotL' (ofK c ks) (Int.toNat b.k)))) =
List.length (lsK (bLt (tOk (ofA c l ks) b.k) (rotL' (ofA c l ks) (Int.toNat b.k))) (bLt (tOk (ofA c l ks) b.k) (rotL' (ofK c ks) (Int.toNat b.k)))) ∧ List.length (lsK (bLt (tOk (ofA c l ks) b.k)
(rotL' (ofA c l ks) (Int.toNat b.k))) (bLt (tOk (ofA c l ks) b.k) (rotL' (ofK c ks) (Int.toNat b.k)))) = List.length (lsK (bLt (tOk (ofA c l ks) b.k) (rotL' (ofA c l ks) (Int.toNat b.k))) (bLt (tOk
(ofA c l ks) b.k) (rotL' (ofK c ks) (Int.toNat b.k)))) ∧ Cont.ints IntKind.i64 (lsA (ofA c l ks) (ofK c ks)) = Cont.ints IntKind.i64 (lsA (ofA c l ks) (ofK c ks)) ∧ List.length (lsA (ofA c l ks) (ofK
c ks)) = List.length (lsA (ofA c l ks) (ofK c ks)) ∧ List.length (lsA (ofA c l ks) (ofK c ks)) = List.length (lsA (ofA c l ks) (ofK c ks)) ∧ Cont.ints IntKind.u8 (lsK (ofA c l ks) (ofK c ks)) =
Cont.ints IntKind.u8 (lsK (ofA c l ks) (ofK c ks)) ∧ List.length (lsK (ofA c l ks) (ofK c ks)) = List.length (lsK (ofA c l ks) (ofK c ks)) ∧ List.length (lsK (ofA c l ks) (ofK c ks)) = List.length
(lsK (ofA c l ks) (ofK c ks)) ∧ (eqB (lsA (bLt (tOk (ofA c l ks) b.k) (rotL' (ofA c l ks) (Int.toNat b.k))) (bLt (tOk (ofA c l ks) b.k) (rotL' (ofK c ks) (Int.toNat b.k)))) (lsA (ofA c l ks) (ofK c
ks)) && eqB (lsK (bLt (tOk (ofA c l ks) b.k) (rotL' (ofA c l ks) (Int.toNat b.k))) (bLt (tOk (ofA c l ks) b.k) (rotL' (ofK c ks) (Int.toNat b.k)))) (lsK (ofA c l ks) (ofK c ks))) = (eqB (lsA (bLt (tOk
(ofA c l ks) b.k) (rotL' (ofA c l ks) (Int.toNat b.k))) (bLt (tOk (ofA c l ks) b.k) (rotL' (ofK c ks) (Int.toNat b.k)))) (lsA (ofA c l ks) (ofK c ks)) && eqB (lsK (bLt (tOk (ofA c l ks) b.k) (rotL'
(ofA c l ks) (Int.toNat b.k))) (bLt (tOk (ofA c l ks) b.k) (rotL' (ofK c ks) (Int.toNat b.k)))) (lsK (ofA c l ks) (ofK c ks))) ∧ (!(eqB (lsA (bLt (tOk (ofA c l ks) b.k) (rotL' (ofA c l ks) (Int.toNat
b.k))) (bLt (tOk (ofA c l ks) b.k) (rotL' (ofK c ks) (Int.toNat b.k)))) (lsA (ofA c l ks) (ofK c ks)) && eqB (lsK (bLt (tOk (ofA c l ks) b.k) (rotL' (ofA c l ks) (Int.toNat b.k))) (bLt (tOk (ofA c l
ks) b.k) (rotL' (ofK c ks) (Int.toNat b.k)))) (lsK (ofA c l ks) (ofK c ks)))) = !(eqB (lsA (bLt (tOk (ofA c l ks) b.k) (rotL' (ofA c l ks) (Int.toNat b.k))) (bLt (tOk (ofA c l ks) b.k) (rotL' (ofK c
ks) (Int.toNat b.k)))) (lsA (ofA c l ks) (ofK c ks)) && eqB (lsK (bLt (tOk (ofA c l ks) b.k) (rotL' (ofA c l ks) (Int.toNat b.k))) (bLt (tOk (ofA c l ks) b.k) (rotL' (ofK c ks) (Int.toNat b.k)))) (lsK
(ofA c l ks) (ofK c ks))) ∧ b_1.i + 1 = b_1.i + 1 ∧ (∃ (n : Nat), b_1.i + 1 = (↑n : Int) ∧ n ≤ List.length (ofA c l ks)) ∧ List.length (ofA c l ks) - Int.toNat (b_1.i + 1) < List.length (ofA c l ks) -
Int.toNat b_1.i ∧ True) ∧ (ltb b_1.i (↑(List.length (ofA c l ks)) : Int) = false → (b.f = true → (List.length (bLt (tOk (ofA c l ks) b.k) (rotL' (ofA c l ks) (Int.toNat b.k))) = List.length (bLt (tOk
(ofA c l ks) b.k) (rotL' (ofA c l ks) (Int.toNat b.k))) ∧ List.length (bLt (tOk (ofA c l ks) b.k) (rotL' (ofK c ks) (Int.toNat b.k))) = List.length (bLt (tOk (ofA c l ks) b.k) (rotL' (ofK c ks)
(Int.toNat b.k))) ∧ List.length (lsA (ofA c l ks) (ofK c ks)) = List.length (lsA (ofA c l ks) (ofK c ks)) ∧ List.length (lsK (ofA c l ks) (ofK c ks)) = List.length (lsK (ofA c l ks) (ofK c ks)) ∧
List.length (bLt (tOk (ofA c l ks) b.k) (rotL' (ofA c l ks) (Int.toNat b.k))) = List.length (lsA (ofA c l ks) (ofK c ks)) ∧ List.length (bLt (tOk (ofA c l ks) b.k) (rotL' (ofK c ks) (Int.toNat b.k)))
= List.length (lsK (ofA c l ks) (ofK c ks)) ∧ List.length (bLt (tOk (ofA c l ks) b.k) (rotL' (ofA c l ks) (Int.toNat b.k))) < 1000000000000 ∧ List.length (bLt (tOk (ofA c l ks) b.k) (rotL' (ofK c ks)
(Int.toNat b.k))) < 1000000000000) ∧ befB (bLt (tOk (ofA c l ks) b.k) (rotL' (ofA c l ks) (Int.toNat b.k))) (bLt (tOk (ofA c l ks) b.k) (rotL' (ofK c ks) (Int.toNat b.k))) (lsA (ofA c l ks) (ofK c
ks)) (lsK (ofA c l ks) (ofK c ks)) = false ∧ inR IntKind.i64 (b.k + 1) = true ∧ 1 = 1 ∧ c = c ∧ l = l ∧ Cont.ints IntKind.u8 ks = Cont.ints IntKind.u8 ks ∧ List.length ks = List.length ks ∧
List.length (ofA c l ks) = List.length (ofA c l ks) ∧ ofA c l ks = ofA c l ks ∧ List.length (ofK c ks) = List.length (ofK c ks) ∧ ofK c ks = ofK c ks ∧ 1 = 1 ∧ List.length (ofA c l ks) = List.length
(ofA c l ks) ∧ List.length (ofK c ks) = List.length (ofK c ks) ∧ 1 = 1 ∧ Cont.ints IntKind.i64 (lsA (ofA c l ks) (ofK c ks)) = Cont.ints IntKind.i64 (lsA (ofA c l ks) (ofK c ks)) ∧ List.length (lsA
(ofA c l ks) (ofK c ks)) = List.length (lsA (ofA c l ks) (ofK c ks)) ∧ List.length (lsA (ofA c l ks) (ofK c ks)) = List.length (lsA (ofA c l ks) (ofK c ks)) ∧ Cont.ints IntKind.u8 (lsK (ofA c l ks)
(ofK c ks)) = Cont.ints IntKind.u8 (lsK (ofA c l ks) (ofK c ks)) ∧ List.length (lsK (ofA c l ks) (ofK c ks)) = List.length (lsK (ofA c l ks) (ofK c ks)) ∧ List.length (lsK (ofA c l ks) (ofK c ks)) =
List.length (lsK (ofA c l ks) (ofK c ks)) ∧ x = x ∧ 0 = 0 ∧ (↑(List.length (ofA c l ks)) : Int) = (↑(List.length (ofA c l ks)) : Int) ∧ 0 = 0 ∧ true = true ∧ b.k + 1 = b.k + 1 ∧ (∃ (n : Nat), b.k + 1
= (↑n : Int) ∧ n ≤ List.length (ofA c l ks) ∧ true = fndB (ofA c l ks) (ofK c ks) n) ∧ List.length (ofA c l ks) - Int.toNat (b.k + 1) < List.length (ofA c l ks) - Int.toNat b.k ∧ True) ∧ (b.f = false
→ (List.length (bLt (tOk (ofA c l ks) b.k) (rotL' (ofA c l ks) (Int.toNat b.k))) = List.length (bLt (tOk (ofA c l ks) b.k) (rotL' (ofA c l ks) (Int.toNat b.k))) ∧ List.length (bLt (tOk (ofA c l ks)
b.k) (rotL' (ofK c ks) (Int.toNat b.k))) = List.length (bLt (tOk (ofA c l ks) b.k) (rotL' (ofK c ks) (Int.toNat b.k))) ∧ List.length (lsA (ofA c l ks) (ofK c ks)) = List.length (lsA (ofA c l ks) (ofK
c ks)) ∧ List.length (lsK (ofA c l ks) (ofK c ks)) = List.length (lsK (ofA c l ks) (ofK c ks)) ∧ List.length (bLt (tOk (ofA c l ks) b.k) (rotL' (ofA c l ks) (Int.toNat b.k))) = List.length (bLt (tOk
(ofA c l ks) b.k) (rotL' (ofA c l ks) (Int.toNat b.k))) ∧ List.length (bLt (tOk (ofA c l ks) b.k) (rotL' (ofK c ks) (Int.toNat b.k))) = List.length (bLt (tOk (ofA c l ks) b.k) (rotL' (ofK c ks)
(Int.toNat b.k))) ∧ List.length (bLt (tOk (ofA c l ks) b.k) (rotL' (ofA c l ks) (Int.toNat b.k))) = List.length (lsA (ofA c l ks) (ofK c ks)) ∧ List.length (bLt (tOk (ofA c l ks) b.k) (rotL' (ofK c
ks) (Int.toNat b.k))) = List.length (lsK (ofA c l ks) (ofK c ks)) ∧ List.length (bLt (tOk (ofA c l ks) b.k) (rotL' (ofA c l ks) (Int.toNat b.k))) < 1000000000000 ∧ List.length (bLt (tOk (ofA c l ks)
b.k) (rotL' (ofK c ks) (Int.toNat b.k))) < 1000000000000) ∧ (List.length (bLt (tOk (ofA c l ks) b.k) (rotL' (ofA c l ks) (Int.toNat b.k))) = List.length (bLt (tOk (ofA c l ks) b.k) (rotL' (ofA c l ks)
(Int.toNat b.k))) ∧ List.length (bLt (tOk (ofA c l ks) b.k) (rotL' (ofK c ks) (Int.toNat b.k))) = List.length (bLt (tOk (ofA c l ks) b.k) (rotL' (ofK c ks) (Int.toNat b.k))) ∧ List.length (lsA (ofA c
l ks) (ofK c ks)) = List.length (lsA (ofA c l ks) (ofK c ks)) ∧ List.length (lsK (ofA c l ks) (ofK c ks)) = List.length (lsK (ofA c l ks) (ofK c ks)) ∧ List.length (bLt (tOk (ofA c l ks) b.k) (rotL'
(ofA c l ks) (Int.toNat b.k))) = List.length (lsA (ofA c l ks) (ofK c ks)) ∧ List.length (bLt (tOk (ofA c l ks) b.k) (rotL' (ofK c ks) (Int.toNat b.k))) = List.length (lsK (ofA c l ks) (ofK c ks)) ∧
List.length (bLt (tOk (ofA c l ks) b.k) (rotL' (ofA c l ks) (Int.toNat b.k))) < 1000000000000 ∧ List.length (bLt (tOk (ofA c l ks) b.k) (rotL' (ofK c ks) (Int.toNat b.k))) < 1000000000000) ∧ befB (bLt
(tOk (ofA c l ks) b.k) (rotL' (ofA c l ks) (Int.toNat b.k))) (bLt (tOk (ofA c l ks) b.k) (rotL' (ofK c ks) (Int.toNat b.k))) (lsA (ofA c l ks) (ofK c ks)) (lsK (ofA c l ks) (ofK c ks)) = false ∧ inR
IntKind.i64 (b.k + 1) = true ∧ 1 = 1 ∧ c = c ∧ l = l ∧ Cont.ints IntKind.u8 ks = Cont.ints IntKind.u8 ks ∧ List.length ks = List.length ks ∧ List.length (ofA c l ks) = List.length (ofA c l ks) ∧ ofA c
l ks = ofA c l ks ∧ List.length (ofK c ks) = List.length (ofK c ks) ∧ ofK c ks = ofK c ks ∧ 1 = 1 ∧ List.length (ofA c l ks) = List.length (ofA c l ks) ∧ List.length (ofK c ks) = List.length (ofK c
ks) ∧ 1 = 1 ∧ Cont.ints IntKind.i64 (lsA (ofA c l ks) (ofK c ks)) = Cont.ints IntKind.i64 (lsA (ofA c l ks) (ofK c ks)) ∧ List.length (lsA (ofA c l ks) (ofK c ks)) = List.length (lsA (ofA c l ks) (ofK
c ks)) ∧ List.length (lsA (ofA c l ks) (ofK c ks)) = List.length (lsA (ofA c l ks) (ofK c ks)) ∧ Cont.ints IntKind.u8 (lsK (ofA c l ks) (ofK c ks)) = Cont.ints IntKind.u8 (lsK (ofA c l ks) (ofK c ks))
∧ List.length (lsK (ofA c l ks) (ofK c ks)) = List.length (lsK (ofA c l ks) (ofK c ks)) ∧ List.length (lsK (ofA c l ks) (ofK c ks)) = List.length (lsK (ofA c l ks) (ofK c ks)) ∧ x = x ∧ 0 = 0 ∧
(↑(List.length (ofA c l ks)) : Int) = (↑(List.length (ofA c l ks)) : Int) ∧ 0 = 0 ∧ (eqB (bLt (tOk (ofA c l ks) b.k) (rotL' (ofA c l ks) (Int.toNat b.k))) (lsA (ofA c l ks) (ofK c ks)) && eqB (bLt
(tOk (ofA c l ks) b.k) (rotL' (ofK c ks) (Int.toNat b.k))) (lsK (ofA c l ks) (ofK c ks))) = (eqB (bLt (tOk (ofA c l ks) b.k) (rotL' (ofA c l ks) (Int.toNat b.k))) (lsA (ofA c l ks) (ofK c ks)) && eqB
(bLt (tOk (ofA c l ks) b.k) (rotL' (ofK c ks) (Int.toNat b.k))) (lsK (ofA c l ks) (ofK c ks))) ∧ b.k + 1 = b.k + 1 ∧ (∃ (n : Nat), b.k + 1 = (↑n : Int) ∧ n ≤ List.length (ofA c l ks) ∧ (eqB (bLt (tOk
(ofA c l ks) b.k) (rotL' (ofA c l ks) (Int.toNat b.k))) (lsA (ofA c l ks) (ofK c ks)) && eqB (bLt (tOk (ofA c l ks) b.k) (rotL' (ofK c ks) (Int.toNat b.k))) (lsK (ofA c l ks) (ofK c ks))) = fndB (ofA
c l ks) (ofK c ks) n) ∧ List.length (ofA c l ks) - Int.toNat (b.k + 1) < List.length (ofA c l ks) - Int.toNat b.k ∧ True))) ∧ (ltb b.k (↑(List.length (ofA c l ks)) : Int) = false → List.length (ofA c
l ks) = List.length (ofA c l ks) ∧ List.length (ofK c ks) = List.length (ofK c ks) ∧ (List.length (ofA c l ks) = List.length (ofA c l ks) ∧ List.length (ofK c ks) = List.length (ofK c ks) ∧
List.length (ofA c l ks) < 100000000000 ∧ chk (ofA c l ks) (ofK c ks) = 0) ∧ (leb 0 x = true → (ltb x (↑(List.length (ofA c l ks)) : Int) = true → b.f = true ∧ (true == (bI (tOk (ofA c l ks) x) 0 1 ==
0)) = true ∧ true = true ∧ True) ∧ (ltb x (↑(List.length (ofA c l ks)) : Int) = false → b.f = true ∧ ((x == 0) == (bI (tOk (ofA c l ks) x) 0 1 == 0)) = true ∧ ((x == 0) = true → true = true ∧ True) ∧
((x == 0) = false → (bI (tOk (ofA c l ks) x) 0 1 == 1) = true ∧ ((↑(List.length (bLt (tOk (ofA c l ks) x) (rotL' (ofA c l ks) (Int.toNat x)))) : Int) == 0) = true ∧ true = true ∧ True))) ∧ (leb 0 x =
false → b.f = true ∧ (false == (bI (tOk (ofA c l ks) x) 0 1 == 0)) = true ∧ (bI (tOk (ofA c l ks) x) 0 1 == 1) = true ∧ ((↑(List.length (bLt (tOk (ofA c l ks) x) (rotL' (ofA c l ks) (Int.toNat x)))) :
Int) == 0) = true ∧ true = true ∧ True))) := by kernel_rfl

end Go.Proofs.YtfafinkgmhkdmaaDoor.X
