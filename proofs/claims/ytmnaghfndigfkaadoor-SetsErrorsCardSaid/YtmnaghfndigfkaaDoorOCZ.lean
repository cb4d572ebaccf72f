/-
 What is to be shown of the functions (made by a program).
-/
import Derived.Test.YtmnaghfndigfkaaDoorDCZ
import Derived.KernelRfl
set_option maxRecDepth 1000000
set_option linter.unusedVariables false
namespace Go.Proofs.YtmnaghfndigfkaaDoor.X
open Go Go.Ab

theorem ob_o89 (p q : Bool) : fnP (T0) G 10000 fe89 (.r [] 0 (.r [] 0 .nil)) ([.agg [.bool p, .bool q]]) ([.bool true]) ([]) = (
true = true ∧ True) := by kernel_rfl

theorem ob_o90 (p q : Bool) : fnP (T0) G 10000 fe90 (.r [] 0 (.rs 3 [] 1 5 (.r [] 7 .nil) (.r [] 3 .nil))) ([.agg [.bool p, .bool q]]) ([.bool (p && q)]) ([]) = (
(p = true → q = (p && q) ∧ True) ∧ (p = false → false = (p && q) ∧ True)) := by kernel_rfl

theorem ob_o91 (p q : Bool) : fnP (T0) G 10000 fe91 (.r [] 0 (.rs 3 [] 1 5 (.r [] 7 .nil) (.r [] 3 .nil))) ([.agg [.bool p, .bool q]]) ([.bool (p && !q)]) ([]) = (
(p = true → (!q) = (p && !q) ∧ True) ∧ (p = false → false = (p && !q) ∧ True)) := by kernel_rfl

theorem ob_o99 (a : List Cl) : fnP (T0) G 10000 fe99 (.r [] 0 (.r [] 5 .nil)) ([cls a]) ([.imm (.vals (flatK a)) a.length (some a.length)]) ([]) = (
Int.toNat (↑(List.length a) : Int) = List.length a ∧ Int.toNat (↑(List.length a) : Int) = List.length a ∧ Cont.size (Cont.vals (flatK a)) = List.length a * 3 ∧ Cont.vals (flatK a) = Cont.vals (flatK
a) ∧ List.length a = List.length a ∧ List.length a = List.length a ∧ True) := by kernel_rfl

theorem ob_o131 (a b : List Cl) : fnP (T0) G 10000 fe131 (.r [] 0 (.r [] 0 .nil)) ([cls a, cls b]) ([.fn 164 [] [.ptr 0 0, .ptr 1 0]]) ([bxB (flatK a) a.length, bxB (flatK b) b.length]) = (
1 = 1 ∧ Cont.vals (flatK a) = Cont.vals (flatK a) ∧ List.length a = List.length a ∧ 1 = 1 ∧ Cont.vals (flatK b) = Cont.vals (flatK b) ∧ List.length b = List.length b ∧ 0 = 0 ∧ 0 = 0 ∧ True) := by kernel_rfl

theorem ob_y_89 (l : List Cl) (a b : List AV) (n m : Nat) (x y q : Int) (p r : Bool) : fnY (TK) G 10000 (9002) (.r [] 1 (.r [] 1 (.r [] 7 (.lit (.r [] 51 .nil))))) ([.agg [.int .i64 x, .int .i64 y, .int .u8 q], .agg [.bool p, .bool r]]) (H88 89 l a b n m) (true) ([(320, bxO (.full 9001 (addK (kpF 89 p r) l (x, y, q)).length)), (9001, row88 (addK (kpF 89 p r) l (x, y, q)))]) = (
List.length l = List.length l ∧ len' ((List.length l + 1) * 24) 140737488355328 = true ∧ 1 = 1 ∧ Cont.vals b = Cont.vals b ∧ m = m ∧ 1 = 1 ∧ Cont.vals a = Cont.vals a ∧ n = n ∧ List.length l + 1 =
List.length (addK true l (x, y, q)) ∧ flatK l ++ [AV.int IntKind.i64 x, AV.int IntKind.i64 y, AV.int IntKind.u8 q] = flatK (addK true l (x, y, q)) ∧ 1 = 1 ∧ List.length l + 1 = List.length (addK true
l (x, y, q)) ∧ 1 = 1 ∧ 0 = 0 ∧ (none : Option Ex) = none ∧ 35 = 35 ∧ [21, 22] = [21, 22] ∧ XC.seq (XC.reg 448 [XO.mk (some 10) (XOp.new (Cont.cells [AV.int IntKind.i64 0, AV.int IntKind.i64 0, AV.int
IntKind.u8 0]) 1 3) none, XO.mk none (XOp.store 3 (Opd.t 10) (Opd.t 21)) none] [20, 21]) (XC.reg 512 [XO.mk (some 11) (XOp.new (Cont.cells [AV.bool false, AV.bool false]) 1 2) none, XO.mk none
(XOp.store 2 (Opd.t 11) (Opd.t 22)) none] [22]) = XC.seq (XC.reg 448 [XO.mk (some 10) (XOp.new (Cont.cells [AV.int IntKind.i64 0, AV.int IntKind.i64 0, AV.int IntKind.u8 0]) 1 3) none, XO.mk none
(XOp.store 3 (Opd.t 10) (Opd.t 21)) none] [20, 21]) (XC.reg 512 [XO.mk (some 11) (XOp.new (Cont.cells [AV.bool false, AV.bool false]) 1 2) none, XO.mk none (XOp.store 2 (Opd.t 11) (Opd.t 22)) none]
[22]) ∧ XC.block 1 (XC.seq (XC.reg 576 [XO.mk (some 23) (XOp.load none (Opd.t 5)) none, XO.mk (some 24) (XOp.load (some 2) (Opd.t 11)) none, XO.mk (some 25) (XOp.callv (Opd.t 23) [Opd.t 24]) none] [5,
11, 23, 24]) (XC.cond (Opd.t 25) (XC.reg 640 [XO.mk (some 26) (XOp.load none (Opd.t 9)) none, XO.mk (some 27) (XOp.load (some 3) (Opd.t 10)) none, XO.mk (some 28) (XOp.buildS 3 1 0 [AV.int IntKind.i64
0, AV.int IntKind.i64 0, AV.int IntKind.u8 0] [(0, 3, Opd.t 27)]) none, XO.mk (some 29) (XOp.append 3 24 0 (Opd.t 26) (Opd.t 28)) none, XO.mk none (XOp.store 1 (Opd.t 9) (Opd.t 29)) none] [10, 25, 26,
27, 28, 29]) XC.skip)) = XC.block 1 (XC.seq (XC.reg 576 [XO.mk (some 23) (XOp.load none (Opd.t 5)) none, XO.mk (some 24) (XOp.load (some 2) (Opd.t 11)) none, XO.mk (some 25) (XOp.callv (Opd.t 23)
[Opd.t 24]) none] [5, 11, 23, 24]) (XC.cond (Opd.t 25) (XC.reg 640 [XO.mk (some 26) (XOp.load none (Opd.t 9)) none, XO.mk (some 27) (XOp.load (some 3) (Opd.t 10)) none, XO.mk (some 28) (XOp.buildS 3 1
0 [AV.int IntKind.i64 0, AV.int IntKind.i64 0, AV.int IntKind.u8 0] [(0, 3, Opd.t 27)]) none, XO.mk (some 29) (XOp.append 3 24 0 (Opd.t 26) (Opd.t 28)) none, XO.mk none (XOp.store 1 (Opd.t 9) (Opd.t
29)) none] [10, 25, 26, 27, 28, 29]) XC.skip)) ∧ 0 = 0 ∧ 0 = 0 ∧ 0 = 0 ∧ 0 = 0 ∧ true = true ∧ True) := by kernel_rfl

theorem ob_y_90 (l : List Cl) (a b : List AV) (n m : Nat) (x y q : Int) (p r : Bool) : fnY (TK) G 10000 (9002) (.r [] 1 (.r [] 1 (.r [] 7 (.cnd (.r [] 51 .nil) .nil)))) ([.agg [.int .i64 x, .int .i64 y, .int .u8 q], .agg [.bool p, .bool r]]) (H88 90 l a b n m) (true) ([(320, bxO (.full 9001 (addK (kpF 90 p r) l (x, y, q)).length)), (9001, row88 (addK (kpF 90 p r) l (x, y, q)))]) = (
((p && r) = true → List.length l = List.length l ∧ len' ((List.length l + 1) * 24) 140737488355328 = true ∧ 1 = 1 ∧ Cont.vals b = Cont.vals b ∧ m = m ∧ 1 = 1 ∧ Cont.vals a = Cont.vals a ∧ n = n ∧
List.length l + 1 = List.length (addK (kpF 90 p r) l (x, y, q)) ∧ flatK l ++ [AV.int IntKind.i64 x, AV.int IntKind.i64 y, AV.int IntKind.u8 q] = flatK (addK (kpF 90 p r) l (x, y, q)) ∧ 1 = 1 ∧
List.length l + 1 = List.length (addK (kpF 90 p r) l (x, y, q)) ∧ 1 = 1 ∧ 0 = 0 ∧ (none : Option Ex) = none ∧ 35 = 35 ∧ [21, 22] = [21, 22] ∧ XC.seq (XC.reg 448 [XO.mk (some 10) (XOp.new (Cont.cells
[AV.int IntKind.i64 0, AV.int IntKind.i64 0, AV.int IntKind.u8 0]) 1 3) none, XO.mk none (XOp.store 3 (Opd.t 10) (Opd.t 21)) none] [20, 21]) (XC.reg 512 [XO.mk (some 11) (XOp.new (Cont.cells [AV.bool
false, AV.bool false]) 1 2) none, XO.mk none (XOp.store 2 (Opd.t 11) (Opd.t 22)) none] [22]) = XC.seq (XC.reg 448 [XO.mk (some 10) (XOp.new (Cont.cells [AV.int IntKind.i64 0, AV.int IntKind.i64 0,
AV.int IntKind.u8 0]) 1 3) none, XO.mk none (XOp.store 3 (Opd.t 10) (Opd.t 21)) none] [20, 21]) (XC.reg 512 [XO.mk (some 11) (XOp.new (Cont.cells [AV.bool false, AV.bool false]) 1 2) none, XO.mk none
(XOp.store 2 (Opd.t 11) (Opd.t 22)) none] [22]) ∧ XC.block 1 (XC.seq (XC.reg 576 [XO.mk (some 23) (XOp.load none (Opd.t 5)) none, XO.mk (some 24) (XOp.load (some 2) (Opd.t 11)) none, XO.mk (some 25)
(XOp.callv (Opd.t 23) [Opd.t 24]) none] [5, 11, 23, 24]) (XC.cond (Opd.t 25) (XC.reg 640 [XO.mk (some 26) (XOp.load none (Opd.t 9)) none, XO.mk (some 27) (XOp.load (some 3) (Opd.t 10)) none, XO.mk
(some 28) (XOp.buildS 3 1 0 [AV.int IntKind.i64 0, AV.int IntKind.i64 0, AV.int IntKind.u8 0] [(0, 3, Opd.t 27)]) none, XO.mk (some 29) (XOp.append 3 24 0 (Opd.t 26) (Opd.t 28)) none, XO.mk none
(XOp.store 1 (Opd.t 9) (Opd.t 29)) none] [10, 25, 26, 27, 28, 29]) XC.skip)) = XC.block 1 (XC.seq (XC.reg 576 [XO.mk (some 23) (XOp.load none (Opd.t 5)) none, XO.mk (some 24) (XOp.load (some 2) (Opd.t
11)) none, XO.mk (some 25) (XOp.callv (Opd.t 23) [Opd.t 24]) none] [5, 11, 23, 24]) (XC.cond (Opd.t 25) (XC.reg 640 [XO.mk (some 26) (XOp.load none (Opd.t 9)) none, XO.mk (some 27) (XOp.load (some 3)
(Opd.t 10)) none, XO.mk (some 28) (XOp.buildS 3 1 0 [AV.int IntKind.i64 0, AV.int IntKind.i64 0, AV.int IntKind.u8 0] [(0, 3, Opd.t 27)]) none, XO.mk (some 29) (XOp.append 3 24 0 (Opd.t 26) (Opd.t
28)) none, XO.mk none (XOp.store 1 (Opd.t 9) (Opd.t 29)) none] [10, 25, 26, 27, 28, 29]) XC.skip)) ∧ 0 = 0 ∧ 0 = 0 ∧ 0 = 0 ∧ 0 = 0 ∧ true = true ∧ True) ∧ ((p && r) = false → 1 = 1 ∧ Cont.vals b =
Cont.vals b ∧ m = m ∧ 1 = 1 ∧ Cont.vals a = Cont.vals a ∧ n = n ∧ List.length l = List.length (addK (kpF 90 p r) l (x, y, q)) ∧ flatK l = flatK (addK (kpF 90 p r) l (x, y, q)) ∧ 1 = 1 ∧ List.length l
= List.length (addK (kpF 90 p r) l (x, y, q)) ∧ 1 = 1 ∧ 0 = 0 ∧ (none : Option Ex) = none ∧ 35 = 35 ∧ [21, 22] = [21, 22] ∧ XC.seq (XC.reg 448 [XO.mk (some 10) (XOp.new (Cont.cells [AV.int IntKind.i64
0, AV.int IntKind.i64 0, AV.int IntKind.u8 0]) 1 3) none, XO.mk none (XOp.store 3 (Opd.t 10) (Opd.t 21)) none] [20, 21]) (XC.reg 512 [XO.mk (some 11) (XOp.new (Cont.cells [AV.bool false, AV.bool
false]) 1 2) none, XO.mk none (XOp.store 2 (Opd.t 11) (Opd.t 22)) none] [22]) = XC.seq (XC.reg 448 [XO.mk (some 10) (XOp.new (Cont.cells [AV.int IntKind.i64 0, AV.int IntKind.i64 0, AV.int IntKind.u8
0]) 1 3) none, XO.mk none (XOp.store 3 (Opd.t 10) (Opd.t 21)) none] [20, 21]) (XC.reg 512 [XO.mk (some 11) (XOp.new (Cont.cells [AV.bool false, AV.bool false]) 1 2) none, XO.mk none (XOp.store 2
(Opd.t 11) (Opd.t 22)) none] [22]) ∧ XC.block 1 (XC.seq (XC.reg 576 [XO.mk (some 23) (XOp.load none (Opd.t 5)) none, XO.mk (some 24) (XOp.load (some 2) (Opd.t 11)) none, XO.mk (some 25) (XOp.callv
(Opd.t 23) [Opd.t 24]) none] [5, 11, 23, 24]) (XC.cond (Opd.t 25) (XC.reg 640 [XO.mk (some 26) (XOp.load none (Opd.t 9)) none, XO.mk (some 27) (XOp.load (some 3) (Opd.t 10)) none, XO.mk (some 28)
(XOp.buildS 3 1 0 [AV.int IntKind.i64 0, AV.int IntKind.i64 0, AV.int IntKind.u8 0] [(0, 3, Opd.t 27)]) none, XO.mk (some 29) (XOp.append 3 24 0 (Opd.t 26) (Opd.t 28)) none, XO.mk none (XOp.store 1
(Opd.t 9) (Opd.t 29)) none] [10, 25, 26, 27, 28, 29]) XC.skip)) = XC.block 1 (XC.seq (XC.reg 576 [XO.mk (some 23) (XOp.load none (Opd.t 5)) none, XO.mk (some 24) (XOp.load (some 2) (Opd.t 11)) none,
XO.mk (some 25) (XOp.callv (Opd.t 23) [Opd.t 24]) none] [5, 11, 23, 24]) (XC.cond (Opd.t 25) (XC.reg 640 [XO.mk (some 26) (XOp.load none (Opd.t 9)) none, XO.mk (some 27) (XOp.load (some 3) (Opd.t 10))
none, XO.mk (some 28) (XOp.buildS 3 1 0 [AV.int IntKind.i64 0, AV.int IntKind.i64 0, AV.int IntKind.u8 0] [(0, 3, Opd.t 27)]) none, XO.mk (some 29) (XOp.append 3 24 0 (Opd.t 26) (Opd.t 28)) none,
XO.mk none (XOp.store 1 (Opd.t 9) (Opd.t 29)) none] [10, 25, 26, 27, 28, 29]) XC.skip)) ∧ 0 = 0 ∧ 0 = 0 ∧ 0 = 0 ∧ 0 = 0 ∧ true = true ∧ True)) := by kernel_rfl

theorem ob_y_91 (l : List Cl) (a b : List AV) (n m : Nat) (x y q : Int) (p r : Bool) : fnY (TK) G 10000 (9002) (.r [] 1 (.r [] 1 (.r [] 7 (.cnd (.r [] 51 .nil) .nil)))) ([.agg [.int .i64 x, .int .i64 y, .int .u8 q], .agg [.bool p, .bool r]]) (H88 91 l a b n m) (true) ([(320, bxO (.full 9001 (addK (kpF 91 p r) l (x, y, q)).length)), (9001, row88 (addK (kpF 91 p r) l (x, y, q)))]) = (
((p && !r) = true → List.length l = List.length l ∧ len' ((List.length l + 1) * 24) 140737488355328 = true ∧ 1 = 1 ∧ Cont.vals b = Cont.vals b ∧ m = m ∧ 1 = 1 ∧ Cont.vals a = Cont.vals a ∧ n = n ∧
List.length l + 1 = List.length (addK (kpF 91 p r) l (x, y, q)) ∧ flatK l ++ [AV.int IntKind.i64 x, AV.int IntKind.i64 y, AV.int IntKind.u8 q] = flatK (addK (kpF 91 p r) l (x, y, q)) ∧ 1 = 1 ∧
List.length l + 1 = List.length (addK (kpF 91 p r) l (x, y, q)) ∧ 1 = 1 ∧ 0 = 0 ∧ (none : Option Ex) = none ∧ 35 = 35 ∧ [21, 22] = [21, 22] ∧ XC.seq (XC.reg 448 [XO.mk (some 10) (XOp.new (Cont.cells
[AV.int IntKind.i64 0, AV.int IntKind.i64 0, AV.int IntKind.u8 0]) 1 3) none, XO.mk none (XOp.store 3 (Opd.t 10) (Opd.t 21)) none] [20, 21]) (XC.reg 512 [XO.mk (some 11) (XOp.new (Cont.cells [AV.bool
false, AV.bool false]) 1 2) none, XO.mk none (XOp.store 2 (Opd.t 11) (Opd.t 22)) none] [22]) = XC.seq (XC.reg 448 [XO.mk (some 10) (XOp.new (Cont.cells [AV.int IntKind.i64 0, AV.int IntKind.i64 0,
AV.int IntKind.u8 0]) 1 3) none, XO.mk none (XOp.store 3 (Opd.t 10) (Opd.t 21)) none] [20, 21]) (XC.reg 512 [XO.mk (some 11) (XOp.new (Cont.cells [AV.bool false, AV.bool false]) 1 2) none, XO.mk none
(XOp.store 2 (Opd.t 11) (Opd.t 22)) none] [22]) ∧ XC.block 1 (XC.seq (XC.reg 576 [XO.mk (some 23) (XOp.load none (Opd.t 5)) none, XO.mk (some 24) (XOp.load (some 2) (Opd.t 11)) none, XO.mk (some 25)
(XOp.callv (Opd.t 23) [Opd.t 24]) none] [5, 11, 23, 24]) (XC.cond (Opd.t 25) (XC.reg 640 [XO.mk (some 26) (XOp.load none (Opd.t 9)) none, XO.mk (some 27) (XOp.load (some 3) (Opd.t 10)) none, XO.mk
(some 28) (XOp.buildS 3 1 0 [AV.int IntKind.i64 0, AV.int IntKind.i64 0, AV.int IntKind.u8 0] [(0, 3, Opd.t 27)]) none, XO.mk (some 29) (XOp.append 3 24 0 (Opd.t 26) (Opd.t 28)) none, XO.mk none
(XOp.store 1 (Opd.t 9) (Opd.t 29)) none] [10, 25, 26, 27, 28, 29]) XC.skip)) = XC.block 1 (XC.seq (XC.reg 576 [XO.mk (some 23) (XOp.load none (Opd.t 5)) none, XO.mk (some 24) (XOp.load (some 2) (Opd.t
11)) none, XO.mk (some 25) (XOp.callv (Opd.t 23) [Opd.t 24]) none] [5, 11, 23, 24]) (XC.cond (Opd.t 25) (XC.reg 640 [XO.mk (some 26) (XOp.load none (Opd.t 9)) none, XO.mk (some 27) (XOp.load (some 3)
(Opd.t 10)) none, XO.mk (some 28) (XOp.buildS 3 1 0 [AV.int IntKind.i64 0, AV.int IntKind.i64 0, AV.int IntKind.u8 0] [(0, 3, Opd.t 27)]) none, XO.mk (some 29) (XOp.append 3 24 0 (Opd.t 26) (Opd.t
28)) none, XO.mk none (XOp.store 1 (Opd.t 9) (Opd.t 29)) none] [10, 25, 26, 27, 28, 29]) XC.skip)) ∧ 0 = 0 ∧ 0 = 0 ∧ 0 = 0 ∧ 0 = 0 ∧ true = true ∧ True) ∧ ((p && !r) = false → 1 = 1 ∧ Cont.vals b =
Cont.vals b ∧ m = m ∧ 1 = 1 ∧ Cont.vals a = Cont.vals a ∧ n = n ∧ List.length l = List.length (addK (kpF 91 p r) l (x, y, q)) ∧ flatK l = flatK (addK (kpF 91 p r) l (x, y, q)) ∧ 1 = 1 ∧ List.length l
= List.length (addK (kpF 91 p r) l (x, y, q)) ∧ 1 = 1 ∧ 0 = 0 ∧ (none : Option Ex) = none ∧ 35 = 35 ∧ [21, 22] = [21, 22] ∧ XC.seq (XC.reg 448 [XO.mk (some 10) (XOp.new (Cont.cells [AV.int IntKind.i64
0, AV.int IntKind.i64 0, AV.int IntKind.u8 0]) 1 3) none, XO.mk none (XOp.store 3 (Opd.t 10) (Opd.t 21)) none] [20, 21]) (XC.reg 512 [XO.mk (some 11) (XOp.new (Cont.cells [AV.bool false, AV.bool
false]) 1 2) none, XO.mk none (XOp.store 2 (Opd.t 11) (Opd.t 22)) none] [22]) = XC.seq (XC.reg 448 [XO.mk (some 10) (XOp.new (Cont.cells [AV.int IntKind.i64 0, AV.int IntKind.i64 0, AV.int IntKind.u8
0]) 1 3) none, XO.mk none (XOp.store 3 (Opd.t 10) (Opd.t 21)) none] [20, 21]) (XC.reg 512 [XO.mk (some 11) (XOp.new (Cont.cells [AV.bool false, AV.bool false]) 1 2) none, XO.mk none (XOp.store 2
(Opd.t 11) (Opd.t 22)) none] [22]) ∧ XC.block 1 (XC.seq (XC.reg 576 [XO.mk (some 23) (XOp.load none (Opd.t 5)) none, XO.mk (some 24) (XOp.load (some 2) (Opd.t 11)) none, XO.mk (some 25) (XOp.callv
(Opd.t 23) [Opd.t 24]) none] [5, 11, 23, 24]) (XC.cond (Opd.t 25) (XC.reg 640 [XO.mk (some 26) (XOp.load none (Opd.t 9)) none, XO.mk (some 27) (XOp.load (some 3) (Opd.t 10)) none, XO.mk (some 28)
(XOp.buildS 3 1 0 [AV.int IntKind.i64 0, AV.int IntKind.i64 0, AV.int IntKind.u8 0] [(0, 3, Opd.t 27)]) none, XO.mk (some 29) (XOp.append 3 24 0 (Opd.t 26) (Opd.t 28)) none, XO.mk none (XOp.store 1
(Opd.t 9) (Opd.t 29)) none] [10, 25, 26, 27, 28, 29]) XC.skip)) = XC.block 1 (XC.seq (XC.reg 576 [XO.mk (some 23) (XOp.load none (Opd.t 5)) none, XO.mk (some 24) (XOp.load (some 2) (Opd.t 11)) none,
XO.mk (some 25) (XOp.callv (Opd.t 23) [Opd.t 24]) none] [5, 11, 23, 24]) (XC.cond (Opd.t 25) (XC.reg 640 [XO.mk (some 26) (XOp.load none (Opd.t 9)) none, XO.mk (some 27) (XOp.load (some 3) (Opd.t 10))
none, XO.mk (some 28) (XOp.buildS 3 1 0 [AV.int IntKind.i64 0, AV.int IntKind.i64 0, AV.int IntKind.u8 0] [(0, 3, Opd.t 27)]) none, XO.mk (some 29) (XOp.append 3 24 0 (Opd.t 26) (Opd.t 28)) none,
XO.mk none (XOp.store 1 (Opd.t 9) (Opd.t 29)) none] [10, 25, 26, 27, 28, 29]) XC.skip)) ∧ 0 = 0 ∧ 0 = 0 ∧ 0 = 0 ∧ 0 = 0 ∧ true = true ∧ True)) := by kernel_rfl

theorem ob_d_164_89 (A B : List Cl) : fnD (TY88 89) G 10000 (fe164) (.lp (l164 89 A B) [] [] (fun b => (.r [] 3 (.cnd (.r [] 0 (.jn (jI 4 IntKind.i64 (ordV b.a b.n b.b b.m)) [] [] (.r [] 1 (.cnd (.r [] 0 .nil) (.r [] 1 (.cnd (.r [] 0 .nil) (.r [(194, .auto, Dr.val (kV (unK b.a) 0)), (197, .auto, Dr.val (kV (unK b.b) 0))] 387 .nil))))) (fun b_1 => (.r [] 1 (.r [] 0 (.r [] 1 (.cnd (.r [(706, .auto, Dr.val (kV (unK b.b) 0))] 6531 (.r [] 1 (.cnd (.r [(834, .auto, Dr.val (kV (unK b.a) 0))] 6531 (.r [(899, .auto, Dr.heap)] 3 (.lit .nil))) (.r [(899, .auto, Dr.heap)] 3 (.lit .nil))))) (.r [] 1 (.cnd (.r [(834, .auto, Dr.val (kV (unK b.a) 0))] 6531 (.r [(899, .auto, Dr.heap)] 3 (.lit .nil))) (.r [(899, .auto, Dr.heap)] 3 (.lit .nil))))))))))) .nil)))) ([.yld 9002, .ptr 24704 0, .ptr 24705 0]) (H88e 89 A B) ([]) ([(24705, .blk (bxB [] 0)), (24704, .blk (bxB [] 0)), (9001, row88 (mrg 89 A B)), (320, bxO (.full 9001 (mrg 89 A B).length))]) = (
1 = 1 ∧ Cont.vals (flatK B) = Cont.vals (flatK B) ∧ List.length B = List.length B ∧ 1 = 1 ∧ Cont.vals (flatK A) = Cont.vals (flatK A) ∧ List.length A = List.length A ∧ 0 = 0 ∧ ([] : List AV) = [] ∧ 1
= 1 ∧ 0 = 0 ∧ 1 = 1 ∧ 0 = 0 ∧ (none : Option Ex) = none ∧ 35 = 35 ∧ [21, 22] = [21, 22] ∧ XC.seq (XC.reg 448 [XO.mk (some 10) (XOp.new (Cont.cells [AV.int IntKind.i64 0, AV.int IntKind.i64 0, AV.int
IntKind.u8 0]) 1 3) none, XO.mk none (XOp.store 3 (Opd.t 10) (Opd.t 21)) none] [20, 21]) (XC.reg 512 [XO.mk (some 11) (XOp.new (Cont.cells [AV.bool false, AV.bool false]) 1 2) none, XO.mk none
(XOp.store 2 (Opd.t 11) (Opd.t 22)) none] [22]) = XC.seq (XC.reg 448 [XO.mk (some 10) (XOp.new (Cont.cells [AV.int IntKind.i64 0, AV.int IntKind.i64 0, AV.int IntKind.u8 0]) 1 3) none, XO.mk none
(XOp.store 3 (Opd.t 10) (Opd.t 21)) none] [20, 21]) (XC.reg 512 [XO.mk (some 11) (XOp.new (Cont.cells [AV.bool false, AV.bool false]) 1 2) none, XO.mk none (XOp.store 2 (Opd.t 11) (Opd.t 22)) none]
[22]) ∧ XC.block 1 (XC.seq (XC.reg 576 [XO.mk (some 23) (XOp.load none (Opd.t 5)) none, XO.mk (some 24) (XOp.load (some 2) (Opd.t 11)) none, XO.mk (some 25) (XOp.callv (Opd.t 23) [Opd.t 24]) none] [5,
11, 23, 24]) (XC.cond (Opd.t 25) (XC.reg 640 [XO.mk (some 26) (XOp.load none (Opd.t 9)) none, XO.mk (some 27) (XOp.load (some 3) (Opd.t 10)) none, XO.mk (some 28) (XOp.buildS 3 1 0 [AV.int IntKind.i64
0, AV.int IntKind.i64 0, AV.int IntKind.u8 0] [(0, 3, Opd.t 27)]) none, XO.mk (some 29) (XOp.append 3 24 0 (Opd.t 26) (Opd.t 28)) none, XO.mk none (XOp.store 1 (Opd.t 9) (Opd.t 29)) none] [10, 25, 26,
27, 28, 29]) XC.skip)) = XC.block 1 (XC.seq (XC.reg 576 [XO.mk (some 23) (XOp.load none (Opd.t 5)) none, XO.mk (some 24) (XOp.load (some 2) (Opd.t 11)) none, XO.mk (some 25) (XOp.callv (Opd.t 23)
[Opd.t 24]) none] [5, 11, 23, 24]) (XC.cond (Opd.t 25) (XC.reg 640 [XO.mk (some 26) (XOp.load none (Opd.t 9)) none, XO.mk (some 27) (XOp.load (some 3) (Opd.t 10)) none, XO.mk (some 28) (XOp.buildS 3 1
0 [AV.int IntKind.i64 0, AV.int IntKind.i64 0, AV.int IntKind.u8 0] [(0, 3, Opd.t 27)]) none, XO.mk (some 29) (XOp.append 3 24 0 (Opd.t 26) (Opd.t 28)) none, XO.mk none (XOp.store 1 (Opd.t 9) (Opd.t
29)) none] [10, 25, 26, 27, 28, 29]) XC.skip)) ∧ 0 = 0 ∧ 0 = 0 ∧ 0 = 0 ∧ 0 = 0 ∧ 0 = 0 ∧ 0 = 0 ∧ (∃ (a : List Cl), ∃ (b : List Cl), ∃ (o : List Cl), flatK A = flatK a ∧ List.length A = List.length a ∧
flatK B = flatK b ∧ List.length B = List.length b ∧ [] = flatK o ∧ 0 = List.length o ∧ okQ a ∧ okQ b ∧ List.length o + List.length a + List.length b ≤ List.length A + List.length B ∧ o ++ mrg 89 a b =
mrg 89 A B) ∧ ∀ (b : L164), (∃ (a : List Cl), ∃ (b_1 : List Cl), ∃ (o : List Cl), b.a = flatK a ∧ b.n = List.length a ∧ b.b = flatK b_1 ∧ b.m = List.length b_1 ∧ b.o = flatK o ∧ b.k = List.length o ∧
okQ a ∧ okQ b_1 ∧ List.length o + List.length a + List.length b_1 ≤ List.length A + List.length B ∧ o ++ mrg 89 a b_1 = mrg 89 A B) → inR IntKind.i64 ((↑b.n : Int) + (↑b.m : Int)) = true ∧ (ltb 0
((↑b.n : Int) + (↑b.m : Int)) = true → ((((↑b.n : Int) == 0) = true → 1 = 1 ∧ Cont.vals b.b = Cont.vals b.b ∧ b.m = b.m ∧ 1 = 1 ∧ Cont.vals b.a = Cont.vals b.a ∧ b.n = b.n ∧ b.k = b.k ∧ b.o = b.o ∧ 1
= 1 ∧ b.k = b.k ∧ 1 = 1 ∧ 0 = 0 ∧ (none : Option Ex) = none ∧ 35 = 35 ∧ [21, 22] = [21, 22] ∧ XC.seq (XC.reg 448 [XO.mk (some 10) (XOp.new (Cont.cells [AV.int IntKind.i64 0, AV.int IntKind.i64 0,
AV.int IntKind.u8 0]) 1 3) none, XO.mk none (XOp.store 3 (Opd.t 10) (Opd.t 21)) none] [20, 21]) (XC.reg 512 [XO.mk (some 11) (XOp.new (Cont.cells [AV.bool false, AV.bool false]) 1 2) none, XO.mk none
(XOp.store 2 (Opd.t 11) (Opd.t 22)) none] [22]) = XC.seq (XC.reg 448 [XO.mk (some 10) (XOp.new (Cont.cells [AV.int IntKind.i64 0, AV.int IntKind.i64 0, AV.int IntKind.u8 0]) 1 3) none, XO.mk none
(XOp.store 3 (Opd.t 10) (Opd.t 21)) none] [20, 21]) (XC.reg 512 [XO.mk (some 11) (XOp.new (Cont.cells [AV.bool false, AV.bool false]) 1 2) none, XO.mk none (XOp.store 2 (Opd.t 11) (Opd.t 22)) none]
[22]) ∧ XC.block 1 (XC.seq (XC.reg 576 [XO.mk (some 23) (XOp.load none (Opd.t 5)) none, XO.mk (some 24) (XOp.load (some 2) (Opd.t 11)) none, XO.mk (some 25) (XOp.callv (Opd.t 23) [Opd.t 24]) none] [5,
11, 23, 24]) (XC.cond (Opd.t 25) (XC.reg 640 [XO.mk (some 26) (XOp.load none (Opd.t 9)) none, XO.mk (some 27) (XOp.load (some 3) (Opd.t 10)) none, XO.mk (some 28) (XOp.buildS 3 1 0 [AV.int IntKind.i64
0, AV.int IntKind.i64 0, AV.int IntKind.u8 0] [(0, 3, Opd.t 27)]) none, XO.mk (some 29) (XOp.append 3 24 0 (Opd.t 26) (Opd.t 28)) none, XO.mk none (XOp.store 1 (Opd.t 9) (Opd.t 29)) none] [10, 25, 26,
27, 28, 29]) XC.skip)) = XC.block 1 (XC.seq (XC.reg 576 [XO.mk (some 23) (XOp.load none (Opd.t 5)) none, XO.mk (some 24) (XOp.load (some 2) (Opd.t 11)) none, XO.mk (some 25) (XOp.callv (Opd.t 23)
[Opd.t 24]) none] [5, 11, 23, 24]) (XC.cond (Opd.t 25) (XC.reg 640 [XO.mk (some 26) (XOp.load none (Opd.t 9)) none, XO.mk (some 27) (XOp.load (some 3) (Opd.t 10)) none, XO.mk (some 28) (XOp.buildS 3 1
0 [AV.int IntKind.i64 0, AV.int IntKind.i64 0, AV.int IntKind.u8 0] [(0, 3, Opd.t 27)]) none, XO.mk (some 29) (XOp.append 3 24 0 (Opd.t 26) (Opd.t 28)) none, XO.mk none (XOp.store 1 (Opd.t 9) (Opd.t
29)) none] [10, 25, 26, 27, 28, 29]) XC.skip)) ∧ 0 = 0 ∧ 0 = 0 ∧ 0 = 0 ∧ 0 = 0 ∧ 0 = 0 ∧ 0 = 0 ∧ iI 1 = 1 ∧ 1 = ordV b.a b.n b.b b.m ∧ True) ∧ (((↑b.n : Int) == 0) = false → (((↑b.m : Int) == 0) =
true → 1 = 1 ∧ Cont.vals b.b = Cont.vals b.b ∧ b.m = b.m ∧ 1 = 1 ∧ Cont.vals b.a = Cont.vals b.a ∧ b.n = b.n ∧ b.k = b.k ∧ b.o = b.o ∧ 1 = 1 ∧ b.k = b.k ∧ 1 = 1 ∧ 0 = 0 ∧ (none : Option Ex) = none ∧
35 = 35 ∧ [21, 22] = [21, 22] ∧ XC.seq (XC.reg 448 [XO.mk (some 10) (XOp.new (Cont.cells [AV.int IntKind.i64 0, AV.int IntKind.i64 0, AV.int IntKind.u8 0]) 1 3) none, XO.mk none (XOp.store 3 (Opd.t
10) (Opd.t 21)) none] [20, 21]) (XC.reg 512 [XO.mk (some 11) (XOp.new (Cont.cells [AV.bool false, AV.bool false]) 1 2) none, XO.mk none (XOp.store 2 (Opd.t 11) (Opd.t 22)) none] [22]) = XC.seq (XC.reg
448 [XO.mk (some 10) (XOp.new (Cont.cells [AV.int IntKind.i64 0, AV.int IntKind.i64 0, AV.int IntKind.u8 0]) 1 3) none, XO.mk none (XOp.store 3 (Opd.t 10) (Opd.t 21)) none] [20, 21]) (XC.reg 512
[XO.mk (some 11) (XOp.new (Cont.cells [AV.bool false, AV.bool false]) 1 2) none, XO.mk none (XOp.store 2 (Opd.t 11) (Opd.t 22)) none] [22]) ∧ XC.block 1 (XC.seq (XC.reg 576 [XO.mk (some 23) (XOp.load
none (Opd.t 5)) none, XO.mk (some 24) (XOp.load (some 2) (Opd.t 11)) none, XO.mk (some 25) (XOp.callv (Opd.t 23) [Opd.t 24]) none] [5, 11, 23, 24]) (XC.cond (Opd.t 25) (XC.reg 640 [XO.mk (some 26)
(XOp.load none (Opd.t 9)) none, XO.mk (some 27) (XOp.load (some 3) (Opd.t 10)) none, XO.mk (some 28) (XOp.buildS 3 1 0 [AV.int IntKind.i64 0, AV.int IntKind.i64 0, AV.int IntKind.u8 0] [(0, 3, Opd.t
27)]) none, XO.mk (some 29) (XOp.append 3 24 0 (Opd.t 26) (Opd.t 28)) none, XO.mk none (XOp.store 1 (Opd.t 9) (Opd.t 29)) none] [10, 25, 26, 27, 28, 29]) XC.skip)) = XC.block 1 (XC.seq (XC.reg 576
[XO.mk (some 23) (XOp.load none (Opd.t 5)) none, XO.mk (some 24) (XOp.load (some 2) (Opd.t 11)) none, XO.mk (some 25) (XOp.callv (Opd.t 23) [Opd.t 24]) none] [5, 11, 23, 24]) (XC.cond (Opd.t 25)
(XC.reg 640 [XO.mk (some 26) (XOp.load none (Opd.t 9)) none, XO.mk (some 27) (XOp.load (some 3) (Opd.t 10)) none, XO.mk (some 28) (XOp.buildS 3 1 0 [AV.int IntKind.i64 0, AV.int IntKind.i64 0, AV.int
IntKind.u8 0] [(0, 3, Opd.t 27)]) none, XO.mk (some 29) (XOp.append 3 24 0 (Opd.t 26) (Opd.t 28)) none, XO.mk none (XOp.store 1 (Opd.t 9) (Opd.t 29)) none] [10, 25, 26, 27, 28, 29]) XC.skip)) ∧ 0 = 0
∧ 0 = 0 ∧ 0 = 0 ∧ 0 = 0 ∧ 0 = 0 ∧ 0 = 0 ∧ iI (-1) = -1 ∧ -1 = ordV b.a b.n b.b b.m ∧ True) ∧ (((↑b.m : Int) == 0) = false → ltb 0 (↑b.n : Int) = true ∧ ltn 0 (Cont.size (Cont.vals b.a)) = true ∧
(List.drop 0 b.a)[0]? = some (AV.int IntKind.i64 (kX (unK b.a) 0)) ∧ (List.drop 0 b.a)[1]? = some (AV.int IntKind.i64 (kY (unK b.a) 0)) ∧ (List.drop 0 b.a)[2]? = some (AV.int IntKind.u8 (kQ (unK b.a)
0)) ∧ ltb 0 (↑b.m : Int) = true ∧ ltn 0 (Cont.size (Cont.vals b.b)) = true ∧ (List.drop 0 b.b)[0]? = some (AV.int IntKind.i64 (kX (unK b.b) 0)) ∧ (List.drop 0 b.b)[1]? = some (AV.int IntKind.i64 (kY
(unK b.b) 0)) ∧ (List.drop 0 b.b)[2]? = some (AV.int IntKind.u8 (kQ (unK b.b) 0)) ∧ (0 ≤ kQ (unK b.a) 0 ∧ kQ (unK b.a) 0 ≤ 255 ∧ 0 ≤ kQ (unK b.b) 0 ∧ kQ (unK b.b) 0 ≤ 255) ∧ 1 = 1 ∧ Cont.vals b.b =
Cont.vals b.b ∧ b.m = b.m ∧ 1 = 1 ∧ Cont.vals b.a = Cont.vals b.a ∧ b.n = b.n ∧ b.k = b.k ∧ b.o = b.o ∧ 1 = 1 ∧ b.k = b.k ∧ 1 = 1 ∧ 0 = 0 ∧ (none : Option Ex) = none ∧ 35 = 35 ∧ [21, 22] = [21, 22] ∧
XC.seq (XC.reg 448 [XO.mk (some 10) (XOp.new (Cont.cells [AV.int IntKind.i64 0, AV.int IntKind.i64 0, AV.int IntKind.u8 0]) 1 3) none, XO.mk none (XOp.store 3 (Opd.t 10) (Opd.t 21)) none] [20, 21])
(XC.reg 512 [XO.mk (some 11) (XOp.new (Cont.cells [AV.bool false, AV.bool false]) 1 2) none, XO.mk none (XOp.store 2 (Opd.t 11) (Opd.t 22)) none] [22]) = XC.seq (XC.reg 448 [XO.mk (some 10) (XOp.new
(Cont.cells [AV.int IntKind.i64 0, AV.int IntKind.i64 0, AV.int IntKind.u8 0]) 1 3) none, XO.mk none (XOp.store 3 (Opd.t 10) (Opd.t 21)) none] [20, 21]) (XC.reg 512 [XO.mk (some 11) (XOp.new
(Cont.cells [AV.bool false, AV.bool false]) 1 2) none, XO.mk none (XOp.store 2 (Opd.t 11) (Opd.t 22)) none] [22]) ∧ XC.block 1 (XC.seq (XC.reg 576 [XO.mk (some 23) (XOp.load none (Opd.t 5)) none,
XO.mk (some 24) (XOp.load (some 2) (Opd.t 11)) none, XO.mk (some 25) (XOp.callv (Opd.t 23) [Opd.t 24]) none] [5, 11, 23, 24]) (XC.cond (Opd.t 25) (XC.reg 640 [XO.mk (some 26) (XOp.load none (Opd.t 9))
none, XO.mk (some 27) (XOp.load (some 3) (Opd.t 10)) none, XO.mk (some 28) (XOp.buildS 3 1 0 [AV.int IntKind.i64 0, AV.int IntKind.i64 0, AV.int IntKind.u8 0] [(0, 3, Opd.t 27)]) none, XO.mk (some 29)
(XOp.append 3 24 0 (Opd.t 26) (Opd.t 28)) none, XO.mk none (XOp.store 1 (Opd.t 9) (Opd.t 29)) none] [10, 25, 26, 27, 28, 29]) XC.skip)) = XC.block 1 (XC.seq (XC.reg 576 [XO.mk (some 23) (XOp.load none
(Opd.t 5)) none, XO.mk (some 24) (XOp.load (some 2) (Opd.t 11)) none, XO.mk (some 25) (XOp.callv (Opd.t 23) [Opd.t 24]) none] [5, 11, 23, 24]) (XC.cond (Opd.t 25) (XC.reg 640 [XO.mk (some 26)
(XOp.load none (Opd.t 9)) none, XO.mk (some 27) (XOp.load (some 3) (Opd.t 10)) none, XO.mk (some 28) (XOp.buildS 3 1 0 [AV.int IntKind.i64 0, AV.int IntKind.i64 0, AV.int IntKind.u8 0] [(0, 3, Opd.t
27)]) none, XO.mk (some 29) (XOp.append 3 24 0 (Opd.t 26) (Opd.t 28)) none, XO.mk none (XOp.store 1 (Opd.t 9) (Opd.t 29)) none] [10, 25, 26, 27, 28, 29]) XC.skip)) ∧ 0 = 0 ∧ 0 = 0 ∧ 0 = 0 ∧ 0 = 0 ∧ 0
= 0 ∧ 0 = 0 ∧ cmpC (kX (unK b.a) 0, kY (unK b.a) 0, kQ (unK b.a) 0) (kX (unK b.b) 0, kY (unK b.b) 0, kQ (unK b.b) 0) = cmpC (kX (unK b.a) 0, kY (unK b.a) 0, kQ (unK b.a) 0) (kX (unK b.b) 0, kY (unK
b.b) 0, kQ (unK b.b) 0) ∧ cmpC (kX (unK b.a) 0, kY (unK b.a) 0, kQ (unK b.a) 0) (kX (unK b.b) 0, kY (unK b.b) 0, kQ (unK b.b) 0) = ordV b.a b.n b.b b.m ∧ True))) ∧ ∀ (b_1 : VI), b_1.v = ordV b.a b.n
b.b b.m → (leb 0 b_1.v = true → ltb 0 (↑b.m : Int) = true ∧ ltn 0 (Cont.size (Cont.vals b.b)) = true ∧ (List.drop 0 b.b)[0]? = some (AV.int IntKind.i64 (kX (unK b.b) 0)) ∧ (List.drop 0 b.b)[1]? = some
(AV.int IntKind.i64 (kY (unK b.b) 0)) ∧ (List.drop 0 b.b)[2]? = some (AV.int IntKind.u8 (kQ (unK b.b) 0)) ∧ len' 1 b.m = true ∧ Cont.size (Cont.vals b.b) = b.m * 3 ∧ (leb b_1.v 0 = true → ltb 0 (↑b.n
: Int) = true ∧ ltn 0 (Cont.size (Cont.vals b.a)) = true ∧ (List.drop 0 b.a)[0]? = some (AV.int IntKind.i64 (kX (unK b.a) 0)) ∧ (List.drop 0 b.a)[1]? = some (AV.int IntKind.i64 (kY (unK b.a) 0)) ∧
(List.drop 0 b.a)[2]? = some (AV.int IntKind.u8 (kQ (unK b.a) 0)) ∧ len' 1 b.n = true ∧ Cont.size (Cont.vals b.a) = b.n * 3 ∧ ([(24705, HO.blk (Blk.mk (Cont.cells [AV.imm (Cont.vals (List.drop 3 b.b))
(b.m - 1) none]) 1 1 none (some false) true true)), (24704, HO.blk (Blk.mk (Cont.cells [AV.imm (Cont.vals (List.drop 3 b.a)) (b.n - 1) none]) 1 1 none (some false) true true)), (9001, HO.blk (Blk.mk
(Cont.vals b.o) 3 b.k none (some true) true false)), (320, HO.blk (Blk.mk (Cont.cells [AV.full 9001 b.k]) 1 1 none (some false) true true)), (64, HO.blk (Blk.mk (Cont.cells [AV.fn 89 [] []]) 1 1 none
(some false) true true)), (9002, HO.loop (LoopS.mk 0 none [(5, AV.ptr 64 0), (9, AV.ptr 320 0), (20, AV.fn 164 [] [AV.ptr 24704 0, AV.ptr 24705 0])] 35 [21, 22] (XC.seq (XC.reg 448 [XO.mk (some 10)
(XOp.new (Cont.cells [AV.int IntKind.i64 0, AV.int IntKind.i64 0, AV.int IntKind.u8 0]) 1 3) none, XO.mk none (XOp.store 3 (Opd.t 10) (Opd.t 21)) none] [20, 21]) (XC.reg 512 [XO.mk (some 11) (XOp.new
(Cont.cells [AV.bool false, AV.bool false]) 1 2) none, XO.mk none (XOp.store 2 (Opd.t 11) (Opd.t 22)) none] [22])) (XC.block 1 (XC.seq (XC.reg 576 [XO.mk (some 23) (XOp.load none (Opd.t 5)) none,
XO.mk (some 24) (XOp.load (some 2) (Opd.t 11)) none, XO.mk (some 25) (XOp.callv (Opd.t 23) [Opd.t 24]) none] [5, 11, 23, 24]) (XC.cond (Opd.t 25) (XC.reg 640 [XO.mk (some 26) (XOp.load none (Opd.t 9))
none, XO.mk (some 27) (XOp.load (some 3) (Opd.t 10)) none, XO.mk (some 28) (XOp.buildS 3 1 0 [AV.int IntKind.i64 0, AV.int IntKind.i64 0, AV.int IntKind.u8 0] [(0, 3, Opd.t 27)]) none, XO.mk (some 29)
(XOp.append 3 24 0 (Opd.t 26) (Opd.t 28)) none, XO.mk none (XOp.store 1 (Opd.t 9) (Opd.t 29)) none] [10, 25, 26, 27, 28, 29]) XC.skip)))))] = [(24705, HO.blk (Blk.mk (Cont.cells [AV.imm (Cont.vals
(List.drop 3 b.b)) (b.m - 1) none]) 1 1 none (some false) true true)), (24704, HO.blk (Blk.mk (Cont.cells [AV.imm (Cont.vals (List.drop 3 b.a)) (b.n - 1) none]) 1 1 none (some false) true true)),
(9001, HO.blk (Blk.mk (Cont.vals (flatK (unK b.o))) 3 (List.length (unK b.o)) none (some true) true false)), (320, HO.blk (Blk.mk (Cont.cells [AV.full 9001 (List.length (unK b.o))]) 1 1 none (some
false) true true)), (64, HO.blk (Blk.mk (Cont.cells [AV.fn 89 [] []]) 1 1 none (some false) true true)), (9002, HO.loop (LoopS.mk 0 none [(5, AV.ptr 64 0), (9, AV.ptr 320 0), (20, AV.fn 164 [] [AV.ptr
24704 0, AV.ptr 24705 0])] 35 [21, 22] (XC.seq (XC.reg 448 [XO.mk (some 10) (XOp.new (Cont.cells [AV.int IntKind.i64 0, AV.int IntKind.i64 0, AV.int IntKind.u8 0]) 1 3) none, XO.mk none (XOp.store 3
(Opd.t 10) (Opd.t 21)) none] [20, 21]) (XC.reg 512 [XO.mk (some 11) (XOp.new (Cont.cells [AV.bool false, AV.bool false]) 1 2) none, XO.mk none (XOp.store 2 (Opd.t 11) (Opd.t 22)) none] [22]))
(XC.block 1 (XC.seq (XC.reg 576 [XO.mk (some 23) (XOp.load none (Opd.t 5)) none, XO.mk (some 24) (XOp.load (some 2) (Opd.t 11)) none, XO.mk (some 25) (XOp.callv (Opd.t 23) [Opd.t 24]) none] [5, 11,
23, 24]) (XC.cond (Opd.t 25) (XC.reg 640 [XO.mk (some 26) (XOp.load none (Opd.t 9)) none, XO.mk (some 27) (XOp.load (some 3) (Opd.t 10)) none, XO.mk (some 28) (XOp.buildS 3 1 0 [AV.int IntKind.i64 0,
AV.int IntKind.i64 0, AV.int IntKind.u8 0] [(0, 3, Opd.t 27)]) none, XO.mk (some 29) (XOp.append 3 24 0 (Opd.t 26) (Opd.t 28)) none, XO.mk none (XOp.store 1 (Opd.t 9) (Opd.t 29)) none] [10, 25, 26,
27, 28, 29]) XC.skip)))))] ∧ List.length (unK b.o) < 1000000) ∧ 1 = 1 ∧ Cont.vals (List.drop 3 b.b) = Cont.vals (List.drop 3 b.b) ∧ b.m - 1 = b.m - 1 ∧ 1 = 1 ∧ Cont.vals (List.drop 3 b.a) = Cont.vals
(List.drop 3 b.a) ∧ b.n - 1 = b.n - 1 ∧ List.length (addK true (unK b.o) (kX (unK b.a) 0, kY (unK b.a) 0, kQ (unK b.a) 0)) = List.length (addK true (unK b.o) (kX (unK b.a) 0, kY (unK b.a) 0, kQ (unK
b.a) 0)) ∧ flatK (addK true (unK b.o) (kX (unK b.a) 0, kY (unK b.a) 0, kQ (unK b.a) 0)) = flatK (addK true (unK b.o) (kX (unK b.a) 0, kY (unK b.a) 0, kQ (unK b.a) 0)) ∧ 1 = 1 ∧ List.length (addK true
(unK b.o) (kX (unK b.a) 0, kY (unK b.a) 0, kQ (unK b.a) 0)) = List.length (addK true (unK b.o) (kX (unK b.a) 0, kY (unK b.a) 0, kQ (unK b.a) 0)) ∧ 1 = 1 ∧ 0 = 0 ∧ (none : Option Ex) = none ∧ 35 = 35 ∧
[21, 22] = [21, 22] ∧ XC.seq (XC.reg 448 [XO.mk (some 10) (XOp.new (Cont.cells [AV.int IntKind.i64 0, AV.int IntKind.i64 0, AV.int IntKind.u8 0]) 1 3) none, XO.mk none (XOp.store 3 (Opd.t 10) (Opd.t
21)) none] [20, 21]) (XC.reg 512 [XO.mk (some 11) (XOp.new (Cont.cells [AV.bool false, AV.bool false]) 1 2) none, XO.mk none (XOp.store 2 (Opd.t 11) (Opd.t 22)) none] [22]) = XC.seq (XC.reg 448 [XO.mk
(some 10) (XOp.new (Cont.cells [AV.int IntKind.i64 0, AV.int IntKind.i64 0, AV.int IntKind.u8 0]) 1 3) none, XO.mk none (XOp.store 3 (Opd.t 10) (Opd.t 21)) none] [20, 21]) (XC.reg 512 [XO.mk (some 11)
(XOp.new (Cont.cells [AV.bool false, AV.bool false]) 1 2) none, XO.mk none (XOp.store 2 (Opd.t 11) (Opd.t 22)) none] [22]) ∧ XC.block 1 (XC.seq (XC.reg 576 [XO.mk (some 23) (XOp.load none (Opd.t 5))
none, XO.mk (some 24) (XOp.load (some 2) (Opd.t 11)) none, XO.mk (some 25) (XOp.callv (Opd.t 23) [Opd.t 24]) none] [5, 11, 23, 24]) (XC.cond (Opd.t 25) (XC.reg 640 [XO.mk (some 26) (XOp.load none
(Opd.t 9)) none, XO.mk (some 27) (XOp.load (some 3) (Opd.t 10)) none, XO.mk (some 28) (XOp.buildS 3 1 0 [AV.int IntKind.i64 0, AV.int IntKind.i64 0, AV.int IntKind.u8 0] [(0, 3, Opd.t 27)]) none,
XO.mk (some 29) (XOp.append 3 24 0 (Opd.t 26) (Opd.t 28)) none, XO.mk none (XOp.store 1 (Opd.t 9) (Opd.t 29)) none] [10, 25, 26, 27, 28, 29]) XC.skip)) = XC.block 1 (XC.seq (XC.reg 576 [XO.mk (some
23) (XOp.load none (Opd.t 5)) none, XO.mk (some 24) (XOp.load (some 2) (Opd.t 11)) none, XO.mk (some 25) (XOp.callv (Opd.t 23) [Opd.t 24]) none] [5, 11, 23, 24]) (XC.cond (Opd.t 25) (XC.reg 640 [XO.mk
(some 26) (XOp.load none (Opd.t 9)) none, XO.mk (some 27) (XOp.load (some 3) (Opd.t 10)) none, XO.mk (some 28) (XOp.buildS 3 1 0 [AV.int IntKind.i64 0, AV.int IntKind.i64 0, AV.int IntKind.u8 0] [(0,
3, Opd.t 27)]) none, XO.mk (some 29) (XOp.append 3 24 0 (Opd.t 26) (Opd.t 28)) none, XO.mk none (XOp.store 1 (Opd.t 9) (Opd.t 29)) none] [10, 25, 26, 27, 28, 29]) XC.skip)) ∧ 0 = 0 ∧ 0 = 0 ∧ 0 = 0 ∧ 0
= 0 ∧ 0 = 0 ∧ 0 = 0 ∧ (∃ (a : List Cl), ∃ (b_2 : List Cl), ∃ (o : List Cl), List.drop 3 b.a = flatK a ∧ b.n - 1 = List.length a ∧ List.drop 3 b.b = flatK b_2 ∧ b.m - 1 = List.length b_2 ∧ flatK (addK
true (unK b.o) (kX (unK b.a) 0, kY (unK b.a) 0, kQ (unK b.a) 0)) = flatK o ∧ List.length (addK true (unK b.o) (kX (unK b.a) 0, kY (unK b.a) 0, kQ (unK b.a) 0)) = List.length o ∧ okQ a ∧ okQ b_2 ∧
List.length o + List.length a + List.length b_2 ≤ List.length A + List.length B ∧ o ++ mrg 89 a b_2 = mrg 89 A B) ∧ b.n - 1 + (b.m - 1) < b.n + b.m ∧ True) ∧ (leb b_1.v 0 = false → ([(24705, HO.blk
(Blk.mk (Cont.cells [AV.imm (Cont.vals (List.drop 3 b.b)) (b.m - 1) none]) 1 1 none (some false) true true)), (24704, HO.blk (Blk.mk (Cont.cells [AV.imm (Cont.vals b.a) b.n none]) 1 1 none (some
false) true true)), (9001, HO.blk (Blk.mk (Cont.vals b.o) 3 b.k none (some true) true false)), (320, HO.blk (Blk.mk (Cont.cells [AV.full 9001 b.k]) 1 1 none (some false) true true)), (64, HO.blk
(Blk.mk (Cont.cells [AV.fn 89 [] []]) 1 1 none (some false) true true)), (9002, HO.loop (LoopS.mk 0 none [(5, AV.ptr 64 0), (9, AV.ptr 320 0), (20, AV.fn 164 [] [AV.ptr 24704 0, AV.ptr 24705 0])] 35
[21, 22] (XC.seq (XC.reg 448 [XO.mk (some 10) (XOp.new (Cont.cells [AV.int IntKind.i64 0, AV.int IntKind.i64 0, AV.int IntKind.u8 0]) 1 3) none, XO.mk none (XOp.store 3 (Opd.t 10) (Opd.t 21)) none]
[20, 21]) (XC.reg 512 [XO.mk (some 11) (XOp.new (Cont.cells [AV.bool false, AV.bool false]) 1 2) none, XO.mk none (XOp.store 2 (Opd.t 11) (Opd.t 22)) none] [22])) (XC.block 1 (XC.seq (XC.reg 576
[XO.mk (some 23) (XOp.load none (Opd.t 5)) none, XO.mk (some 24) (XOp.load (some 2) (Opd.t 11)) none, XO.mk (some 25) (XOp.callv (Opd.t 23) [Opd.t 24]) none] [5, 11, 23, 24]) (XC.cond (Opd.t 25)
(XC.reg 640 [XO.mk (some 26) (XOp.load none (Opd.t 9)) none, XO.mk (some 27) (XOp.load (some 3) (Opd.t 10)) none, XO.mk (some 28) (XOp.buildS 3 1 0 [AV.int IntKind.i64 0, AV.int IntKind.i64 0, AV.int
IntKind.u8 0] [(0, 3, Opd.t 27)]) none, XO.mk (some 29) (XOp.append 3 24 0 (Opd.t 26) (Opd.t 28)) none, XO.mk none (XOp.store 1 (Opd.t 9) (Opd.t 29)) none] [10, 25, 26, 27, 28, 29]) XC.skip)))))] =
[(24705, HO.blk (Blk.mk (Cont.cells [AV.imm (Cont.vals (List.drop 3 b.b)) (b.m - 1) none]) 1 1 none (some false) true true)), (24704, HO.blk (Blk.mk (Cont.cells [AV.imm (Cont.vals b.a) b.n none]) 1 1
none (some false) true true)), (9001, HO.blk (Blk.mk (Cont.vals (flatK (unK b.o))) 3 (List.length (unK b.o)) none (some true) true false)), (320, HO.blk (Blk.mk (Cont.cells [AV.full 9001 (List.length
(unK b.o))]) 1 1 none (some false) true true)), (64, HO.blk (Blk.mk (Cont.cells [AV.fn 89 [] []]) 1 1 none (some false) true true)), (9002, HO.loop (LoopS.mk 0 none [(5, AV.ptr 64 0), (9, AV.ptr 320
0), (20, AV.fn 164 [] [AV.ptr 24704 0, AV.ptr 24705 0])] 35 [21, 22] (XC.seq (XC.reg 448 [XO.mk (some 10) (XOp.new (Cont.cells [AV.int IntKind.i64 0, AV.int IntKind.i64 0, AV.int IntKind.u8 0]) 1 3)
none, XO.mk none (XOp.store 3 (Opd.t 10) (Opd.t 21)) none] [20, 21]) (XC.reg 512 [XO.mk (some 11) (XOp.new (Cont.cells [AV.bool false, AV.bool false]) 1 2) none, XO.mk none (XOp.store 2 (Opd.t 11)
(Opd.t 22)) none] [22])) (XC.block 1 (XC.seq (XC.reg 576 [XO.mk (some 23) (XOp.load none (Opd.t 5)) none, XO.mk (some 24) (XOp.load (some 2) (Opd.t 11)) none, XO.mk (some 25) (XOp.callv (Opd.t 23)
[Opd.t 24]) none] [5, 11, 23, 24]) (XC.cond (Opd.t 25) (XC.reg 640 [XO.mk (some 26) (XOp.load none (Opd.t 9)) none, XO.mk (some 27) (XOp.load (some 3) (Opd.t 10)) none, XO.mk (some 28) (XOp.buildS 3 1
0 [AV.int IntKind.i64 0, AV.int IntKind.i64 0, AV.int IntKind.u8 0] [(0, 3, Opd.t 27)]) none, XO.mk (some 29) (XOp.append 3 24 0 (Opd.t 26) (Opd.t 28)) none, XO.mk none (XOp.store 1 (Opd.t 9) (Opd.t
29)) none] [10, 25, 26, 27, 28, 29]) XC.skip)))))] ∧ List.length (unK b.o) < 1000000) ∧ 1 = 1 ∧ Cont.vals (List.drop 3 b.b) = Cont.vals (List.drop 3 b.b) ∧ b.m - 1 = b.m - 1 ∧ 1 = 1 ∧ Cont.vals b.a =
Cont.vals b.a ∧ b.n = b.n ∧ List.length (addK true (unK b.o) (kX (unK b.b) 0, kY (unK b.b) 0, kQ (unK b.b) 0)) = List.length (addK true (unK b.o) (kX (unK b.b) 0, kY (unK b.b) 0, kQ (unK b.b) 0)) ∧
flatK (addK true (unK b.o) (kX (unK b.b) 0, kY (unK b.b) 0, kQ (unK b.b) 0)) = flatK (addK true (unK b.o) (kX (unK b.b) 0, kY (unK b.b) 0, kQ (unK b.b) 0)) ∧ 1 = 1 ∧ List.length (addK true (unK b.o)
(kX (unK b.b) 0, kY (unK b.b) 0, kQ (unK b.b) 0)) = List.length (addK true (unK b.o) (kX (unK b.b) 0, kY (unK b.b) 0, kQ (unK b.b) 0)) ∧ 1 = 1 ∧ 0 = 0 ∧ (none : Option Ex) = none ∧ 35 = 35 ∧ [21, 22]
= [21, 22] ∧ XC.seq (XC.reg 448 [XO.mk (some 10) (XOp.new (Cont.cells [AV.int IntKind.i64 0, AV.int IntKind.i64 0, AV.int IntKind.u8 0]) 1 3) none, XO.mk none (XOp.store 3 (Opd.t 10) (Opd.t 21)) none]
[20, 21]) (XC.reg 512 [XO.mk (some 11) (XOp.new (Cont.cells [AV.bool false, AV.bool false]) 1 2) none, XO.mk none (XOp.store 2 (Opd.t 11) (Opd.t 22)) none] [22]) = XC.seq (XC.reg 448 [XO.mk (some 10)
(XOp.new (Cont.cells [AV.int IntKind.i64 0, AV.int IntKind.i64 0, AV.int IntKind.u8 0]) 1 3) none, XO.mk none (XOp.store 3 (Opd.t 10) (Opd.t 21)) none] [20, 21]) (XC.reg 512 [XO.mk (some 11) (XOp.new
(Cont.cells [AV.bool false, AV.bool false]) 1 2) none, XO.mk none (XOp.store 2 (Opd.t 11) (Opd.t 22)) none] [22]) ∧ XC.block 1 (XC.seq (XC.reg 576 [XO.mk (some 23) (XOp.load none (Opd.t 5)) none,
XO.mk (some 24) (XOp.load (some 2) (Opd.t 11)) none, XO.mk (some 25) (XOp.callv (Opd.t 23) [Opd.t 24]) none] [5, 11, 23, 24]) (XC.cond (Opd.t 25) (XC.reg 640 [XO.mk (some 26) (XOp.load none (Opd.t 9))
none, XO.mk (some 27) (XOp.load (some 3) (Opd.t 10)) none, XO.mk (some 28) (XOp.buildS 3 1 0 [AV.int IntKind.i64 0, AV.int IntKind.i64 0, AV.int IntKind.u8 0] [(0, 3, Opd.t 27)]) none, XO.mk (some 29)
(XOp.append 3 24 0 (Opd.t 26) (Opd.t 28)) none, XO.mk none (XOp.store 1 (Opd.t 9) (Opd.t 29)) none] [10, 25, 26, 27, 28, 29]) XC.skip)) = XC.block 1 (XC.seq (XC.reg 576 [XO.mk (some 23) (XOp.load none
(Opd.t 5)) none, XO.mk (some 24) (XOp.load (some 2) (Opd.t 11)) none, XO.mk (some 25) (XOp.callv (Opd.t 23) [Opd.t 24]) none] [5, 11, 23, 24]) (XC.cond (Opd.t 25) (XC.reg 640 [XO.mk (some 26)
(XOp.load none (Opd.t 9)) none, XO.mk (some 27) (XOp.load (some 3) (Opd.t 10)) none, XO.mk (some 28) (XOp.buildS 3 1 0 [AV.int IntKind.i64 0, AV.int IntKind.i64 0, AV.int IntKind.u8 0] [(0, 3, Opd.t
27)]) none, XO.mk (some 29) (XOp.append 3 24 0 (Opd.t 26) (Opd.t 28)) none, XO.mk none (XOp.store 1 (Opd.t 9) (Opd.t 29)) none] [10, 25, 26, 27, 28, 29]) XC.skip)) ∧ 0 = 0 ∧ 0 = 0 ∧ 0 = 0 ∧ 0 = 0 ∧ 0
= 0 ∧ 0 = 0 ∧ (∃ (a : List Cl), ∃ (b_2 : List Cl), ∃ (o : List Cl), b.a = flatK a ∧ b.n = List.length a ∧ List.drop 3 b.b = flatK b_2 ∧ b.m - 1 = List.length b_2 ∧ flatK (addK true (unK b.o) (kX (unK
b.b) 0, kY (unK b.b) 0, kQ (unK b.b) 0)) = flatK o ∧ List.length (addK true (unK b.o) (kX (unK b.b) 0, kY (unK b.b) 0, kQ (unK b.b) 0)) = List.length o ∧ okQ a ∧ okQ b_2 ∧ List.length o + List.length
a + List.length b_2 ≤ List.length A + List.length B ∧ o ++ mrg 89 a b_2 = mrg 89 A B) ∧ b.n + (b.m - 1) < b.n + b.m ∧ True)) ∧ (leb 0 b_1.v = false → (leb b_1.v 0 = true → ltb 0 (↑b.n : Int) = true ∧
ltn 0 (Cont.size (Cont.vals b.a)) = true ∧ (List.drop 0 b.a)[0]? = some (AV.int IntKind.i64 (kX (unK b.a) 0)) ∧ (List.drop 0 b.a)[1]? = some (AV.int IntKind.i64 (kY (unK b.a) 0)) ∧ (List.drop 0
b.a)[2]? = some (AV.int IntKind.u8 (kQ (unK b.a) 0)) ∧ len' 1 b.n = true ∧ Cont.size (Cont.vals b.a) = b.n * 3 ∧ ([(24705, HO.blk (Blk.mk (Cont.cells [AV.imm (Cont.vals b.b) b.m none]) 1 1 none (some
false) true true)), (24704, HO.blk (Blk.mk (Cont.cells [AV.imm (Cont.vals (List.drop 3 b.a)) (b.n - 1) none]) 1 1 none (some false) true true)), (9001, HO.blk (Blk.mk (Cont.vals b.o) 3 b.k none (some
true) true false)), (320, HO.blk (Blk.mk (Cont.cells [AV.full 9001 b.k]) 1 1 none (some false) true true)), (64, HO.blk (Blk.mk (Cont.cells [AV.fn 89 [] []]) 1 1 none (some false) true true)), (9002,
HO.loop (LoopS.mk 0 none [(5, AV.ptr 64 0), (9, AV.ptr 320 0), (20, AV.fn 164 [] [AV.ptr 24704 0, AV.ptr 24705 0])] 35 [21, 22] (XC.seq (XC.reg 448 [XO.mk (some 10) (XOp.new (Cont.cells [AV.int
IntKind.i64 0, AV.int IntKind.i64 0, AV.int IntKind.u8 0]) 1 3) none, XO.mk none (XOp.store 3 (Opd.t 10) (Opd.t 21)) none] [20, 21]) (XC.reg 512 [XO.mk (some 11) (XOp.new (Cont.cells [AV.bool false,
AV.bool false]) 1 2) none, XO.mk none (XOp.store 2 (Opd.t 11) (Opd.t 22)) none] [22])) (XC.block 1 (XC.seq (XC.reg 576 [XO.mk (some 23) (XOp.load none (Opd.t 5)) none, XO.mk (some 24) (XOp.load (some
2) (Opd.t 11)) none, XO.mk (some 25) (XOp.callv (Opd.t 23) [Opd.t 24]) none] [5, 11, 23, 24]) (XC.cond (Opd.t 25) (XC.reg 640 [XO.mk (some 26) (XOp.load none (Opd.t 9)) none, XO.mk (some 27) (XOp.load
(some 3) (Opd.t 10)) none, XO.mk (some 28) (XOp.buildS 3 1 0 [AV.int IntKind.i64 0, AV.int IntKind.i64 0, AV.int IntKind.u8 0] [(0, 3, Opd.t 27)]) none, XO.mk (some 29) (XOp.append 3 24 0 (Opd.t 26)
(Opd.t 28)) none, XO.mk none (XOp.store 1 (Opd.t 9) (Opd.t 29)) none] [10, 25, 26, 27, 28, 29]) XC.skip)))))] = [(24705, HO.blk (Blk.mk (Cont.cells [AV.imm (Cont.vals b.b) b.m none]) 1 1 none (some
false) true true)), (24704, HO.blk (Blk.mk (Cont.cells [AV.imm (Cont.vals (List.drop 3 b.a)) (b.n - 1) none]) 1 1 none (some false) true true)), (9001, HO.blk (Blk.mk (Cont.vals (flatK (unK b.o))) 3
(List.length (unK b.o)) none (some true) true false)), (320, HO.blk (Blk.mk (Cont.cells [AV.full 9001 (List.length (unK b.o))]) 1 1 none (some false) true true)), (64, HO.blk (Blk.mk (Cont.cells
[AV.fn 89 [] []]) 1 1 none (some false) true true)), (9002, HO.loop (LoopS.mk 0 none [(5, AV.ptr 64 0), (9, AV.ptr 320 0), (20, AV.fn 164 [] [AV.ptr 24704 0, AV.ptr 24705 0])] 35 [21, 22] (XC.seq
(XC.reg 448 [XO.mk (some 10) (XOp.new (Cont.cells [AV.int IntKind.i64 0, AV.int IntKind.i64 0, AV.int IntKind.u8 0]) 1 3) none, XO.mk none (XOp.store 3 (Opd.t 10) (Opd.t 21)) none] [20, 21]) (XC.reg
512 [XO.mk (some 11) (XOp.new (Cont.cells [AV.bool false, AV.bool false]) 1 2) none, XO.mk none (XOp.store 2 (Opd.t 11) (Opd.t 22)) none] [22])) (XC.block 1 (XC.seq (XC.reg 576 [XO.mk (some 23)
(XOp.load none (Opd.t 5)) none, XO.mk (some 24) (XOp.load (some 2) (Opd.t 11)) none, XO.mk (some 25) (XOp.callv (Opd.t 23) [Opd.t 24]) none] [5, 11, 23, 24]) (XC.cond (Opd.t 25) (XC.reg 640 [XO.mk
(some 26) (XOp.load none (Opd.t 9)) none, XO.mk (some 27) (XOp.load (some 3) (Opd.t 10)) none, XO.mk (some 28) (XOp.buildS 3 1 0 [AV.int IntKind.i64 0, AV.int IntKind.i64 0, AV.int IntKind.u8 0] [(0,
3, Opd.t 27)]) none, XO.mk (some 29) (XOp.append 3 24 0 (Opd.t 26) (Opd.t 28)) none, XO.mk none (XOp.store 1 (Opd.t 9) (Opd.t 29)) none] [10, 25, 26, 27, 28, 29]) XC.skip)))))] ∧ List.length (unK b.o)
< 1000000) ∧ 1 = 1 ∧ Cont.vals b.b = Cont.vals b.b ∧ b.m = b.m ∧ 1 = 1 ∧ Cont.vals (List.drop 3 b.a) = Cont.vals (List.drop 3 b.a) ∧ b.n - 1 = b.n - 1 ∧ List.length (addK true (unK b.o) (kX (unK b.a)
0, kY (unK b.a) 0, kQ (unK b.a) 0)) = List.length (addK true (unK b.o) (kX (unK b.a) 0, kY (unK b.a) 0, kQ (unK b.a) 0)) ∧ flatK (addK true (unK b.o) (kX (unK b.a) 0, kY (unK b.a) 0, kQ (unK b.a) 0))
= flatK (addK true (unK b.o) (kX (unK b.a) 0, kY (unK b.a) 0, kQ (unK b.a) 0)) ∧ 1 = 1 ∧ List.length (addK true (unK b.o) (kX (unK b.a) 0, kY (unK b.a) 0, kQ (unK b.a) 0)) = List.length (addK true
(unK b.o) (kX (unK b.a) 0, kY (unK b.a) 0, kQ (unK b.a) 0)) ∧ 1 = 1 ∧ 0 = 0 ∧ (none : Option Ex) = none ∧ 35 = 35 ∧ [21, 22] = [21, 22] ∧ XC.seq (XC.reg 448 [XO.mk (some 10) (XOp.new (Cont.cells
[AV.int IntKind.i64 0, AV.int IntKind.i64 0, AV.int IntKind.u8 0]) 1 3) none, XO.mk none (XOp.store 3 (Opd.t 10) (Opd.t 21)) none] [20, 21]) (XC.reg 512 [XO.mk (some 11) (XOp.new (Cont.cells [AV.bool
false, AV.bool false]) 1 2) none, XO.mk none (XOp.store 2 (Opd.t 11) (Opd.t 22)) none] [22]) = XC.seq (XC.reg 448 [XO.mk (some 10) (XOp.new (Cont.cells [AV.int IntKind.i64 0, AV.int IntKind.i64 0,
AV.int IntKind.u8 0]) 1 3) none, XO.mk none (XOp.store 3 (Opd.t 10) (Opd.t 21)) none] [20, 21]) (XC.reg 512 [XO.mk (some 11) (XOp.new (Cont.cells [AV.bool false, AV.bool false]) 1 2) none, XO.mk none
(XOp.store 2 (Opd.t 11) (Opd.t 22)) none] [22]) ∧ XC.block 1 (XC.seq (XC.reg 576 [XO.mk (some 23) (XOp.load none (Opd.t 5)) none, XO.mk (some 24) (XOp.load (some 2) (Opd.t 11)) none, XO.mk (some 25)
(XOp.callv (Opd.t 23) [Opd.t 24]) none] [5, 11, 23, 24]) (XC.cond (Opd.t 25) (XC.reg 640 [XO.mk (some 26) (XOp.load none (Opd.t 9)) none, XO.mk (some 27) (XOp.load (some 3) (Opd.t 10)) none, XO.mk
(some 28) (XOp.buildS 3 1 0 [AV.int IntKind.i64 0, AV.int IntKind.i64 0, AV.int IntKind.u8 0] [(0, 3, Opd.t 27)]) none, XO.mk (some 29) (XOp.append 3 24 0 (Opd.t 26) (Opd.t 28)) none, XO.mk none
(XOp.store 1 (Opd.t 9) (Opd.t 29)) none] [10, 25, 26, 27, 28, 29]) XC.skip)) = XC.block 1 (XC.seq (XC.reg 576 [XO.mk (some 23) (XOp.load none (Opd.t 5)) none, XO.mk (some 24) (XOp.load (some 2) (Opd.t
11)) none, XO.mk (some 25) (XOp.callv (Opd.t 23) [Opd.t 24]) none] [5, 11, 23, 24]) (XC.cond (Opd.t 25) (XC.reg 640 [XO.mk (some 26) (XOp.load none (Opd.t 9)) none, XO.mk (some 27) (XOp.load (some 3)
(Opd.t 10)) none, XO.mk (some 28) (XOp.buildS 3 1 0 [AV.int IntKind.i64 0, AV.int IntKind.i64 0, AV.int IntKind.u8 0] [(0, 3, Opd.t 27)]) none, XO.mk (some 29) (XOp.append 3 24 0 (Opd.t 26) (Opd.t
28)) none, XO.mk none (XOp.store 1 (Opd.t 9) (Opd.t 29)) none] [10, 25, 26, 27, 28, 29]) XC.skip)) ∧ 0 = 0 ∧ 0 = 0 ∧ 0 = 0 ∧ 0 = 0 ∧ 0 = 0 ∧ 0 = 0 ∧ (∃ (a : List Cl), ∃ (b_2 : List Cl), ∃ (o : List
Cl), List.drop 3 b.a = flatK a ∧ b.n - 1 = List.length a ∧ b.b = flatK b_2 ∧ b.m = List.length b_2 ∧ flatK (addK true (unK b.o) (kX (unK b.a) 0, kY (unK b.a) 0, kQ (unK b.a) 0)) = flatK o ∧
List.length (addK true (unK b.o) (kX (unK b.a) 0, kY (unK b.a) 0, kQ (unK b.a) 0)) = List.length o ∧ okQ a ∧ okQ b_2 ∧ List.length o + List.length a + List.length b_2 ≤ List.length A + List.length B ∧
o ++ mrg 89 a b_2 = mrg 89 A B) ∧ b.n - 1 + b.m < b.n + b.m ∧ True) ∧ (leb b_1.v 0 = false → ([(24705, HO.blk (Blk.mk (Cont.cells [AV.imm (Cont.vals b.b) b.m none]) 1 1 none (some false) true true)),
(24704, HO.blk (Blk.mk (Cont.cells [AV.imm (Cont.vals b.a) b.n none]) 1 1 none (some false) true true)), (9001, HO.blk (Blk.mk (Cont.vals b.o) 3 b.k none (some true) true false)), (320, HO.blk (Blk.mk
(Cont.cells [AV.full 9001 b.k]) 1 1 none (some false) true true)), (64, HO.blk (Blk.mk (Cont.cells [AV.fn 89 [] []]) 1 1 none (some false) true true)), (9002, HO.loop (LoopS.mk 0 none [(5, AV.ptr 64
0), (9, AV.ptr 320 0), (20, AV.fn 164 [] [AV.ptr 24704 0, AV.ptr 24705 0])] 35 [21, 22] (XC.seq (XC.reg 448 [XO.mk (some 10) (XOp.new (Cont.cells [AV.int IntKind.i64 0, AV.int IntKind.i64 0, AV.int
IntKind.u8 0]) 1 3) none, XO.mk none (XOp.store 3 (Opd.t 10) (Opd.t 21)) none] [20, 21]) (XC.reg 512 [XO.mk (some 11) (XOp.new (Cont.cells [AV.bool false, AV.bool false]) 1 2) none, XO.mk none
(XOp.store 2 (Opd.t 11) (Opd.t 22)) none] [22])) (XC.block 1 (XC.seq (XC.reg 576 [XO.mk (some 23) (XOp.load none (Opd.t 5)) none, XO.mk (some 24) (XOp.load (some 2) (Opd.t 11)) none, XO.mk (some 25)
(XOp.callv (Opd.t 23) [Opd.t 24]) none] [5, 11, 23, 24]) (XC.cond (Opd.t 25) (XC.reg 640 [XO.mk (some 26) (XOp.load none (Opd.t 9)) none, XO.mk (some 27) (XOp.load (some 3) (Opd.t 10)) none, XO.mk
(some 28) (XOp.buildS 3 1 0 [AV.int IntKind.i64 0, AV.int IntKind.i64 0, AV.int IntKind.u8 0] [(0, 3, Opd.t 27)]) none, XO.mk (some 29) (XOp.append 3 24 0 (Opd.t 26) (Opd.t 28)) none, XO.mk none
(XOp.store 1 (Opd.t 9) (Opd.t 29)) none] [10, 25, 26, 27, 28, 29]) XC.skip)))))] = [(24705, HO.blk (Blk.mk (Cont.cells [AV.imm (Cont.vals b.b) b.m none]) 1 1 none (some false) true true)), (24704,
HO.blk (Blk.mk (Cont.cells [AV.imm (Cont.vals b.a) b.n none]) 1 1 none (some false) true true)), (9001, HO.blk (Blk.mk (Cont.vals (flatK (unK b.o))) 3 (List.length (unK b.o)) none (some true) true
false)), (320, HO.blk (Blk.mk (Cont.cells [AV.full 9001 (List.length (unK b.o))]) 1 1 none (some false) true true)), (64, HO.blk (Blk.mk (Cont.cells [AV.fn 89 [] []]) 1 1 none (some false) true
true)), (9002, HO.loop (LoopS.mk 0 none [(5, AV.ptr 64 0), (9, AV.ptr 320 0), (20, AV.fn 164 [] [AV.ptr 24704 0, AV.ptr 24705 0])] 35 [21, 22] (XC.seq (XC.reg 448 [XO.mk (some 10) (XOp.new (Cont.cells
[AV.int IntKind.i64 0, AV.int IntKind.i64 0, AV.int IntKind.u8 0]) 1 3) none, XO.mk none (XOp.store 3 (Opd.t 10) (Opd.t 21)) none] [20, 21]) (XC.reg 512 [XO.mk (some 11) (XOp.new (Cont.cells [AV.bool
false, AV.bool false]) 1 2) none, XO.mk none (XOp.store 2 (Opd.t 11) (Opd.t 22)) none] [22])) (XC.block 1 (XC.seq (XC.reg 576 [XO.mk (some 23) (XOp.load none (Opd.t 5)) none, XO.mk (some 24) (XOp.load
(some 2) (Opd.t 11)) none, XO.mk (some 25) (XOp.callv (Opd.t 23) [Opd.t 24]) none] [5, 11, 23, 24]) (XC.cond (Opd.t 25) (XC.reg 640 [XO.mk (some 26) (XOp.load none (Opd.t 9)) none, XO.mk (some 27)
(XOp.load (some 3) (Opd.t 10)) none, XO.mk (some 28) (XOp.buildS 3 1 0 [AV.int IntKind.i64 0, AV.int IntKind.i64 0, AV.int IntKind.u8 0] [(0, 3, Opd.t 27)]) none, XO.mk (some 29) (XOp.append 3 24 0
(Opd.t 26) (Opd.t 28)) none, XO.mk none (XOp.store 1 (Opd.t 9) (Opd.t 29)) none] [10, 25, 26, 27, 28, 29]) XC.skip)))))] ∧ List.length (unK b.o) < 1000000) ∧ 1 = 1 ∧ Cont.vals b.b = Cont.vals b.b ∧
b.m = b.m ∧ 1 = 1 ∧ Cont.vals b.a = Cont.vals b.a ∧ b.n = b.n ∧ List.length (addK true (unK b.o) (0, 0, 0)) = List.length (addK true (unK b.o) (0, 0, 0)) ∧ flatK (addK true (unK b.o) (0, 0, 0)) =
flatK (addK true (unK b.o) (0, 0, 0)) ∧ 1 = 1 ∧ List.length (addK true (unK b.o) (0, 0, 0)) = List.length (addK true (unK b.o) (0, 0, 0)) ∧ 1 = 1 ∧ 0 = 0 ∧ (none : Option Ex) = none ∧ 35 = 35 ∧ [21,
22] = [21, 22] ∧ XC.seq (XC.reg 448 [XO.mk (some 10) (XOp.new (Cont.cells [AV.int IntKind.i64 0, AV.int IntKind.i64 0, AV.int IntKind.u8 0]) 1 3) none, XO.mk none (XOp.store 3 (Opd.t 10) (Opd.t 21))
none] [20, 21]) (XC.reg 512 [XO.mk (some 11) (XOp.new (Cont.cells [AV.bool false, AV.bool false]) 1 2) none, XO.mk none (XOp.store 2 (Opd.t 11) (Opd.t 22)) none] [22]) = XC.seq (XC.reg 448 [XO.mk
(some 10) (XOp.new (Cont.cells [AV.int IntKind.i64 0, AV.int IntKind.i64 0, AV.int IntKind.u8 0]) 1 3) none, XO.mk none (XOp.store 3 (Opd.t 10) (Opd.t 21)) none] [20, 21]) (XC.reg 512 [XO.mk (some 11)
(XOp.new (Cont.cells [AV.bool false, AV.bool false]) 1 2) none, XO.mk none (XOp.store 2 (Opd.t 11) (Opd.t 22)) none] [22]) ∧ XC.block 1 (XC.seq (XC.reg 576 [XO.mk (some 23) (XOp.load none (Opd.t 5))
none, XO.mk (some 24) (XOp.load (some 2) (Opd.t 11)) none, XO.mk (some 25) (XOp.callv (Opd.t 23) [Opd.t 24]) none] [5, 11, 23, 24]) (XC.cond (Opd.t 25) (XC.reg 640 [XO.mk (some 26) (XOp.load none
(Opd.t 9)) none, XO.mk (some 27) (XOp.load (some 3) (Opd.t 10)) none, XO.mk (some 28) (XOp.buildS 3 1 0 [AV.int IntKind.i64 0, AV.int IntKind.i64 0, AV.int IntKind.u8 0] [(0, 3, Opd.t 27)]) none,
XO.mk (some 29) (XOp.append 3 24 0 (Opd.t 26) (Opd.t 28)) none, XO.mk none (XOp.store 1 (Opd.t 9) (Opd.t 29)) none] [10, 25, 26, 27, 28, 29]) XC.skip)) = XC.block 1 (XC.seq (XC.reg 576 [XO.mk (some
23) (XOp.load none (Opd.t 5)) none, XO.mk (some 24) (XOp.load (some 2) (Opd.t 11)) none, XO.mk (some 25) (XOp.callv (Opd.t 23) [Opd.t 24]) none] [5, 11, 23, 24]) (XC.cond (Opd.t 25) (XC.reg 640 [XO.mk
(some 26) (XOp.load none (Opd.t 9)) none, XO.mk (some 27) (XOp.load (some 3) (Opd.t 10)) none, XO.mk (some 28) (XOp.buildS 3 1 0 [AV.int IntKind.i64 0, AV.int IntKind.i64 0, AV.int IntKind.u8 0] [(0,
3, Opd.t 27)]) none, XO.mk (some 29) (XOp.append 3 24 0 (Opd.t 26) (Opd.t 28)) none, XO.mk none (XOp.store 1 (Opd.t 9) (Opd.t 29)) none] [10, 25, 26, 27, 28, 29]) XC.skip)) ∧ 0 = 0 ∧ 0 = 0 ∧ 0 = 0 ∧ 0
= 0 ∧ 0 = 0 ∧ 0 = 0 ∧ (∃ (a : List Cl), ∃ (b_2 : List Cl), ∃ (o : List Cl), b.a = flatK a ∧ b.n = List.length a ∧ b.b = flatK b_2 ∧ b.m = List.length b_2 ∧ flatK (addK true (unK b.o) (0, 0, 0)) =
flatK o ∧ List.length (addK true (unK b.o) (0, 0, 0)) = List.length o ∧ okQ a ∧ okQ b_2 ∧ List.length o + List.length a + List.length b_2 ≤ List.length A + List.length B ∧ o ++ mrg 89 a b_2 = mrg 89 A
B) ∧ b.n + b.m < b.n + b.m ∧ True))) ∧ (ltb 0 ((↑b.n : Int) + (↑b.m : Int)) = false → 1 = 1 ∧ Cont.vals b.b = Cont.vals [] ∧ b.m = 0 ∧ 1 = 1 ∧ Cont.vals b.a = Cont.vals [] ∧ b.n = 0 ∧ b.k =
List.length (mrg 89 A B) ∧ b.o = flatK (mrg 89 A B) ∧ 1 = 1 ∧ b.k = List.length (mrg 89 A B) ∧ 1 = 1 ∧ 0 = 0 ∧ (none : Option Ex) = none ∧ 35 = 35 ∧ [21, 22] = [21, 22] ∧ XC.seq (XC.reg 448 [XO.mk
(some 10) (XOp.new (Cont.cells [AV.int IntKind.i64 0, AV.int IntKind.i64 0, AV.int IntKind.u8 0]) 1 3) none, XO.mk none (XOp.store 3 (Opd.t 10) (Opd.t 21)) none] [20, 21]) (XC.reg 512 [XO.mk (some 11)
(XOp.new (Cont.cells [AV.bool false, AV.bool false]) 1 2) none, XO.mk none (XOp.store 2 (Opd.t 11) (Opd.t 22)) none] [22]) = XC.seq (XC.reg 448 [XO.mk (some 10) (XOp.new (Cont.cells [AV.int
IntKind.i64 0, AV.int IntKind.i64 0, AV.int IntKind.u8 0]) 1 3) none, XO.mk none (XOp.store 3 (Opd.t 10) (Opd.t 21)) none] [20, 21]) (XC.reg 512 [XO.mk (some 11) (XOp.new (Cont.cells [AV.bool false,
AV.bool false]) 1 2) none, XO.mk none (XOp.store 2 (Opd.t 11) (Opd.t 22)) none] [22]) ∧ XC.block 1 (XC.seq (XC.reg 576 [XO.mk (some 23) (XOp.load none (Opd.t 5)) none, XO.mk (some 24) (XOp.load (some
2) (Opd.t 11)) none, XO.mk (some 25) (XOp.callv (Opd.t 23) [Opd.t 24]) none] [5, 11, 23, 24]) (XC.cond (Opd.t 25) (XC.reg 640 [XO.mk (some 26) (XOp.load none (Opd.t 9)) none, XO.mk (some 27) (XOp.load
(some 3) (Opd.t 10)) none, XO.mk (some 28) (XOp.buildS 3 1 0 [AV.int IntKind.i64 0, AV.int IntKind.i64 0, AV.int IntKind.u8 0] [(0, 3, Opd.t 27)]) none, XO.mk (some 29) (XOp.append 3 24 0 (Opd.t 26)
(Opd.t 28)) none, XO.mk none (XOp.store 1 (Opd.t 9) (Opd.t 29)) none] [10, 25, 26, 27, 28, 29]) XC.skip)) = XC.block 1 (XC.seq (XC.reg 576 [XO.mk (some 23) (XOp.load none (Opd.t 5)) none, XO.mk (some
24) (XOp.load (some 2) (Opd.t 11)) none, XO.mk (some 25) (XOp.callv (Opd.t 23) [Opd.t 24]) none] [5, 11, 23, 24]) (XC.cond (Opd.t 25) (XC.reg 640 [XO.mk (some 26) (XOp.load none (Opd.t 9)) none, XO.mk
(some 27) (XOp.load (some 3) (Opd.t 10)) none, XO.mk (some 28) (XOp.buildS 3 1 0 [AV.int IntKind.i64 0, AV.int IntKind.i64 0, AV.int IntKind.u8 0] [(0, 3, Opd.t 27)]) none, XO.mk (some 29) (XOp.append
3 24 0 (Opd.t 26) (Opd.t 28)) none, XO.mk none (XOp.store 1 (Opd.t 9) (Opd.t 29)) none] [10, 25, 26, 27, 28, 29]) XC.skip)) ∧ 0 = 0 ∧ 0 = 0 ∧ 0 = 0 ∧ 0 = 0 ∧ True)) := by kernel_rfl

theorem ob_d_164_90 (A B : List Cl) : fnD (TY88 90) G 10000 (fe164) (.lp (l164 90 A B) [] [] (fun b => (.r [] 3 (.cnd (.r [] 0 (.jn (jI 4 IntKind.i64 (ordV b.a b.n b.b b.m)) [] [] (.r [] 1 (.cnd (.r [] 0 .nil) (.r [] 1 (.cnd (.r [] 0 .nil) (.r [(194, .auto, Dr.val (kV (unK b.a) 0)), (197, .auto, Dr.val (kV (unK b.b) 0))] 387 .nil))))) (fun b_1 => (.r [] 1 (.r [] 0 (.r [] 1 (.cnd (.r [(706, .auto, Dr.val (kV (unK b.b) 0))] 6531 (.r [] 1 (.cnd (.r [(834, .auto, Dr.val (kV (unK b.a) 0))] 6531 (.r [(899, .auto, Dr.heap)] 3 (.lit .nil))) (.r [(899, .auto, Dr.heap)] 3 (.lit .nil))))) (.r [] 1 (.cnd (.r [(834, .auto, Dr.val (kV (unK b.a) 0))] 6531 (.r [(899, .auto, Dr.heap)] 3 (.lit .nil))) (.r [(899, .auto, Dr.heap)] 3 (.lit .nil))))))))))) .nil)))) ([.yld 9002, .ptr 24704 0, .ptr 24705 0]) (H88e 90 A B) ([]) ([(24705, .blk (bxB [] 0)), (24704, .blk (bxB [] 0)), (9001, row88 (mrg 90 A B)), (320, bxO (.full 9001 (mrg 90 A B).length))]) = (
1 = 1 ∧ Cont.vals (flatK B) = Cont.vals (flatK B) ∧ List.length B = List.length B ∧ 1 = 1 ∧ Cont.vals (flatK A) = Cont.vals (flatK A) ∧ List.length A = List.length A ∧ 0 = 0 ∧ ([] : List AV) = [] ∧ 1
= 1 ∧ 0 = 0 ∧ 1 = 1 ∧ 0 = 0 ∧ (none : Option Ex) = none ∧ 35 = 35 ∧ [21, 22] = [21, 22] ∧ XC.seq (XC.reg 448 [XO.mk (some 10) (XOp.new (Cont.cells [AV.int IntKind.i64 0, AV.int IntKind.i64 0, AV.int
IntKind.u8 0]) 1 3) none, XO.mk none (XOp.store 3 (Opd.t 10) (Opd.t 21)) none] [20, 21]) (XC.reg 512 [XO.mk (some 11) (XOp.new (Cont.cells [AV.bool false, AV.bool false]) 1 2) none, XO.mk none
(XOp.store 2 (Opd.t 11) (Opd.t 22)) none] [22]) = XC.seq (XC.reg 448 [XO.mk (some 10) (XOp.new (Cont.cells [AV.int IntKind.i64 0, AV.int IntKind.i64 0, AV.int IntKind.u8 0]) 1 3) none, XO.mk none
(XOp.store 3 (Opd.t 10) (Opd.t 21)) none] [20, 21]) (XC.reg 512 [XO.mk (some 11) (XOp.new (Cont.cells [AV.bool false, AV.bool false]) 1 2) none, XO.mk none (XOp.store 2 (Opd.t 11) (Opd.t 22)) none]
[22]) ∧ XC.block 1 (XC.seq (XC.reg 576 [XO.mk (some 23) (XOp.load none (Opd.t 5)) none, XO.mk (some 24) (XOp.load (some 2) (Opd.t 11)) none, XO.mk (some 25) (XOp.callv (Opd.t 23) [Opd.t 24]) none] [5,
11, 23, 24]) (XC.cond (Opd.t 25) (XC.reg 640 [XO.mk (some 26) (XOp.load none (Opd.t 9)) none, XO.mk (some 27) (XOp.load (some 3) (Opd.t 10)) none, XO.mk (some 28) (XOp.buildS 3 1 0 [AV.int IntKind.i64
0, AV.int IntKind.i64 0, AV.int IntKind.u8 0] [(0, 3, Opd.t 27)]) none, XO.mk (some 29) (XOp.append 3 24 0 (Opd.t 26) (Opd.t 28)) none, XO.mk none (XOp.store 1 (Opd.t 9) (Opd.t 29)) none] [10, 25, 26,
27, 28, 29]) XC.skip)) = XC.block 1 (XC.seq (XC.reg 576 [XO.mk (some 23) (XOp.load none (Opd.t 5)) none, XO.mk (some 24) (XOp.load (some 2) (Opd.t 11)) none, XO.mk (some 25) (XOp.callv (Opd.t 23)
[Opd.t 24]) none] [5, 11, 23, 24]) (XC.cond (Opd.t 25) (XC.reg 640 [XO.mk (some 26) (XOp.load none (Opd.t 9)) none, XO.mk (some 27) (XOp.load (some 3) (Opd.t 10)) none, XO.mk (some 28) (XOp.buildS 3 1
0 [AV.int IntKind.i64 0, AV.int IntKind.i64 0, AV.int IntKind.u8 0] [(0, 3, Opd.t 27)]) none, XO.mk (some 29) (XOp.append 3 24 0 (Opd.t 26) (Opd.t 28)) none, XO.mk none (XOp.store 1 (Opd.t 9) (Opd.t
29)) none] [10, 25, 26, 27, 28, 29]) XC.skip)) ∧ 0 = 0 ∧ 0 = 0 ∧ 0 = 0 ∧ 0 = 0 ∧ 0 = 0 ∧ 0 = 0 ∧ (∃ (a : List Cl), ∃ (b : List Cl), ∃ (o : List Cl), flatK A = flatK a ∧ List.length A = List.length a ∧
flatK B = flatK b ∧ List.length B = List.length b ∧ [] = flatK o ∧ 0 = List.length o ∧ okQ a ∧ okQ b ∧ List.length o + List.length a + List.length b ≤ List.length A + List.length B ∧ o ++ mrg 90 a b =
mrg 90 A B) ∧ ∀ (b : L164), (∃ (a : List Cl), ∃ (b_1 : List Cl), ∃ (o : List Cl), b.a = flatK a ∧ b.n = List.length a ∧ b.b = flatK b_1 ∧ b.m = List.length b_1 ∧ b.o = flatK o ∧ b.k = List.length o ∧
okQ a ∧ okQ b_1 ∧ List.length o + List.length a + List.length b_1 ≤ List.length A + List.length B ∧ o ++ mrg 90 a b_1 = mrg 90 A B) → inR IntKind.i64 ((↑b.n : Int) + (↑b.m : Int)) = true ∧ (ltb 0
((↑b.n : Int) + (↑b.m : Int)) = true → ((((↑b.n : Int) == 0) = true → 1 = 1 ∧ Cont.vals b.b = Cont.vals b.b ∧ b.m = b.m ∧ 1 = 1 ∧ Cont.vals b.a = Cont.vals b.a ∧ b.n = b.n ∧ b.k = b.k ∧ b.o = b.o ∧ 1
= 1 ∧ b.k = b.k ∧ 1 = 1 ∧ 0 = 0 ∧ (none : Option Ex) = none ∧ 35 = 35 ∧ [21, 22] = [21, 22] ∧ XC.seq (XC.reg 448 [XO.mk (some 10) (XOp.new (Cont.cells [AV.int IntKind.i64 0, AV.int IntKind.i64 0,
AV.int IntKind.u8 0]) 1 3) none, XO.mk none (XOp.store 3 (Opd.t 10) (Opd.t 21)) none] [20, 21]) (XC.reg 512 [XO.mk (some 11) (XOp.new (Cont.cells [AV.bool false, AV.bool false]) 1 2) none, XO.mk none
(XOp.store 2 (Opd.t 11) (Opd.t 22)) none] [22]) = XC.seq (XC.reg 448 [XO.mk (some 10) (XOp.new (Cont.cells [AV.int IntKind.i64 0, AV.int IntKind.i64 0, AV.int IntKind.u8 0]) 1 3) none, XO.mk none
(XOp.store 3 (Opd.t 10) (Opd.t 21)) none] [20, 21]) (XC.reg 512 [XO.mk (some 11) (XOp.new (Cont.cells [AV.bool false, AV.bool false]) 1 2) none, XO.mk none (XOp.store 2 (Opd.t 11) (Opd.t 22)) none]
[22]) ∧ XC.block 1 (XC.seq (XC.reg 576 [XO.mk (some 23) (XOp.load none (Opd.t 5)) none, XO.mk (some 24) (XOp.load (some 2) (Opd.t 11)) none, XO.mk (some 25) (XOp.callv (Opd.t 23) [Opd.t 24]) none] [5,
11, 23, 24]) (XC.cond (Opd.t 25) (XC.reg 640 [XO.mk (some 26) (XOp.load none (Opd.t 9)) none, XO.mk (some 27) (XOp.load (some 3) (Opd.t 10)) none, XO.mk (some 28) (XOp.buildS 3 1 0 [AV.int IntKind.i64
0, AV.int IntKind.i64 0, AV.int IntKind.u8 0] [(0, 3, Opd.t 27)]) none, XO.mk (some 29) (XOp.append 3 24 0 (Opd.t 26) (Opd.t 28)) none, XO.mk none (XOp.store 1 (Opd.t 9) (Opd.t 29)) none] [10, 25, 26,
27, 28, 29]) XC.skip)) = XC.block 1 (XC.seq (XC.reg 576 [XO.mk (some 23) (XOp.load none (Opd.t 5)) none, XO.mk (some 24) (XOp.load (some 2) (Opd.t 11)) none, XO.mk (some 25) (XOp.callv (Opd.t 23)
[Opd.t 24]) none] [5, 11, 23, 24]) (XC.cond (Opd.t 25) (XC.reg 640 [XO.mk (some 26) (XOp.load none (Opd.t 9)) none, XO.mk (some 27) (XOp.load (some 3) (Opd.t 10)) none, XO.mk (some 28) (XOp.buildS 3 1
0 [AV.int IntKind.i64 0, AV.int IntKind.i64 0, AV.int IntKind.u8 0] [(0, 3, Opd.t 27)]) none, XO.mk (some 29) (XOp.append 3 24 0 (Opd.t 26) (Opd.t 28)) none, XO.mk none (XOp.store 1 (Opd.t 9) (Opd.t
29)) none] [10, 25, 26, 27, 28, 29]) XC.skip)) ∧ 0 = 0 ∧ 0 = 0 ∧ 0 = 0 ∧ 0 = 0 ∧ 0 = 0 ∧ 0 = 0 ∧ iI 1 = 1 ∧ 1 = ordV b.a b.n b.b b.m ∧ True) ∧ (((↑b.n : Int) == 0) = false → (((↑b.m : Int) == 0) =
true → 1 = 1 ∧ Cont.vals b.b = Cont.vals b.b ∧ b.m = b.m ∧ 1 = 1 ∧ Cont.vals b.a = Cont.vals b.a ∧ b.n = b.n ∧ b.k = b.k ∧ b.o = b.o ∧ 1 = 1 ∧ b.k = b.k ∧ 1 = 1 ∧ 0 = 0 ∧ (none : Option Ex) = none ∧
35 = 35 ∧ [21, 22] = [21, 22] ∧ XC.seq (XC.reg 448 [XO.mk (some 10) (XOp.new (Cont.cells [AV.int IntKind.i64 0, AV.int IntKind.i64 0, AV.int IntKind.u8 0]) 1 3) none, XO.mk none (XOp.store 3 (Opd.t
10) (Opd.t 21)) none] [20, 21]) (XC.reg 512 [XO.mk (some 11) (XOp.new (Cont.cells [AV.bool false, AV.bool false]) 1 2) none, XO.mk none (XOp.store 2 (Opd.t 11) (Opd.t 22)) none] [22]) = XC.seq (XC.reg
448 [XO.mk (some 10) (XOp.new (Cont.cells [AV.int IntKind.i64 0, AV.int IntKind.i64 0, AV.int IntKind.u8 0]) 1 3) none, XO.mk none (XOp.store 3 (Opd.t 10) (Opd.t 21)) none] [20, 21]) (XC.reg 512
[XO.mk (some 11) (XOp.new (Cont.cells [AV.bool false, AV.bool false]) 1 2) none, XO.mk none (XOp.store 2 (Opd.t 11) (Opd.t 22)) none] [22]) ∧ XC.block 1 (XC.seq (XC.reg 576 [XO.mk (some 23) (XOp.load
none (Opd.t 5)) none, XO.mk (some 24) (XOp.load (some 2) (Opd.t 11)) none, XO.mk (some 25) (XOp.callv (Opd.t 23) [Opd.t 24]) none] [5, 11, 23, 24]) (XC.cond (Opd.t 25) (XC.reg 640 [XO.mk (some 26)
(XOp.load none (Opd.t 9)) none, XO.mk (some 27) (XOp.load (some 3) (Opd.t 10)) none, XO.mk (some 28) (XOp.buildS 3 1 0 [AV.int IntKind.i64 0, AV.int IntKind.i64 0, AV.int IntKind.u8 0] [(0, 3, Opd.t
27)]) none, XO.mk (some 29) (XOp.append 3 24 0 (Opd.t 26) (Opd.t 28)) none, XO.mk none (XOp.store 1 (Opd.t 9) (Opd.t 29)) none] [10, 25, 26, 27, 28, 29]) XC.skip)) = XC.block 1 (XC.seq (XC.reg 576
[XO.mk (some 23) (XOp.load none (Opd.t 5)) none, XO.mk (some 24) (XOp.load (some 2) (Opd.t 11)) none, XO.mk (some 25) (XOp.callv (Opd.t 23) [Opd.t 24]) none] [5, 11, 23, 24]) (XC.cond (Opd.t 25)
(XC.reg 640 [XO.mk (some 26) (XOp.load none (Opd.t 9)) none, XO.mk (some 27) (XOp.load (some 3) (Opd.t 10)) none, XO.mk (some 28) (XOp.buildS 3 1 0 [AV.int IntKind.i64 0, AV.int IntKind.i64 0, AV.int
IntKind.u8 0] [(0, 3, Opd.t 27)]) none, XO.mk (some 29) (XOp.append 3 24 0 (Opd.t 26) (Opd.t 28)) none, XO.mk none (XOp.store 1 (Opd.t 9) (Opd.t 29)) none] [10, 25, 26, 27, 28, 29]) XC.skip)) ∧ 0 = 0
∧ 0 = 0 ∧ 0 = 0 ∧ 0 = 0 ∧ 0 = 0 ∧ 0 = 0 ∧ iI (-1) = -1 ∧ -1 = ordV b.a b.n b.b b.m ∧ True) ∧ (((↑b.m : Int) == 0) = false → ltb 0 (↑b.n : Int) = true ∧ ltn 0 (Cont.size (Cont.vals b.a)) = true ∧
(List.drop 0 b.a)[0]? = some (AV.int IntKind.i64 (kX (unK b.a) 0)) ∧ (List.drop 0 b.a)[1]? = some (AV.int IntKind.i64 (kY (unK b.a) 0)) ∧ (List.drop 0 b.a)[2]? = some (AV.int IntKind.u8 (kQ (unK b.a)
0)) ∧ ltb 0 (↑b.m : Int) = true ∧ ltn 0 (Cont.size (Cont.vals b.b)) = true ∧ (List.drop 0 b.b)[0]? = some (AV.int IntKind.i64 (kX (unK b.b) 0)) ∧ (List.drop 0 b.b)[1]? = some (AV.int IntKind.i64 (kY
(unK b.b) 0)) ∧ (List.drop 0 b.b)[2]? = some (AV.int IntKind.u8 (kQ (unK b.b) 0)) ∧ (0 ≤ kQ (unK b.a) 0 ∧ kQ (unK b.a) 0 ≤ 255 ∧ 0 ≤ kQ (unK b.b) 0 ∧ kQ (unK b.b) 0 ≤ 255) ∧ 1 = 1 ∧ Cont.vals b.b =
Cont.vals b.b ∧ b.m = b.m ∧ 1 = 1 ∧ Cont.vals b.a = Cont.vals b.a ∧ b.n = b.n ∧ b.k = b.k ∧ b.o = b.o ∧ 1 = 1 ∧ b.k = b.k ∧ 1 = 1 ∧ 0 = 0 ∧ (none : Option Ex) = none ∧ 35 = 35 ∧ [21, 22] = [21, 22] ∧
XC.seq (XC.reg 448 [XO.mk (some 10) (XOp.new (Cont.cells [AV.int IntKind.i64 0, AV.int IntKind.i64 0, AV.int IntKind.u8 0]) 1 3) none, XO.mk none (XOp.store 3 (Opd.t 10) (Opd.t 21)) none] [20, 21])
(XC.reg 512 [XO.mk (some 11) (XOp.new (Cont.cells [AV.bool false, AV.bool false]) 1 2) none, XO.mk none (XOp.store 2 (Opd.t 11) (Opd.t 22)) none] [22]) = XC.seq (XC.reg 448 [XO.mk (some 10) (XOp.new
(Cont.cells [AV.int IntKind.i64 0, AV.int IntKind.i64 0, AV.int IntKind.u8 0]) 1 3) none, XO.mk none (XOp.store 3 (Opd.t 10) (Opd.t 21)) none] [20, 21]) (XC.reg 512 [XO.mk (some 11) (XOp.new
(Cont.cells [AV.bool false, AV.bool false]) 1 2) none, XO.mk none (XOp.store 2 (Opd.t 11) (Opd.t 22)) none] [22]) ∧ XC.block 1 (XC.seq (XC.reg 576 [XO.mk (some 23) (XOp.load none (Opd.t 5)) none,
XO.mk (some 24) (XOp.load (some 2) (Opd.t 11)) none, XO.mk (some 25) (XOp.callv (Opd.t 23) [Opd.t 24]) none] [5, 11, 23, 24]) (XC.cond (Opd.t 25) (XC.reg 640 [XO.mk (some 26) (XOp.load none (Opd.t 9))
none, XO.mk (some 27) (XOp.load (some 3) (Opd.t 10)) none, XO.mk (some 28) (XOp.buildS 3 1 0 [AV.int IntKind.i64 0, AV.int IntKind.i64 0, AV.int IntKind.u8 0] [(0, 3, Opd.t 27)]) none, XO.mk (some 29)
(XOp.append 3 24 0 (Opd.t 26) (Opd.t 28)) none, XO.mk none (XOp.store 1 (Opd.t 9) (Opd.t 29)) none] [10, 25, 26, 27, 28, 29]) XC.skip)) = XC.block 1 (XC.seq (XC.reg 576 [XO.mk (some 23) (XOp.load none
(Opd.t 5)) none, XO.mk (some 24) (XOp.load (some 2) (Opd.t 11)) none, XO.mk (some 25) (XOp.callv (Opd.t 23) [Opd.t 24]) none] [5, 11, 23, 24]) (XC.cond (Opd.t 25) (XC.reg 640 [XO.mk (some 26)
(XOp.load none (Opd.t 9)) none, XO.mk (some 27) (XOp.load (some 3) (Opd.t 10)) none, XO.mk (some 28) (XOp.buildS 3 1 0 [AV.int IntKind.i64 0, AV.int IntKind.i64 0, AV.int IntKind.u8 0] [(0, 3, Opd.t
27)]) none, XO.mk (some 29) (XOp.append 3 24 0 (Opd.t 26) (Opd.t 28)) none, XO.mk none (XOp.store 1 (Opd.t 9) (Opd.t 29)) none] [10, 25, 26, 27, 28, 29]) XC.skip)) ∧ 0 = 0 ∧ 0 = 0 ∧ 0 = 0 ∧ 0 = 0 ∧ 0
= 0 ∧ 0 = 0 ∧ cmpC (kX (unK b.a) 0, kY (unK b.a) 0, kQ (unK b.a) 0) (kX (unK b.b) 0, kY (unK b.b) 0, kQ (unK b.b) 0) = cmpC (kX (unK b.a) 0, kY (unK b.a) 0, kQ (unK b.a) 0) (kX (unK b.b) 0, kY (unK
b.b) 0, kQ (unK b.b) 0) ∧ cmpC (kX (unK b.a) 0, kY (unK b.a) 0, kQ (unK b.a) 0) (kX (unK b.b) 0, kY (unK b.b) 0, kQ (unK b.b) 0) = ordV b.a b.n b.b b.m ∧ True))) ∧ ∀ (b_1 : VI), b_1.v = ordV b.a b.n
b.b b.m → (leb 0 b_1.v = true → ltb 0 (↑b.m : Int) = true ∧ ltn 0 (Cont.size (Cont.vals b.b)) = true ∧ (List.drop 0 b.b)[0]? = some (AV.int IntKind.i64 (kX (unK b.b) 0)) ∧ (List.drop 0 b.b)[1]? = some
(AV.int IntKind.i64 (kY (unK b.b) 0)) ∧ (List.drop 0 b.b)[2]? = some (AV.int IntKind.u8 (kQ (unK b.b) 0)) ∧ len' 1 b.m = true ∧ Cont.size (Cont.vals b.b) = b.m * 3 ∧ (leb b_1.v 0 = true → ltb 0 (↑b.n
: Int) = true ∧ ltn 0 (Cont.size (Cont.vals b.a)) = true ∧ (List.drop 0 b.a)[0]? = some (AV.int IntKind.i64 (kX (unK b.a) 0)) ∧ (List.drop 0 b.a)[1]? = some (AV.int IntKind.i64 (kY (unK b.a) 0)) ∧
(List.drop 0 b.a)[2]? = some (AV.int IntKind.u8 (kQ (unK b.a) 0)) ∧ len' 1 b.n = true ∧ Cont.size (Cont.vals b.a) = b.n * 3 ∧ ([(24705, HO.blk (Blk.mk (Cont.cells [AV.imm (Cont.vals (List.drop 3 b.b))
(b.m - 1) none]) 1 1 none (some false) true true)), (24704, HO.blk (Blk.mk (Cont.cells [AV.imm (Cont.vals (List.drop 3 b.a)) (b.n - 1) none]) 1 1 none (some false) true true)), (9001, HO.blk (Blk.mk
(Cont.vals b.o) 3 b.k none (some true) true false)), (320, HO.blk (Blk.mk (Cont.cells [AV.full 9001 b.k]) 1 1 none (some false) true true)), (64, HO.blk (Blk.mk (Cont.cells [AV.fn 90 [] []]) 1 1 none
(some false) true true)), (9002, HO.loop (LoopS.mk 0 none [(5, AV.ptr 64 0), (9, AV.ptr 320 0), (20, AV.fn 164 [] [AV.ptr 24704 0, AV.ptr 24705 0])] 35 [21, 22] (XC.seq (XC.reg 448 [XO.mk (some 10)
(XOp.new (Cont.cells [AV.int IntKind.i64 0, AV.int IntKind.i64 0, AV.int IntKind.u8 0]) 1 3) none, XO.mk none (XOp.store 3 (Opd.t 10) (Opd.t 21)) none] [20, 21]) (XC.reg 512 [XO.mk (some 11) (XOp.new
(Cont.cells [AV.bool false, AV.bool false]) 1 2) none, XO.mk none (XOp.store 2 (Opd.t 11) (Opd.t 22)) none] [22])) (XC.block 1 (XC.seq (XC.reg 576 [XO.mk (some 23) (XOp.load none (Opd.t 5)) none,
XO.mk (some 24) (XOp.load (some 2) (Opd.t 11)) none, XO.mk (some 25) (XOp.callv (Opd.t 23) [Opd.t 24]) none] [5, 11, 23, 24]) (XC.cond (Opd.t 25) (XC.reg 640 [XO.mk (some 26) (XOp.load none (Opd.t 9))
none, XO.mk (some 27) (XOp.load (some 3) (Opd.t 10)) none, XO.mk (some 28) (XOp.buildS 3 1 0 [AV.int IntKind.i64 0, AV.int IntKind.i64 0, AV.int IntKind.u8 0] [(0, 3, Opd.t 27)]) none, XO.mk (some 29)
(XOp.append 3 24 0 (Opd.t 26) (Opd.t 28)) none, XO.mk none (XOp.store 1 (Opd.t 9) (Opd.t 29)) none] [10, 25, 26, 27, 28, 29]) XC.skip)))))] = [(24705, HO.blk (Blk.mk (Cont.cells [AV.imm (Cont.vals
(List.drop 3 b.b)) (b.m - 1) none]) 1 1 none (some false) true true)), (24704, HO.blk (Blk.mk (Cont.cells [AV.imm (Cont.vals (List.drop 3 b.a)) (b.n - 1) none]) 1 1 none (some false) true true)),
(9001, HO.blk (Blk.mk (Cont.vals (flatK (unK b.o))) 3 (List.length (unK b.o)) none (some true) true false)), (320, HO.blk (Blk.mk (Cont.cells [AV.full 9001 (List.length (unK b.o))]) 1 1 none (some
false) true true)), (64, HO.blk (Blk.mk (Cont.cells [AV.fn 90 [] []]) 1 1 none (some false) true true)), (9002, HO.loop (LoopS.mk 0 none [(5, AV.ptr 64 0), (9, AV.ptr 320 0), (20, AV.fn 164 [] [AV.ptr
24704 0, AV.ptr 24705 0])] 35 [21, 22] (XC.seq (XC.reg 448 [XO.mk (some 10) (XOp.new (Cont.cells [AV.int IntKind.i64 0, AV.int IntKind.i64 0, AV.int IntKind.u8 0]) 1 3) none, XO.mk none (XOp.store 3
(Opd.t 10) (Opd.t 21)) none] [20, 21]) (XC.reg 512 [XO.mk (some 11) (XOp.new (Cont.cells [AV.bool false, AV.bool false]) 1 2) none, XO.mk none (XOp.store 2 (Opd.t 11) (Opd.t 22)) none] [22]))
(XC.block 1 (XC.seq (XC.reg 576 [XO.mk (some 23) (XOp.load none (Opd.t 5)) none, XO.mk (some 24) (XOp.load (some 2) (Opd.t 11)) none, XO.mk (some 25) (XOp.callv (Opd.t 23) [Opd.t 24]) none] [5, 11,
23, 24]) (XC.cond (Opd.t 25) (XC.reg 640 [XO.mk (some 26) (XOp.load none (Opd.t 9)) none, XO.mk (some 27) (XOp.load (some 3) (Opd.t 10)) none, XO.mk (some 28) (XOp.buildS 3 1 0 [AV.int IntKind.i64 0,
AV.int IntKind.i64 0, AV.int IntKind.u8 0] [(0, 3, Opd.t 27)]) none, XO.mk (some 29) (XOp.append 3 24 0 (Opd.t 26) (Opd.t 28)) none, XO.mk none (XOp.store 1 (Opd.t 9) (Opd.t 29)) none] [10, 25, 26,
27, 28, 29]) XC.skip)))))] ∧ List.length (unK b.o) < 1000000) ∧ 1 = 1 ∧ Cont.vals (List.drop 3 b.b) = Cont.vals (List.drop 3 b.b) ∧ b.m - 1 = b.m - 1 ∧ 1 = 1 ∧ Cont.vals (List.drop 3 b.a) = Cont.vals
(List.drop 3 b.a) ∧ b.n - 1 = b.n - 1 ∧ List.length (addK (kpF 90 (leb b_1.v 0) (leb 0 b_1.v)) (unK b.o) (kX (unK b.a) 0, kY (unK b.a) 0, kQ (unK b.a) 0)) = List.length (addK (kpF 90 (leb b_1.v 0)
(leb 0 b_1.v)) (unK b.o) (kX (unK b.a) 0, kY (unK b.a) 0, kQ (unK b.a) 0)) ∧ flatK (addK (kpF 90 (leb b_1.v 0) (leb 0 b_1.v)) (unK b.o) (kX (unK b.a) 0, kY (unK b.a) 0, kQ (unK b.a) 0)) = flatK (addK
(kpF 90 (leb b_1.v 0) (leb 0 b_1.v)) (unK b.o) (kX (unK b.a) 0, kY (unK b.a) 0, kQ (unK b.a) 0)) ∧ 1 = 1 ∧ List.length (addK (kpF 90 (leb b_1.v 0) (leb 0 b_1.v)) (unK b.o) (kX (unK b.a) 0, kY (unK
b.a) 0, kQ (unK b.a) 0)) = List.length (addK (kpF 90 (leb b_1.v 0) (leb 0 b_1.v)) (unK b.o) (kX (unK b.a) 0, kY (unK b.a) 0, kQ (unK b.a) 0)) ∧ 1 = 1 ∧ 0 = 0 ∧ (none : Option Ex) = none ∧ 35 = 35 ∧
[21, 22] = [21, 22] ∧ XC.seq (XC.reg 448 [XO.mk (some 10) (XOp.new (Cont.cells [AV.int IntKind.i64 0, AV.int IntKind.i64 0, AV.int IntKind.u8 0]) 1 3) none, XO.mk none (XOp.store 3 (Opd.t 10) (Opd.t
21)) none] [20, 21]) (XC.reg 512 [XO.mk (some 11) (XOp.new (Cont.cells [AV.bool false, AV.bool false]) 1 2) none, XO.mk none (XOp.store 2 (Opd.t 11) (Opd.t 22)) none] [22]) = XC.seq (XC.reg 448 [XO.mk
(some 10) (XOp.new (Cont.cells [AV.int IntKind.i64 0, AV.int IntKind.i64 0, AV.int IntKind.u8 0]) 1 3) none, XO.mk none (XOp.store 3 (Opd.t 10) (Opd.t 21)) none] [20, 21]) (XC.reg 512 [XO.mk (some 11)
(XOp.new (Cont.cells [AV.bool false, AV.bool false]) 1 2) none, XO.mk none (XOp.store 2 (Opd.t 11) (Opd.t 22)) none] [22]) ∧ XC.block 1 (XC.seq (XC.reg 576 [XO.mk (some 23) (XOp.load none (Opd.t 5))
none, XO.mk (some 24) (XOp.load (some 2) (Opd.t 11)) none, XO.mk (some 25) (XOp.callv (Opd.t 23) [Opd.t 24]) none] [5, 11, 23, 24]) (XC.cond (Opd.t 25) (XC.reg 640 [XO.mk (some 26) (XOp.load none
(Opd.t 9)) none, XO.mk (some 27) (XOp.load (some 3) (Opd.t 10)) none, XO.mk (some 28) (XOp.buildS 3 1 0 [AV.int IntKind.i64 0, AV.int IntKind.i64 0, AV.int IntKind.u8 0] [(0, 3, Opd.t 27)]) none,
XO.mk (some 29) (XOp.append 3 24 0 (Opd.t 26) (Opd.t 28)) none, XO.mk none (XOp.store 1 (Opd.t 9) (Opd.t 29)) none] [10, 25, 26, 27, 28, 29]) XC.skip)) = XC.block 1 (XC.seq (XC.reg 576 [XO.mk (some
23) (XOp.load none (Opd.t 5)) none, XO.mk (some 24) (XOp.load (some 2) (Opd.t 11)) none, XO.mk (some 25) (XOp.callv (Opd.t 23) [Opd.t 24]) none] [5, 11, 23, 24]) (XC.cond (Opd.t 25) (XC.reg 640 [XO.mk
(some 26) (XOp.load none (Opd.t 9)) none, XO.mk (some 27) (XOp.load (some 3) (Opd.t 10)) none, XO.mk (some 28) (XOp.buildS 3 1 0 [AV.int IntKind.i64 0, AV.int IntKind.i64 0, AV.int IntKind.u8 0] [(0,
3, Opd.t 27)]) none, XO.mk (some 29) (XOp.append 3 24 0 (Opd.t 26) (Opd.t 28)) none, XO.mk none (XOp.store 1 (Opd.t 9) (Opd.t 29)) none] [10, 25, 26, 27, 28, 29]) XC.skip)) ∧ 0 = 0 ∧ 0 = 0 ∧ 0 = 0 ∧ 0
= 0 ∧ 0 = 0 ∧ 0 = 0 ∧ (∃ (a : List Cl), ∃ (b_2 : List Cl), ∃ (o : List Cl), List.drop 3 b.a = flatK a ∧ b.n - 1 = List.length a ∧ List.drop 3 b.b = flatK b_2 ∧ b.m - 1 = List.length b_2 ∧ flatK (addK
(kpF 90 (leb b_1.v 0) (leb 0 b_1.v)) (unK b.o) (kX (unK b.a) 0, kY (unK b.a) 0, kQ (unK b.a) 0)) = flatK o ∧ List.length (addK (kpF 90 (leb b_1.v 0) (leb 0 b_1.v)) (unK b.o) (kX (unK b.a) 0, kY (unK
b.a) 0, kQ (unK b.a) 0)) = List.length o ∧ okQ a ∧ okQ b_2 ∧ List.length o + List.length a + List.length b_2 ≤ List.length A + List.length B ∧ o ++ mrg 90 a b_2 = mrg 90 A B) ∧ b.n - 1 + (b.m - 1) <
b.n + b.m ∧ True) ∧ (leb b_1.v 0 = false → ([(24705, HO.blk (Blk.mk (Cont.cells [AV.imm (Cont.vals (List.drop 3 b.b)) (b.m - 1) none]) 1 1 none (some false) true true)), (24704, HO.blk (Blk.mk
(Cont.cells [AV.imm (Cont.vals b.a) b.n none]) 1 1 none (some false) true true)), (9001, HO.blk (Blk.mk (Cont.vals b.o) 3 b.k none (some true) true false)), (320, HO.blk (Blk.mk (Cont.cells [AV.full
9001 b.k]) 1 1 none (some false) true true)), (64, HO.blk (Blk.mk (Cont.cells [AV.fn 90 [] []]) 1 1 none (some false) true true)), (9002, HO.loop (LoopS.mk 0 none [(5, AV.ptr 64 0), (9, AV.ptr 320 0),
(20, AV.fn 164 [] [AV.ptr 24704 0, AV.ptr 24705 0])] 35 [21, 22] (XC.seq (XC.reg 448 [XO.mk (some 10) (XOp.new (Cont.cells [AV.int IntKind.i64 0, AV.int IntKind.i64 0, AV.int IntKind.u8 0]) 1 3) none,
XO.mk none (XOp.store 3 (Opd.t 10) (Opd.t 21)) none] [20, 21]) (XC.reg 512 [XO.mk (some 11) (XOp.new (Cont.cells [AV.bool false, AV.bool false]) 1 2) none, XO.mk none (XOp.store 2 (Opd.t 11) (Opd.t
22)) none] [22])) (XC.block 1 (XC.seq (XC.reg 576 [XO.mk (some 23) (XOp.load none (Opd.t 5)) none, XO.mk (some 24) (XOp.load (some 2) (Opd.t 11)) none, XO.mk (some 25) (XOp.callv (Opd.t 23) [Opd.t
24]) none] [5, 11, 23, 24]) (XC.cond (Opd.t 25) (XC.reg 640 [XO.mk (some 26) (XOp.load none (Opd.t 9)) none, XO.mk (some 27) (XOp.load (some 3) (Opd.t 10)) none, XO.mk (some 28) (XOp.buildS 3 1 0
[AV.int IntKind.i64 0, AV.int IntKind.i64 0, AV.int IntKind.u8 0] [(0, 3, Opd.t 27)]) none, XO.mk (some 29) (XOp.append 3 24 0 (Opd.t 26) (Opd.t 28)) none, XO.mk none (XOp.store 1 (Opd.t 9) (Opd.t
29)) none] [10, 25, 26, 27, 28, 29]) XC.skip)))))] = [(24705, HO.blk (Blk.mk (Cont.cells [AV.imm (Cont.vals (List.drop 3 b.b)) (b.m - 1) none]) 1 1 none (some false) true true)), (24704, HO.blk
(Blk.mk (Cont.cells [AV.imm (Cont.vals b.a) b.n none]) 1 1 none (some false) true true)), (9001, HO.blk (Blk.mk (Cont.vals (flatK (unK b.o))) 3 (List.length (unK b.o)) none (some true) true false)),
(320, HO.blk (Blk.mk (Cont.cells [AV.full 9001 (List.length (unK b.o))]) 1 1 none (some false) true true)), (64, HO.blk (Blk.mk (Cont.cells [AV.fn 90 [] []]) 1 1 none (some false) true true)), (9002,
HO.loop (LoopS.mk 0 none [(5, AV.ptr 64 0), (9, AV.ptr 320 0), (20, AV.fn 164 [] [AV.ptr 24704 0, AV.ptr 24705 0])] 35 [21, 22] (XC.seq (XC.reg 448 [XO.mk (some 10) (XOp.new (Cont.cells [AV.int
IntKind.i64 0, AV.int IntKind.i64 0, AV.int IntKind.u8 0]) 1 3) none, XO.mk none (XOp.store 3 (Opd.t 10) (Opd.t 21)) none] [20, 21]) (XC.reg 512 [XO.mk (some 11) (XOp.new (Cont.cells [AV.bool false,
AV.bool false]) 1 2) none, XO.mk none (XOp.store 2 (Opd.t 11) (Opd.t 22)) none] [22])) (XC.block 1 (XC.seq (XC.reg 576 [XO.mk (some 23) (XOp.load none (Opd.t 5)) none, XO.mk (some 24) (XOp.load (some
2) (Opd.t 11)) none, XO.mk (some 25) (XOp.callv (Opd.t 23) [Opd.t 24]) none] [5, 11, 23, 24]) (XC.cond (Opd.t 25) (XC.reg 640 [XO.mk (some 26) (XOp.load none (Opd.t 9)) none, XO.mk (some 27) (XOp.load
(some 3) (Opd.t 10)) none, XO.mk (some 28) (XOp.buildS 3 1 0 [AV.int IntKind.i64 0, AV.int IntKind.i64 0, AV.int IntKind.u8 0] [(0, 3, Opd.t 27)]) none, XO.mk (some 29) (XOp.append 3 24 0 (Opd.t 26)
(Opd.t 28)) none, XO.mk none (XOp.store 1 (Opd.t 9) (Opd.t 29)) none] [10, 25, 26, 27, 28, 29]) XC.skip)))))] ∧ List.length (unK b.o) < 1000000) ∧ 1 = 1 ∧ Cont.vals (List.drop 3 b.b) = Cont.vals
(List.drop 3 b.b) ∧ b.m - 1 = b.m - 1 ∧ 1 = 1 ∧ Cont.vals b.a = Cont.vals b.a ∧ b.n = b.n ∧ List.length (addK (kpF 90 (leb b_1.v 0) (leb 0 b_1.v)) (unK b.o) (kX (unK b.b) 0, kY (unK b.b) 0, kQ (unK
b.b) 0)) = List.length (addK (kpF 90 (leb b_1.v 0) (leb 0 b_1.v)) (unK b.o) (kX (unK b.b) 0, kY (unK b.b) 0, kQ (unK b.b) 0)) ∧ flatK (addK (kpF 90 (leb b_1.v 0) (leb 0 b_1.v)) (unK b.o) (kX (unK b.b)
0, kY (unK b.b) 0, kQ (unK b.b) 0)) = flatK (addK (kpF 90 (leb b_1.v 0) (leb 0 b_1.v)) (unK b.o) (kX (unK b.b) 0, kY (unK b.b) 0, kQ (unK b.b) 0)) ∧ 1 = 1 ∧ List.length (addK (kpF 90 (leb b_1.v 0)
(leb 0 b_1.v)) (unK b.o) (kX (unK b.b) 0, kY (unK b.b) 0, kQ (unK b.b) 0)) = List.length (addK (kpF 90 (leb b_1.v 0) (leb 0 b_1.v)) (unK b.o) (kX (unK b.b) 0, kY (unK b.b) 0, kQ (unK b.b) 0)) ∧ 1 = 1
∧ 0 = 0 ∧ (none : Option Ex) = none ∧ 35 = 35 ∧ [21, 22] = [21, 22] ∧ XC.seq (XC.reg 448 [XO.mk (some 10) (XOp.new (Cont.cells [AV.int IntKind.i64 0, AV.int IntKind.i64 0, AV.int IntKind.u8 0]) 1 3)
none, XO.mk none (XOp.store 3 (Opd.t 10) (Opd.t 21)) none] [20, 21]) (XC.reg 512 [XO.mk (some 11) (XOp.new (Cont.cells [AV.bool false, AV.bool false]) 1 2) none, XO.mk none (XOp.store 2 (Opd.t 11)
(Opd.t 22)) none] [22]) = XC.seq (XC.reg 448 [XO.mk (some 10) (XOp.new (Cont.cells [AV.int IntKind.i64 0, AV.int IntKind.i64 0, AV.int IntKind.u8 0]) 1 3) none, XO.mk none (XOp.store 3 (Opd.t 10)
(Opd.t 21)) none] [20, 21]) (XC.reg 512 [XO.mk (some 11) (XOp.new (Cont.cells [AV.bool false, AV.bool false]) 1 2) none, XO.mk none (XOp.store 2 (Opd.t 11) (Opd.t 22)) none] [22]) ∧ XC.block 1 (XC.seq
(XC.reg 576 [XO.mk (some 23) (XOp.load none (Opd.t 5)) none, XO.mk (some 24) (XOp.load (some 2) (Opd.t 11)) none, XO.mk (some 25) (XOp.callv (Opd.t 23) [Opd.t 24]) none] [5, 11, 23, 24]) (XC.cond
(Opd.t 25) (XC.reg 640 [XO.mk (some 26) (XOp.load none (Opd.t 9)) none, XO.mk (some 27) (XOp.load (some 3) (Opd.t 10)) none, XO.mk (some 28) (XOp.buildS 3 1 0 [AV.int IntKind.i64 0, AV.int IntKind.i64
0, AV.int IntKind.u8 0] [(0, 3, Opd.t 27)]) none, XO.mk (some 29) (XOp.append 3 24 0 (Opd.t 26) (Opd.t 28)) none, XO.mk none (XOp.store 1 (Opd.t 9) (Opd.t 29)) none] [10, 25, 26, 27, 28, 29])
XC.skip)) = XC.block 1 (XC.seq (XC.reg 576 [XO.mk (some 23) (XOp.load none (Opd.t 5)) none, XO.mk (some 24) (XOp.load (some 2) (Opd.t 11)) none, XO.mk (some 25) (XOp.callv (Opd.t 23) [Opd.t 24]) none]
[5, 11, 23, 24]) (XC.cond (Opd.t 25) (XC.reg 640 [XO.mk (some 26) (XOp.load none (Opd.t 9)) none, XO.mk (some 27) (XOp.load (some 3) (Opd.t 10)) none, XO.mk (some 28) (XOp.buildS 3 1 0 [AV.int
IntKind.i64 0, AV.int IntKind.i64 0, AV.int IntKind.u8 0] [(0, 3, Opd.t 27)]) none, XO.mk (some 29) (XOp.append 3 24 0 (Opd.t 26) (Opd.t 28)) none, XO.mk none (XOp.store 1 (Opd.t 9) (Opd.t 29)) none]
[10, 25, 26, 27, 28, 29]) XC.skip)) ∧ 0 = 0 ∧ 0 = 0 ∧ 0 = 0 ∧ 0 = 0 ∧ 0 = 0 ∧ 0 = 0 ∧ (∃ (a : List Cl), ∃ (b_2 : List Cl), ∃ (o : List Cl), b.a = flatK a ∧ b.n = List.length a ∧ List.drop 3 b.b =
flatK b_2 ∧ b.m - 1 = List.length b_2 ∧ flatK (addK (kpF 90 (leb b_1.v 0) (leb 0 b_1.v)) (unK b.o) (kX (unK b.b) 0, kY (unK b.b) 0, kQ (unK b.b) 0)) = flatK o ∧ List.length (addK (kpF 90 (leb b_1.v 0)
(leb 0 b_1.v)) (unK b.o) (kX (unK b.b) 0, kY (unK b.b) 0, kQ (unK b.b) 0)) = List.length o ∧ okQ a ∧ okQ b_2 ∧ List.length o + List.length a + List.length b_2 ≤ List.length A + List.length B ∧ o ++
mrg 90 a b_2 = mrg 90 A B) ∧ b.n + (b.m - 1) < b.n + b.m ∧ True)) ∧ (leb 0 b_1.v = false → (leb b_1.v 0 = true → ltb 0 (↑b.n : Int) = true ∧ ltn 0 (Cont.size (Cont.vals b.a)) = true ∧ (List.drop 0
b.a)[0]? = some (AV.int IntKind.i64 (kX (unK b.a) 0)) ∧ (List.drop 0 b.a)[1]? = some (AV.int IntKind.i64 (kY (unK b.a) 0)) ∧ (List.drop 0 b.a)[2]? = some (AV.int IntKind.u8 (kQ (unK b.a) 0)) ∧ len' 1
b.n = true ∧ Cont.size (Cont.vals b.a) = b.n * 3 ∧ ([(24705, HO.blk (Blk.mk (Cont.cells [AV.imm (Cont.vals b.b) b.m none]) 1 1 none (some false) true true)), (24704, HO.blk (Blk.mk (Cont.cells [AV.imm
(Cont.vals (List.drop 3 b.a)) (b.n - 1) none]) 1 1 none (some false) true true)), (9001, HO.blk (Blk.mk (Cont.vals b.o) 3 b.k none (some true) true false)), (320, HO.blk (Blk.mk (Cont.cells [AV.full
9001 b.k]) 1 1 none (some false) true true)), (64, HO.blk (Blk.mk (Cont.cells [AV.fn 90 [] []]) 1 1 none (some false) true true)), (9002, HO.loop (LoopS.mk 0 none [(5, AV.ptr 64 0), (9, AV.ptr 320 0),
(20, AV.fn 164 [] [AV.ptr 24704 0, AV.ptr 24705 0])] 35 [21, 22] (XC.seq (XC.reg 448 [XO.mk (some 10) (XOp.new (Cont.cells [AV.int IntKind.i64 0, AV.int IntKind.i64 0, AV.int IntKind.u8 0]) 1 3) none,
XO.mk none (XOp.store 3 (Opd.t 10) (Opd.t 21)) none] [20, 21]) (XC.reg 512 [XO.mk (some 11) (XOp.new (Cont.cells [AV.bool false, AV.bool false]) 1 2) none, XO.mk none (XOp.store 2 (Opd.t 11) (Opd.t
22)) none] [22])) (XC.block 1 (XC.seq (XC.reg 576 [XO.mk (some 23) (XOp.load none (Opd.t 5)) none, XO.mk (some 24) (XOp.load (some 2) (Opd.t 11)) none, XO.mk (some 25) (XOp.callv (Opd.t 23) [Opd.t
24]) none] [5, 11, 23, 24]) (XC.cond (Opd.t 25) (XC.reg 640 [XO.mk (some 26) (XOp.load none (Opd.t 9)) none, XO.mk (some 27) (XOp.load (some 3) (Opd.t 10)) none, XO.mk (some 28) (XOp.buildS 3 1 0
[AV.int IntKind.i64 0, AV.int IntKind.i64 0, AV.int IntKind.u8 0] [(0, 3, Opd.t 27)]) none, XO.mk (some 29) (XOp.append 3 24 0 (Opd.t 26) (Opd.t 28)) none, XO.mk none (XOp.store 1 (Opd.t 9) (Opd.t
29)) none] [10, 25, 26, 27, 28, 29]) XC.skip)))))] = [(24705, HO.blk (Blk.mk (Cont.cells [AV.imm (Cont.vals b.b) b.m none]) 1 1 none (some false) true true)), (24704, HO.blk (Blk.mk (Cont.cells
[AV.imm (Cont.vals (List.drop 3 b.a)) (b.n - 1) none]) 1 1 none (some false) true true)), (9001, HO.blk (Blk.mk (Cont.vals (flatK (unK b.o))) 3 (List.length (unK b.o)) none (some true) true false)),
(320, HO.blk (Blk.mk (Cont.cells [AV.full 9001 (List.length (unK b.o))]) 1 1 none (some false) true true)), (64, HO.blk (Blk.mk (Cont.cells [AV.fn 90 [] []]) 1 1 none (some false) true true)), (9002,
HO.loop (LoopS.mk 0 none [(5, AV.ptr 64 0), (9, AV.ptr 320 0), (20, AV.fn 164 [] [AV.ptr 24704 0, AV.ptr 24705 0])] 35 [21, 22] (XC.seq (XC.reg 448 [XO.mk (some 10) (XOp.new (Cont.cells [AV.int
IntKind.i64 0, AV.int IntKind.i64 0, AV.int IntKind.u8 0]) 1 3) none, XO.mk none (XOp.store 3 (Opd.t 10) (Opd.t 21)) none] [20, 21]) (XC.reg 512 [XO.mk (some 11) (XOp.new (Cont.cells [AV.bool false,
AV.bool false]) 1 2) none, XO.mk none (XOp.store 2 (Opd.t 11) (Opd.t 22)) none] [22])) (XC.block 1 (XC.seq (XC.reg 576 [XO.mk (some 23) (XOp.load none (Opd.t 5)) none, XO.mk (some 24) (XOp.load (some
2) (Opd.t 11)) none, XO.mk (some 25) (XOp.callv (Opd.t 23) [Opd.t 24]) none] [5, 11, 23, 24]) (XC.cond (Opd.t 25) (XC.reg 640 [XO.mk (some 26) (XOp.load none (Opd.t 9)) none, XO.mk (some 27) (XOp.load
(some 3) (Opd.t 10)) none, XO.mk (some 28) (XOp.buildS 3 1 0 [AV.int IntKind.i64 0, AV.int IntKind.i64 0, AV.int IntKind.u8 0] [(0, 3, Opd.t 27)]) none, XO.mk (some 29) (XOp.append 3 24 0 (Opd.t 26)
(Opd.t 28)) none, XO.mk none (XOp.store 1 (Opd.t 9) (Opd.t 29)) none] [10, 25, 26, 27, 28, 29]) XC.skip)))))] ∧ List.length (unK b.o) < 1000000) ∧ 1 = 1 ∧ Cont.vals b.b = Cont.vals b.b ∧ b.m = b.m ∧ 1
= 1 ∧ Cont.vals (List.drop 3 b.a) = Cont.vals (List.drop 3 b.a) ∧ b.n - 1 = b.n - 1 ∧ List.length (addK (kpF 90 (leb b_1.v 0) (leb 0 b_1.v)) (unK b.o) (kX (unK b.a) 0, kY (unK b.a) 0, kQ (unK b.a) 0))
= List.length (addK (kpF 90 (leb b_1.v 0) (leb 0 b_1.v)) (unK b.o) (kX (unK b.a) 0, kY (unK b.a) 0, kQ (unK b.a) 0)) ∧ flatK (addK (kpF 90 (leb b_1.v 0) (leb 0 b_1.v)) (unK b.o) (kX (unK b.a) 0, kY
(unK b.a) 0, kQ (unK b.a) 0)) = flatK (addK (kpF 90 (leb b_1.v 0) (leb 0 b_1.v)) (unK b.o) (kX (unK b.a) 0, kY (unK b.a) 0, kQ (unK b.a) 0)) ∧ 1 = 1 ∧ List.length (addK (kpF 90 (leb b_1.v 0) (leb 0
b_1.v)) (unK b.o) (kX (unK b.a) 0, kY (unK b.a) 0, kQ (unK b.a) 0)) = List.length (addK (kpF 90 (leb b_1.v 0) (leb 0 b_1.v)) (unK b.o) (kX (unK b.a) 0, kY (unK b.a) 0, kQ (unK b.a) 0)) ∧ 1 = 1 ∧ 0 = 0
∧ (none : Option Ex) = none ∧ 35 = 35 ∧ [21, 22] = [21, 22] ∧ XC.seq (XC.reg 448 [XO.mk (some 10) (XOp.new (Cont.cells [AV.int IntKind.i64 0, AV.int IntKind.i64 0, AV.int IntKind.u8 0]) 1 3) none,
XO.mk none (XOp.store 3 (Opd.t 10) (Opd.t 21)) none] [20, 21]) (XC.reg 512 [XO.mk (some 11) (XOp.new (Cont.cells [AV.bool false, AV.bool false]) 1 2) none, XO.mk none (XOp.store 2 (Opd.t 11) (Opd.t
22)) none] [22]) = XC.seq (XC.reg 448 [XO.mk (some 10) (XOp.new (Cont.cells [AV.int IntKind.i64 0, AV.int IntKind.i64 0, AV.int IntKind.u8 0]) 1 3) none, XO.mk none (XOp.store 3 (Opd.t 10) (Opd.t 21))
none] [20, 21]) (XC.reg 512 [XO.mk (some 11) (XOp.new (Cont.cells [AV.bool false, AV.bool false]) 1 2) none, XO.mk none (XOp.store 2 (Opd.t 11) (Opd.t 22)) none] [22]) ∧ XC.block 1 (XC.seq (XC.reg 576
[XO.mk (some 23) (XOp.load none (Opd.t 5)) none, XO.mk (some 24) (XOp.load (some 2) (Opd.t 11)) none, XO.mk (some 25) (XOp.callv (Opd.t 23) [Opd.t 24]) none] [5, 11, 23, 24]) (XC.cond (Opd.t 25)
(XC.reg 640 [XO.mk (some 26) (XOp.load none (Opd.t 9)) none, XO.mk (some 27) (XOp.load (some 3) (Opd.t 10)) none, XO.mk (some 28) (XOp.buildS 3 1 0 [AV.int IntKind.i64 0, AV.int IntKind.i64 0, AV.int
IntKind.u8 0] [(0, 3, Opd.t 27)]) none, XO.mk (some 29) (XOp.append 3 24 0 (Opd.t 26) (Opd.t 28)) none, XO.mk none (XOp.store 1 (Opd.t 9) (Opd.t 29)) none] [10, 25, 26, 27, 28, 29]) XC.skip)) =
XC.block 1 (XC.seq (XC.reg 576 [XO.mk (some 23) (XOp.load none (Opd.t 5)) none, XO.mk (some 24) (XOp.load (some 2) (Opd.t 11)) none, XO.mk (some 25) (XOp.callv (Opd.t 23) [Opd.t 24]) none] [5, 11, 23,
24]) (XC.cond (Opd.t 25) (XC.reg 640 [XO.mk (some 26) (XOp.load none (Opd.t 9)) none, XO.mk (some 27) (XOp.load (some 3) (Opd.t 10)) none, XO.mk (some 28) (XOp.buildS 3 1 0 [AV.int IntKind.i64 0,
AV.int IntKind.i64 0, AV.int IntKind.u8 0] [(0, 3, Opd.t 27)]) none, XO.mk (some 29) (XOp.append 3 24 0 (Opd.t 26) (Opd.t 28)) none, XO.mk none (XOp.store 1 (Opd.t 9) (Opd.t 29)) none] [10, 25, 26,
27, 28, 29]) XC.skip)) ∧ 0 = 0 ∧ 0 = 0 ∧ 0 = 0 ∧ 0 = 0 ∧ 0 = 0 ∧ 0 = 0 ∧ (∃ (a : List Cl), ∃ (b_2 : List Cl), ∃ (o : List Cl), List.drop 3 b.a = flatK a ∧ b.n - 1 = List.length a ∧ b.b = flatK b_2 ∧
b.m = List.length b_2 ∧ flatK (addK (kpF 90 (leb b_1.v 0) (leb 0 b_1.v)) (unK b.o) (kX (unK b.a) 0, kY (unK b.a) 0, kQ (unK b.a) 0)) = flatK o ∧ List.length (addK (kpF 90 (leb b_1.v 0) (leb 0 b_1.v))
(unK b.o) (kX (unK b.a) 0, kY (unK b.a) 0, kQ (unK b.a) 0)) = List.length o ∧ okQ a ∧ okQ b_2 ∧ List.length o + List.length a + List.length b_2 ≤ List.length A + List.length B ∧ o ++ mrg 90 a b_2 =
mrg 90 A B) ∧ b.n - 1 + b.m < b.n + b.m ∧ True) ∧ (leb b_1.v 0 = false → ([(24705, HO.blk (Blk.mk (Cont.cells [AV.imm (Cont.vals b.b) b.m none]) 1 1 none (some false) true true)), (24704, HO.blk
(Blk.mk (Cont.cells [AV.imm (Cont.vals b.a) b.n none]) 1 1 none (some false) true true)), (9001, HO.blk (Blk.mk (Cont.vals b.o) 3 b.k none (some true) true false)), (320, HO.blk (Blk.mk (Cont.cells
[AV.full 9001 b.k]) 1 1 none (some false) true true)), (64, HO.blk (Blk.mk (Cont.cells [AV.fn 90 [] []]) 1 1 none (some false) true true)), (9002, HO.loop (LoopS.mk 0 none [(5, AV.ptr 64 0), (9,
AV.ptr 320 0), (20, AV.fn 164 [] [AV.ptr 24704 0, AV.ptr 24705 0])] 35 [21, 22] (XC.seq (XC.reg 448 [XO.mk (some 10) (XOp.new (Cont.cells [AV.int IntKind.i64 0, AV.int IntKind.i64 0, AV.int IntKind.u8
0]) 1 3) none, XO.mk none (XOp.store 3 (Opd.t 10) (Opd.t 21)) none] [20, 21]) (XC.reg 512 [XO.mk (some 11) (XOp.new (Cont.cells [AV.bool false, AV.bool false]) 1 2) none, XO.mk none (XOp.store 2
(Opd.t 11) (Opd.t 22)) none] [22])) (XC.block 1 (XC.seq (XC.reg 576 [XO.mk (some 23) (XOp.load none (Opd.t 5)) none, XO.mk (some 24) (XOp.load (some 2) (Opd.t 11)) none, XO.mk (some 25) (XOp.callv
(Opd.t 23) [Opd.t 24]) none] [5, 11, 23, 24]) (XC.cond (Opd.t 25) (XC.reg 640 [XO.mk (some 26) (XOp.load none (Opd.t 9)) none, XO.mk (some 27) (XOp.load (some 3) (Opd.t 10)) none, XO.mk (some 28)
(XOp.buildS 3 1 0 [AV.int IntKind.i64 0, AV.int IntKind.i64 0, AV.int IntKind.u8 0] [(0, 3, Opd.t 27)]) none, XO.mk (some 29) (XOp.append 3 24 0 (Opd.t 26) (Opd.t 28)) none, XO.mk none (XOp.store 1
(Opd.t 9) (Opd.t 29)) none] [10, 25, 26, 27, 28, 29]) XC.skip)))))] = [(24705, HO.blk (Blk.mk (Cont.cells [AV.imm (Cont.vals b.b) b.m none]) 1 1 none (some false) true true)), (24704, HO.blk (Blk.mk
(Cont.cells [AV.imm (Cont.vals b.a) b.n none]) 1 1 none (some false) true true)), (9001, HO.blk (Blk.mk (Cont.vals (flatK (unK b.o))) 3 (List.length (unK b.o)) none (some true) true false)), (320,
HO.blk (Blk.mk (Cont.cells [AV.full 9001 (List.length (unK b.o))]) 1 1 none (some false) true true)), (64, HO.blk (Blk.mk (Cont.cells [AV.fn 90 [] []]) 1 1 none (some false) true true)), (9002,
HO.loop (LoopS.mk 0 none [(5, AV.ptr 64 0), (9, AV.ptr 320 0), (20, AV.fn 164 [] [AV.ptr 24704 0, AV.ptr 24705 0])] 35 [21, 22] (XC.seq (XC.reg 448 [XO.mk (some 10) (XOp.new (Cont.cells [AV.int
IntKind.i64 0, AV.int IntKind.i64 0, AV.int IntKind.u8 0]) 1 3) none, XO.mk none (XOp.store 3 (Opd.t 10) (Opd.t 21)) none] [20, 21]) (XC.reg 512 [XO.mk (some 11) (XOp.new (Cont.cells [AV.bool false,
AV.bool false]) 1 2) none, XO.mk none (XOp.store 2 (Opd.t 11) (Opd.t 22)) none] [22])) (XC.block 1 (XC.seq (XC.reg 576 [XO.mk (some 23) (XOp.load none (Opd.t 5)) none, XO.mk (some 24) (XOp.load (some
2) (Opd.t 11)) none, XO.mk (some 25) (XOp.callv (Opd.t 23) [Opd.t 24]) none] [5, 11, 23, 24]) (XC.cond (Opd.t 25) (XC.reg 640 [XO.mk (some 26) (XOp.load none (Opd.t 9)) none, XO.mk (some 27) (XOp.load
(some 3) (Opd.t 10)) none, XO.mk (some 28) (XOp.buildS 3 1 0 [AV.int IntKind.i64 0, AV.int IntKind.i64 0, AV.int IntKind.u8 0] [(0, 3, Opd.t 27)]) none, XO.mk (some 29) (XOp.append 3 24 0 (Opd.t 26)
(Opd.t 28)) none, XO.mk none (XOp.store 1 (Opd.t 9) (Opd.t 29)) none] [10, 25, 26, 27, 28, 29]) XC.skip)))))] ∧ List.length (unK b.o) < 1000000) ∧ 1 = 1 ∧ Cont.vals b.b = Cont.vals b.b ∧ b.m = b.m ∧ 1
= 1 ∧ Cont.vals b.a = Cont.vals b.a ∧ b.n = b.n ∧ List.length (addK (kpF 90 (leb b_1.v 0) (leb 0 b_1.v)) (unK b.o) (0, 0, 0)) = List.length (addK (kpF 90 (leb b_1.v 0) (leb 0 b_1.v)) (unK b.o) (0, 0,
0)) ∧ flatK (addK (kpF 90 (leb b_1.v 0) (leb 0 b_1.v)) (unK b.o) (0, 0, 0)) = flatK (addK (kpF 90 (leb b_1.v 0) (leb 0 b_1.v)) (unK b.o) (0, 0, 0)) ∧ 1 = 1 ∧ List.length (addK (kpF 90 (leb b_1.v 0)
(leb 0 b_1.v)) (unK b.o) (0, 0, 0)) = List.length (addK (kpF 90 (leb b_1.v 0) (leb 0 b_1.v)) (unK b.o) (0, 0, 0)) ∧ 1 = 1 ∧ 0 = 0 ∧ (none : Option Ex) = none ∧ 35 = 35 ∧ [21, 22] = [21, 22] ∧ XC.seq
(XC.reg 448 [XO.mk (some 10) (XOp.new (Cont.cells [AV.int IntKind.i64 0, AV.int IntKind.i64 0, AV.int IntKind.u8 0]) 1 3) none, XO.mk none (XOp.store 3 (Opd.t 10) (Opd.t 21)) none] [20, 21]) (XC.reg
512 [XO.mk (some 11) (XOp.new (Cont.cells [AV.bool false, AV.bool false]) 1 2) none, XO.mk none (XOp.store 2 (Opd.t 11) (Opd.t 22)) none] [22]) = XC.seq (XC.reg 448 [XO.mk (some 10) (XOp.new
(Cont.cells [AV.int IntKind.i64 0, AV.int IntKind.i64 0, AV.int IntKind.u8 0]) 1 3) none, XO.mk none (XOp.store 3 (Opd.t 10) (Opd.t 21)) none] [20, 21]) (XC.reg 512 [XO.mk (some 11) (XOp.new
(Cont.cells [AV.bool false, AV.bool false]) 1 2) none, XO.mk none (XOp.store 2 (Opd.t 11) (Opd.t 22)) none] [22]) ∧ XC.block 1 (XC.seq (XC.reg 576 [XO.mk (some 23) (XOp.load none (Opd.t 5)) none,
XO.mk (some 24) (XOp.load (some 2) (Opd.t 11)) none, XO.mk (some 25) (XOp.callv (Opd.t 23) [Opd.t 24]) none] [5, 11, 23, 24]) (XC.cond (Opd.t 25) (XC.reg 640 [XO.mk (some 26) (XOp.load none (Opd.t 9))
none, XO.mk (some 27) (XOp.load (some 3) (Opd.t 10)) none, XO.mk (some 28) (XOp.buildS 3 1 0 [AV.int IntKind.i64 0, AV.int IntKind.i64 0, AV.int IntKind.u8 0] [(0, 3, Opd.t 27)]) none, XO.mk (some 29)
(XOp.append 3 24 0 (Opd.t 26) (Opd.t 28)) none, XO.mk none (XOp.store 1 (Opd.t 9) (Opd.t 29)) none] [10, 25, 26, 27, 28, 29]) XC.skip)) = XC.block 1 (XC.seq (XC.reg 576 [XO.mk (some 23) (XOp.load none
(Opd.t 5)) none, XO.mk (some 24) (XOp.load (some 2) (Opd.t 11)) none, XO.mk (some 25) (XOp.callv (Opd.t 23) [Opd.t 24]) none] [5, 11, 23, 24]) (XC.cond (Opd.t 25) (XC.reg 640 [XO.mk (some 26)
(XOp.load none (Opd.t 9)) none, XO.mk (some 27) (XOp.load (some 3) (Opd.t 10)) none, XO.mk (some 28) (XOp.buildS 3 1 0 [AV.int IntKind.i64 0, AV.int IntKind.i64 0, AV.int IntKind.u8 0] [(0, 3, Opd.t
27)]) none, XO.mk (some 29) (XOp.append 3 24 0 (Opd.t 26) (Opd.t 28)) none, XO.mk none (XOp.store 1 (Opd.t 9) (Opd.t 29)) none] [10, 25, 26, 27, 28, 29]) XC.skip)) ∧ 0 = 0 ∧ 0 = 0 ∧ 0 = 0 ∧ 0 = 0 ∧ 0
= 0 ∧ 0 = 0 ∧ (∃ (a : List Cl), ∃ (b_2 : List Cl), ∃ (o : List Cl), b.a = flatK a ∧ b.n = List.length a ∧ b.b = flatK b_2 ∧ b.m = List.length b_2 ∧ flatK (addK (kpF 90 (leb b_1.v 0) (leb 0 b_1.v))
(unK b.o) (0, 0, 0)) = flatK o ∧ List.length (addK (kpF 90 (leb b_1.v 0) (leb 0 b_1.v)) (unK b.o) (0, 0, 0)) = List.length o ∧ okQ a ∧ okQ b_2 ∧ List.length o + List.length a + List.length b_2 ≤
List.length A + List.length B ∧ o ++ mrg 90 a b_2 = mrg 90 A B) ∧ b.n + b.m < b.n + b.m ∧ True))) ∧ (ltb 0 ((↑b.n : Int) + (↑b.m : Int)) = false → 1 = 1 ∧ Cont.vals b.b = Cont.vals [] ∧ b.m = 0 ∧ 1 =
1 ∧ Cont.vals b.a = Cont.vals [] ∧ b.n = 0 ∧ b.k = List.length (mrg 90 A B) ∧ b.o = flatK (mrg 90 A B) ∧ 1 = 1 ∧ b.k = List.length (mrg 90 A B) ∧ 1 = 1 ∧ 0 = 0 ∧ (none : Option Ex) = none ∧ 35 = 35 ∧
[21, 22] = [21, 22] ∧ XC.seq (XC.reg 448 [XO.mk (some 10) (XOp.new (Cont.cells [AV.int IntKind.i64 0, AV.int IntKind.i64 0, AV.int IntKind.u8 0]) 1 3) none, XO.mk none (XOp.store 3 (Opd.t 10) (Opd.t
21)) none] [20, 21]) (XC.reg 512 [XO.mk (some 11) (XOp.new (Cont.cells [AV.bool false, AV.bool false]) 1 2) none, XO.mk none (XOp.store 2 (Opd.t 11) (Opd.t 22)) none] [22]) = XC.seq (XC.reg 448 [XO.mk
(some 10) (XOp.new (Cont.cells [AV.int IntKind.i64 0, AV.int IntKind.i64 0, AV.int IntKind.u8 0]) 1 3) none, XO.mk none (XOp.store 3 (Opd.t 10) (Opd.t 21)) none] [20, 21]) (XC.reg 512 [XO.mk (some 11)
(XOp.new (Cont.cells [AV.bool false, AV.bool false]) 1 2) none, XO.mk none (XOp.store 2 (Opd.t 11) (Opd.t 22)) none] [22]) ∧ XC.block 1 (XC.seq (XC.reg 576 [XO.mk (some 23) (XOp.load none (Opd.t 5))
none, XO.mk (some 24) (XOp.load (some 2) (Opd.t 11)) none, XO.mk (some 25) (XOp.callv (Opd.t 23) [Opd.t 24]) none] [5, 11, 23, 24]) (XC.cond (Opd.t 25) (XC.reg 640 [XO.mk (some 26) (XOp.load none
(Opd.t 9)) none, XO.mk (some 27) (XOp.load (some 3) (Opd.t 10)) none, XO.mk (some 28) (XOp.buildS 3 1 0 [AV.int IntKind.i64 0, AV.int IntKind.i64 0, AV.int IntKind.u8 0] [(0, 3, Opd.t 27)]) none,
XO.mk (some 29) (XOp.append 3 24 0 (Opd.t 26) (Opd.t 28)) none, XO.mk none (XOp.store 1 (Opd.t 9) (Opd.t 29)) none] [10, 25, 26, 27, 28, 29]) XC.skip)) = XC.block 1 (XC.seq (XC.reg 576 [XO.mk (some
23) (XOp.load none (Opd.t 5)) none, XO.mk (some 24) (XOp.load (some 2) (Opd.t 11)) none, XO.mk (some 25) (XOp.callv (Opd.t 23) [Opd.t 24]) none] [5, 11, 23, 24]) (XC.cond (Opd.t 25) (XC.reg 640 [XO.mk
(some 26) (XOp.load none (Opd.t 9)) none, XO.mk (some 27) (XOp.load (some 3) (Opd.t 10)) none, XO.mk (some 28) (XOp.buildS 3 1 0 [AV.int IntKind.i64 0, AV.int IntKind.i64 0, AV.int IntKind.u8 0] [(0,
3, Opd.t 27)]) none, XO.mk (some 29) (XOp.append 3 24 0 (Opd.t 26) (Opd.t 28)) none, XO.mk none (XOp.store 1 (Opd.t 9) (Opd.t 29)) none] [10, 25, 26, 27, 28, 29]) XC.skip)) ∧ 0 = 0 ∧ 0 = 0 ∧ 0 = 0 ∧ 0
= 0 ∧ True)) := by kernel_rfl

theorem ob_d_164_91 (A B : List Cl) : fnD (TY88 91) G 10000 (fe164) (.lp (l164 91 A B) [] [] (fun b => (.r [] 3 (.cnd (.r [] 0 (.jn (jI 4 IntKind.i64 (ordV b.a b.n b.b b.m)) [] [] (.r [] 1 (.cnd (.r [] 0 .nil) (.r [] 1 (.cnd (.r [] 0 .nil) (.r [(194, .auto, Dr.val (kV (unK b.a) 0)), (197, .auto, Dr.val (kV (unK b.b) 0))] 387 .nil))))) (fun b_1 => (.r [] 1 (.r [] 0 (.r [] 1 (.cnd (.r [(706, .auto, Dr.val (kV (unK b.b) 0))] 6531 (.r [] 1 (.cnd (.r [(834, .auto, Dr.val (kV (unK b.a) 0))] 6531 (.r [(899, .auto, Dr.heap)] 3 (.lit .nil))) (.r [(899, .auto, Dr.heap)] 3 (.lit .nil))))) (.r [] 1 (.cnd (.r [(834, .auto, Dr.val (kV (unK b.a) 0))] 6531 (.r [(899, .auto, Dr.heap)] 3 (.lit .nil))) (.r [(899, .auto, Dr.heap)] 3 (.lit .nil))))))))))) .nil)))) ([.yld 9002, .ptr 24704 0, .ptr 24705 0]) (H88e 91 A B) ([]) ([(24705, .blk (bxB [] 0)), (24704, .blk (bxB [] 0)), (9001, row88 (mrg 91 A B)), (320, bxO (.full 9001 (mrg 91 A B).length))]) = (
1 = 1 ∧ Cont.vals (flatK B) = Cont.vals (flatK B) ∧ List.length B = List.length B ∧ 1 = 1 ∧ Cont.vals (flatK A) = Cont.vals (flatK A) ∧ List.length A = List.length A ∧ 0 = 0 ∧ ([] : List AV) = [] ∧ 1
= 1 ∧ 0 = 0 ∧ 1 = 1 ∧ 0 = 0 ∧ (none : Option Ex) = none ∧ 35 = 35 ∧ [21, 22] = [21, 22] ∧ XC.seq (XC.reg 448 [XO.mk (some 10) (XOp.new (Cont.cells [AV.int IntKind.i64 0, AV.int IntKind.i64 0, AV.int
IntKind.u8 0]) 1 3) none, XO.mk none (XOp.store 3 (Opd.t 10) (Opd.t 21)) none] [20, 21]) (XC.reg 512 [XO.mk (some 11) (XOp.new (Cont.cells [AV.bool false, AV.bool false]) 1 2) none, XO.mk none
(XOp.store 2 (Opd.t 11) (Opd.t 22)) none] [22]) = XC.seq (XC.reg 448 [XO.mk (some 10) (XOp.new (Cont.cells [AV.int IntKind.i64 0, AV.int IntKind.i64 0, AV.int IntKind.u8 0]) 1 3) none, XO.mk none
(XOp.store 3 (Opd.t 10) (Opd.t 21)) none] [20, 21]) (XC.reg 512 [XO.mk (some 11) (XOp.new (Cont.cells [AV.bool false, AV.bool false]) 1 2) none, XO.mk none (XOp.store 2 (Opd.t 11) (Opd.t 22)) none]
[22]) ∧ XC.block 1 (XC.seq (XC.reg 576 [XO.mk (some 23) (XOp.load none (Opd.t 5)) none, XO.mk (some 24) (XOp.load (some 2) (Opd.t 11)) none, XO.mk (some 25) (XOp.callv (Opd.t 23) [Opd.t 24]) none] [5,
11, 23, 24]) (XC.cond (Opd.t 25) (XC.reg 640 [XO.mk (some 26) (XOp.load none (Opd.t 9)) none, XO.mk (some 27) (XOp.load (some 3) (Opd.t 10)) none, XO.mk (some 28) (XOp.buildS 3 1 0 [AV.int IntKind.i64
0, AV.int IntKind.i64 0, AV.int IntKind.u8 0] [(0, 3, Opd.t 27)]) none, XO.mk (some 29) (XOp.append 3 24 0 (Opd.t 26) (Opd.t 28)) none, XO.mk none (XOp.store 1 (Opd.t 9) (Opd.t 29)) none] [10, 25, 26,
27, 28, 29]) XC.skip)) = XC.block 1 (XC.seq (XC.reg 576 [XO.mk (some 23) (XOp.load none (Opd.t 5)) none, XO.mk (some 24) (XOp.load (some 2) (Opd.t 11)) none, XO.mk (some 25) (XOp.callv (Opd.t 23)
[Opd.t 24]) none] [5, 11, 23, 24]) (XC.cond (Opd.t 25) (XC.reg 640 [XO.mk (some 26) (XOp.load none (Opd.t 9)) none, XO.mk (some 27) (XOp.load (some 3) (Opd.t 10)) none, XO.mk (some 28) (XOp.buildS 3 1
0 [AV.int IntKind.i64 0, AV.int IntKind.i64 0, AV.int IntKind.u8 0] [(0, 3, Opd.t 27)]) none, XO.mk (some 29) (XOp.append 3 24 0 (Opd.t 26) (Opd.t 28)) none, XO.mk none (XOp.store 1 (Opd.t 9) (Opd.t
29)) none] [10, 25, 26, 27, 28, 29]) XC.skip)) ∧ 0 = 0 ∧ 0 = 0 ∧ 0 = 0 ∧ 0 = 0 ∧ 0 = 0 ∧ 0 = 0 ∧ (∃ (a : List Cl), ∃ (b : List Cl), ∃ (o : List Cl), flatK A = flatK a ∧ List.length A = List.length a ∧
flatK B = flatK b ∧ List.length B = List.length b ∧ [] = flatK o ∧ 0 = List.length o ∧ okQ a ∧ okQ b ∧ List.length o + List.length a + List.length b ≤ List.length A + List.length B ∧ o ++ mrg 91 a b =
mrg 91 A B) ∧ ∀ (b : L164), (∃ (a : List Cl), ∃ (b_1 : List Cl), ∃ (o : List Cl), b.a = flatK a ∧ b.n = List.length a ∧ b.b = flatK b_1 ∧ b.m = List.length b_1 ∧ b.o = flatK o ∧ b.k = List.length o ∧
okQ a ∧ okQ b_1 ∧ List.length o + List.length a + List.length b_1 ≤ List.length A + List.length B ∧ o ++ mrg 91 a b_1 = mrg 91 A B) → inR IntKind.i64 ((↑b.n : Int) + (↑b.m : Int)) = true ∧ (ltb 0
((↑b.n : Int) + (↑b.m : Int)) = true → ((((↑b.n : Int) == 0) = true → 1 = 1 ∧ Cont.vals b.b = Cont.vals b.b ∧ b.m = b.m ∧ 1 = 1 ∧ Cont.vals b.a = Cont.vals b.a ∧ b.n = b.n ∧ b.k = b.k ∧ b.o = b.o ∧ 1
= 1 ∧ b.k = b.k ∧ 1 = 1 ∧ 0 = 0 ∧ (none : Option Ex) = none ∧ 35 = 35 ∧ [21, 22] = [21, 22] ∧ XC.seq (XC.reg 448 [XO.mk (some 10) (XOp.new (Cont.cells [AV.int IntKind.i64 0, AV.int IntKind.i64 0,
AV.int IntKind.u8 0]) 1 3) none, XO.mk none (XOp.store 3 (Opd.t 10) (Opd.t 21)) none] [20, 21]) (XC.reg 512 [XO.mk (some 11) (XOp.new (Cont.cells [AV.bool false, AV.bool false]) 1 2) none, XO.mk none
(XOp.store 2 (Opd.t 11) (Opd.t 22)) none] [22]) = XC.seq (XC.reg 448 [XO.mk (some 10) (XOp.new (Cont.cells [AV.int IntKind.i64 0, AV.int IntKind.i64 0, AV.int IntKind.u8 0]) 1 3) none, XO.mk none
(XOp.store 3 (Opd.t 10) (Opd.t 21)) none] [20, 21]) (XC.reg 512 [XO.mk (some 11) (XOp.new (Cont.cells [AV.bool false, AV.bool false]) 1 2) none, XO.mk none (XOp.store 2 (Opd.t 11) (Opd.t 22)) none]
[22]) ∧ XC.block 1 (XC.seq (XC.reg 576 [XO.mk (some 23) (XOp.load none (Opd.t 5)) none, XO.mk (some 24) (XOp.load (some 2) (Opd.t 11)) none, XO.mk (some 25) (XOp.callv (Opd.t 23) [Opd.t 24]) none] [5,
11, 23, 24]) (XC.cond (Opd.t 25) (XC.reg 640 [XO.mk (some 26) (XOp.load none (Opd.t 9)) none, XO.mk (some 27) (XOp.load (some 3) (Opd.t 10)) none, XO.mk (some 28) (XOp.buildS 3 1 0 [AV.int IntKind.i64
0, AV.int IntKind.i64 0, AV.int IntKind.u8 0] [(0, 3, Opd.t 27)]) none, XO.mk (some 29) (XOp.append 3 24 0 (Opd.t 26) (Opd.t 28)) none, XO.mk none (XOp.store 1 (Opd.t 9) (Opd.t 29)) none] [10, 25, 26,
27, 28, 29]) XC.skip)) = XC.block 1 (XC.seq (XC.reg 576 [XO.mk (some 23) (XOp.load none (Opd.t 5)) none, XO.mk (some 24) (XOp.load (some 2) (Opd.t 11)) none, XO.mk (some 25) (XOp.callv (Opd.t 23)
[Opd.t 24]) none] [5, 11, 23, 24]) (XC.cond (Opd.t 25) (XC.reg 640 [XO.mk (some 26) (XOp.load none (Opd.t 9)) none, XO.mk (some 27) (XOp.load (some 3) (Opd.t 10)) none, XO.mk (some 28) (XOp.buildS 3 1
0 [AV.int IntKind.i64 0, AV.int IntKind.i64 0, AV.int IntKind.u8 0] [(0, 3, Opd.t 27)]) none, XO.mk (some 29) (XOp.append 3 24 0 (Opd.t 26) (Opd.t 28)) none, XO.mk none (XOp.store 1 (Opd.t 9) (Opd.t
29)) none] [10, 25, 26, 27, 28, 29]) XC.skip)) ∧ 0 = 0 ∧ 0 = 0 ∧ 0 = 0 ∧ 0 = 0 ∧ 0 = 0 ∧ 0 = 0 ∧ iI 1 = 1 ∧ 1 = ordV b.a b.n b.b b.m ∧ True) ∧ (((↑b.n : Int) == 0) = false → (((↑b.m : Int) == 0) =
true → 1 = 1 ∧ Cont.vals b.b = Cont.vals b.b ∧ b.m = b.m ∧ 1 = 1 ∧ Cont.vals b.a = Cont.vals b.a ∧ b.n = b.n ∧ b.k = b.k ∧ b.o = b.o ∧ 1 = 1 ∧ b.k = b.k ∧ 1 = 1 ∧ 0 = 0 ∧ (none : Option Ex) = none ∧
35 = 35 ∧ [21, 22] = [21, 22] ∧ XC.seq (XC.reg 448 [XO.mk (some 10) (XOp.new (Cont.cells [AV.int IntKind.i64 0, AV.int IntKind.i64 0, AV.int IntKind.u8 0]) 1 3) none, XO.mk none (XOp.store 3 (Opd.t
10) (Opd.t 21)) none] [20, 21]) (XC.reg 512 [XO.mk (some 11) (XOp.new (Cont.cells [AV.bool false, AV.bool false]) 1 2) none, XO.mk none (XOp.store 2 (Opd.t 11) (Opd.t 22)) none] [22]) = XC.seq (XC.reg
448 [XO.mk (some 10) (XOp.new (Cont.cells [AV.int IntKind.i64 0, AV.int IntKind.i64 0, AV.int IntKind.u8 0]) 1 3) none, XO.mk none (XOp.store 3 (Opd.t 10) (Opd.t 21)) none] [20, 21]) (XC.reg 512
[XO.mk (some 11) (XOp.new (Cont.cells [AV.bool false, AV.bool false]) 1 2) none, XO.mk none (XOp.store 2 (Opd.t 11) (Opd.t 22)) none] [22]) ∧ XC.block 1 (XC.seq (XC.reg 576 [XO.mk (some 23) (XOp.load
none (Opd.t 5)) none, XO.mk (some 24) (XOp.load (some 2) (Opd.t 11)) none, XO.mk (some 25) (XOp.callv (Opd.t 23) [Opd.t 24]) none] [5, 11, 23, 24]) (XC.cond (Opd.t 25) (XC.reg 640 [XO.mk (some 26)
(XOp.load none (Opd.t 9)) none, XO.mk (some 27) (XOp.load (some 3) (Opd.t 10)) none, XO.mk (some 28) (XOp.buildS 3 1 0 [AV.int IntKind.i64 0, AV.int IntKind.i64 0, AV.int IntKind.u8 0] [(0, 3, Opd.t
27)]) none, XO.mk (some 29) (XOp.append 3 24 0 (Opd.t 26) (Opd.t 28)) none, XO.mk none (XOp.store 1 (Opd.t 9) (Opd.t 29)) none] [10, 25, 26, 27, 28, 29]) XC.skip)) = XC.block 1 (XC.seq (XC.reg 576
[XO.mk (some 23) (XOp.load none (Opd.t 5)) none, XO.mk (some 24) (XOp.load (some 2) (Opd.t 11)) none, XO.mk (some 25) (XOp.callv (Opd.t 23) [Opd.t 24]) none] [5, 11, 23, 24]) (XC.cond (Opd.t 25)
(XC.reg 640 [XO.mk (some 26) (XOp.load none (Opd.t 9)) none, XO.mk (some 27) (XOp.load (some 3) (Opd.t 10)) none, XO.mk (some 28) (XOp.buildS 3 1 0 [AV.int IntKind.i64 0, AV.int IntKind.i64 0, AV.int
IntKind.u8 0] [(0, 3, Opd.t 27)]) none, XO.mk (some 29) (XOp.append 3 24 0 (Opd.t 26) (Opd.t 28)) none, XO.mk none (XOp.store 1 (Opd.t 9) (Opd.t 29)) none] [10, 25, 26, 27, 28, 29]) XC.skip)) ∧ 0 = 0
∧ 0 = 0 ∧ 0 = 0 ∧ 0 = 0 ∧ 0 = 0 ∧ 0 = 0 ∧ iI (-1) = -1 ∧ -1 = ordV b.a b.n b.b b.m ∧ True) ∧ (((↑b.m : Int) == 0) = false → ltb 0 (↑b.n : Int) = true ∧ ltn 0 (Cont.size (Cont.vals b.a)) = true ∧
(List.drop 0 b.a)[0]? = some (AV.int IntKind.i64 (kX (unK b.a) 0)) ∧ (List.drop 0 b.a)[1]? = some (AV.int IntKind.i64 (kY (unK b.a) 0)) ∧ (List.drop 0 b.a)[2]? = some (AV.int IntKind.u8 (kQ (unK b.a)
0)) ∧ ltb 0 (↑b.m : Int) = true ∧ ltn 0 (Cont.size (Cont.vals b.b)) = true ∧ (List.drop 0 b.b)[0]? = some (AV.int IntKind.i64 (kX (unK b.b) 0)) ∧ (List.drop 0 b.b)[1]? = some (AV.int IntKind.i64 (kY
(unK b.b) 0)) ∧ (List.drop 0 b.b)[2]? = some (AV.int IntKind.u8 (kQ (unK b.b) 0)) ∧ (0 ≤ kQ (unK b.a) 0 ∧ kQ (unK b.a) 0 ≤ 255 ∧ 0 ≤ kQ (unK b.b) 0 ∧ kQ (unK b.b) 0 ≤ 255) ∧ 1 = 1 ∧ Cont.vals b.b =
Cont.vals b.b ∧ b.m = b.m ∧ 1 = 1 ∧ Cont.vals b.a = Cont.vals b.a ∧ b.n = b.n ∧ b.k = b.k ∧ b.o = b.o ∧ 1 = 1 ∧ b.k = b.k ∧ 1 = 1 ∧ 0 = 0 ∧ (none : Option Ex) = none ∧ 35 = 35 ∧ [21, 22] = [21, 22] ∧
XC.seq (XC.reg 448 [XO.mk (some 10) (XOp.new (Cont.cells [AV.int IntKind.i64 0, AV.int IntKind.i64 0, AV.int IntKind.u8 0]) 1 3) none, XO.mk none (XOp.store 3 (Opd.t 10) (Opd.t 21)) none] [20, 21])
(XC.reg 512 [XO.mk (some 11) (XOp.new (Cont.cells [AV.bool false, AV.bool false]) 1 2) none, XO.mk none (XOp.store 2 (Opd.t 11) (Opd.t 22)) none] [22]) = XC.seq (XC.reg 448 [XO.mk (some 10) (XOp.new
(Cont.cells [AV.int IntKind.i64 0, AV.int IntKind.i64 0, AV.int IntKind.u8 0]) 1 3) none, XO.mk none (XOp.store 3 (Opd.t 10) (Opd.t 21)) none] [20, 21]) (XC.reg 512 [XO.mk (some 11) (XOp.new
(Cont.cells [AV.bool false, AV.bool false]) 1 2) none, XO.mk none (XOp.store 2 (Opd.t 11) (Opd.t 22)) none] [22]) ∧ XC.block 1 (XC.seq (XC.reg 576 [XO.mk (some 23) (XOp.load none (Opd.t 5)) none,
XO.mk (some 24) (XOp.load (some 2) (Opd.t 11)) none, XO.mk (some 25) (XOp.callv (Opd.t 23) [Opd.t 24]) none] [5, 11, 23, 24]) (XC.cond (Opd.t 25) (XC.reg 640 [XO.mk (some 26) (XOp.load none (Opd.t 9))
none, XO.mk (some 27) (XOp.load (some 3) (Opd.t 10)) none, XO.mk (some 28) (XOp.buildS 3 1 0 [AV.int IntKind.i64 0, AV.int IntKind.i64 0, AV.int IntKind.u8 0] [(0, 3, Opd.t 27)]) none, XO.mk (some 29)
(XOp.append 3 24 0 (Opd.t 26) (Opd.t 28)) none, XO.mk none (XOp.store 1 (Opd.t 9) (Opd.t 29)) none] [10, 25, 26, 27, 28, 29]) XC.skip)) = XC.block 1 (XC.seq (XC.reg 576 [XO.mk (some 23) (XOp.load none
(Opd.t 5)) none, XO.mk (some 24) (XOp.load (some 2) (Opd.t 11)) none, XO.mk (some 25) (XOp.callv (Opd.t 23) [Opd.t 24]) none] [5, 11, 23, 24]) (XC.cond (Opd.t 25) (XC.reg 640 [XO.mk (some 26)
(XOp.load none (Opd.t 9)) none, XO.mk (some 27) (XOp.load (some 3) (Opd.t 10)) none, XO.mk (some 28) (XOp.buildS 3 1 0 [AV.int IntKind.i64 0, AV.int IntKind.i64 0, AV.int IntKind.u8 0] [(0, 3, Opd.t
27)]) none, XO.mk (some 29) (XOp.append 3 24 0 (Opd.t 26) (Opd.t 28)) none, XO.mk none (XOp.store 1 (Opd.t 9) (Opd.t 29)) none] [10, 25, 26, 27, 28, 29]) XC.skip)) ∧ 0 = 0 ∧ 0 = 0 ∧ 0 = 0 ∧ 0 = 0 ∧ 0
= 0 ∧ 0 = 0 ∧ cmpC (kX (unK b.a) 0, kY (unK b.a) 0, kQ (unK b.a) 0) (kX (unK b.b) 0, kY (unK b.b) 0, kQ (unK b.b) 0) = cmpC (kX (unK b.a) 0, kY (unK b.a) 0, kQ (unK b.a) 0) (kX (unK b.b) 0, kY (unK
b.b) 0, kQ (unK b.b) 0) ∧ cmpC (kX (unK b.a) 0, kY (unK b.a) 0, kQ (unK b.a) 0) (kX (unK b.b) 0, kY (unK b.b) 0, kQ (unK b.b) 0) = ordV b.a b.n b.b b.m ∧ True))) ∧ ∀ (b_1 : VI), b_1.v = ordV b.a b.n
b.b b.m → (leb 0 b_1.v = true → ltb 0 (↑b.m : Int) = true ∧ ltn 0 (Cont.size (Cont.vals b.b)) = true ∧ (List.drop 0 b.b)[0]? = some (AV.int IntKind.i64 (kX (unK b.b) 0)) ∧ (List.drop 0 b.b)[1]? = some
(AV.int IntKind.i64 (kY (unK b.b) 0)) ∧ (List.drop 0 b.b)[2]? = some (AV.int IntKind.u8 (kQ (unK b.b) 0)) ∧ len' 1 b.m = true ∧ Cont.size (Cont.vals b.b) = b.m * 3 ∧ (leb b_1.v 0 = true → ltb 0 (↑b.n
: Int) = true ∧ ltn 0 (Cont.size (Cont.vals b.a)) = true ∧ (List.drop 0 b.a)[0]? = some (AV.int IntKind.i64 (kX (unK b.a) 0)) ∧ (List.drop 0 b.a)[1]? = some (AV.int IntKind.i64 (kY (unK b.a) 0)) ∧
(List.drop 0 b.a)[2]? = some (AV.int IntKind.u8 (kQ (unK b.a) 0)) ∧ len' 1 b.n = true ∧ Cont.size (Cont.vals b.a) = b.n * 3 ∧ ([(24705, HO.blk (Blk.mk (Cont.cells [AV.imm (Cont.vals (List.drop 3 b.b))
(b.m - 1) none]) 1 1 none (some false) true true)), (24704, HO.blk (Blk.mk (Cont.cells [AV.imm (Cont.vals (List.drop 3 b.a)) (b.n - 1) none]) 1 1 none (some false) true true)), (9001, HO.blk (Blk.mk
(Cont.vals b.o) 3 b.k none (some true) true false)), (320, HO.blk (Blk.mk (Cont.cells [AV.full 9001 b.k]) 1 1 none (some false) true true)), (64, HO.blk (Blk.mk (Cont.cells [AV.fn 91 [] []]) 1 1 none
(some false) true true)), (9002, HO.loop (LoopS.mk 0 none [(5, AV.ptr 64 0), (9, AV.ptr 320 0), (20, AV.fn 164 [] [AV.ptr 24704 0, AV.ptr 24705 0])] 35 [21, 22] (XC.seq (XC.reg 448 [XO.mk (some 10)
(XOp.new (Cont.cells [AV.int IntKind.i64 0, AV.int IntKind.i64 0, AV.int IntKind.u8 0]) 1 3) none, XO.mk none (XOp.store 3 (Opd.t 10) (Opd.t 21)) none] [20, 21]) (XC.reg 512 [XO.mk (some 11) (XOp.new
(Cont.cells [AV.bool false, AV.bool false]) 1 2) none, XO.mk none (XOp.store 2 (Opd.t 11) (Opd.t 22)) none] [22])) (XC.block 1 (XC.seq (XC.reg 576 [XO.mk (some 23) (XOp.load none (Opd.t 5)) none,
XO.mk (some 24) (XOp.load (some 2) (Opd.t 11)) none, XO.mk (some 25) (XOp.callv (Opd.t 23) [Opd.t 24]) none] [5, 11, 23, 24]) (XC.cond (Opd.t 25) (XC.reg 640 [XO.mk (some 26) (XOp.load none (Opd.t 9))
none, XO.mk (some 27) (XOp.load (some 3) (Opd.t 10)) none, XO.mk (some 28) (XOp.buildS 3 1 0 [AV.int IntKind.i64 0, AV.int IntKind.i64 0, AV.int IntKind.u8 0] [(0, 3, Opd.t 27)]) none, XO.mk (some 29)
(XOp.append 3 24 0 (Opd.t 26) (Opd.t 28)) none, XO.mk none (XOp.store 1 (Opd.t 9) (Opd.t 29)) none] [10, 25, 26, 27, 28, 29]) XC.skip)))))] = [(24705, HO.blk (Blk.mk (Cont.cells [AV.imm (Cont.vals
(List.drop 3 b.b)) (b.m - 1) none]) 1 1 none (some false) true true)), (24704, HO.blk (Blk.mk (Cont.cells [AV.imm (Cont.vals (List.drop 3 b.a)) (b.n - 1) none]) 1 1 none (some false) true true)),
(9001, HO.blk (Blk.mk (Cont.vals (flatK (unK b.o))) 3 (List.length (unK b.o)) none (some true) true false)), (320, HO.blk (Blk.mk (Cont.cells [AV.full 9001 (List.length (unK b.o))]) 1 1 none (some
false) true true)), (64, HO.blk (Blk.mk (Cont.cells [AV.fn 91 [] []]) 1 1 none (some false) true true)), (9002, HO.loop (LoopS.mk 0 none [(5, AV.ptr 64 0), (9, AV.ptr 320 0), (20, AV.fn 164 [] [AV.ptr
24704 0, AV.ptr 24705 0])] 35 [21, 22] (XC.seq (XC.reg 448 [XO.mk (some 10) (XOp.new (Cont.cells [AV.int IntKind.i64 0, AV.int IntKind.i64 0, AV.int IntKind.u8 0]) 1 3) none, XO.mk none (XOp.store 3
(Opd.t 10) (Opd.t 21)) none] [20, 21]) (XC.reg 512 [XO.mk (some 11) (XOp.new (Cont.cells [AV.bool false, AV.bool false]) 1 2) none, XO.mk none (XOp.store 2 (Opd.t 11) (Opd.t 22)) none] [22]))
(XC.block 1 (XC.seq (XC.reg 576 [XO.mk (some 23) (XOp.load none (Opd.t 5)) none, XO.mk (some 24) (XOp.load (some 2) (Opd.t 11)) none, XO.mk (some 25) (XOp.callv (Opd.t 23) [Opd.t 24]) none] [5, 11,
23, 24]) (XC.cond (Opd.t 25) (XC.reg 640 [XO.mk (some 26) (XOp.load none (Opd.t 9)) none, XO.mk (some 27) (XOp.load (some 3) (Opd.t 10)) none, XO.mk (some 28) (XOp.buildS 3 1 0 [AV.int IntKind.i64 0,
AV.int IntKind.i64 0, AV.int IntKind.u8 0] [(0, 3, Opd.t 27)]) none, XO.mk (some 29) (XOp.append 3 24 0 (Opd.t 26) (Opd.t 28)) none, XO.mk none (XOp.store 1 (Opd.t 9) (Opd.t 29)) none] [10, 25, 26,
27, 28, 29]) XC.skip)))))] ∧ List.length (unK b.o) < 1000000) ∧ 1 = 1 ∧ Cont.vals (List.drop 3 b.b) = Cont.vals (List.drop 3 b.b) ∧ b.m - 1 = b.m - 1 ∧ 1 = 1 ∧ Cont.vals (List.drop 3 b.a) = Cont.vals
(List.drop 3 b.a) ∧ b.n - 1 = b.n - 1 ∧ List.length (addK (kpF 91 (leb b_1.v 0) (leb 0 b_1.v)) (unK b.o) (kX (unK b.a) 0, kY (unK b.a) 0, kQ (unK b.a) 0)) = List.length (addK (kpF 91 (leb b_1.v 0)
(leb 0 b_1.v)) (unK b.o) (kX (unK b.a) 0, kY (unK b.a) 0, kQ (unK b.a) 0)) ∧ flatK (addK (kpF 91 (leb b_1.v 0) (leb 0 b_1.v)) (unK b.o) (kX (unK b.a) 0, kY (unK b.a) 0, kQ (unK b.a) 0)) = flatK (addK
(kpF 91 (leb b_1.v 0) (leb 0 b_1.v)) (unK b.o) (kX (unK b.a) 0, kY (unK b.a) 0, kQ (unK b.a) 0)) ∧ 1 = 1 ∧ List.length (addK (kpF 91 (leb b_1.v 0) (leb 0 b_1.v)) (unK b.o) (kX (unK b.a) 0, kY (unK
b.a) 0, kQ (unK b.a) 0)) = List.length (addK (kpF 91 (leb b_1.v 0) (leb 0 b_1.v)) (unK b.o) (kX (unK b.a) 0, kY (unK b.a) 0, kQ (unK b.a) 0)) ∧ 1 = 1 ∧ 0 = 0 ∧ (none : Option Ex) = none ∧ 35 = 35 ∧
[21, 22] = [21, 22] ∧ XC.seq (XC.reg 448 [XO.mk (some 10) (XOp.new (Cont.cells [AV.int IntKind.i64 0, AV.int IntKind.i64 0, AV.int IntKind.u8 0]) 1 3) none, XO.mk none (XOp.store 3 (Opd.t 10) (Opd.t
21)) none] [20, 21]) (XC.reg 512 [XO.mk (some 11) (XOp.new (Cont.cells [AV.bool false, AV.bool false]) 1 2) none, XO.mk none (XOp.store 2 (Opd.t 11) (Opd.t 22)) none] [22]) = XC.seq (XC.reg 448 [XO.mk
(some 10) (XOp.new (Cont.cells [AV.int IntKind.i64 0, AV.int IntKind.i64 0, AV.int IntKind.u8 0]) 1 3) none, XO.mk none (XOp.store 3 (Opd.t 10) (Opd.t 21)) none] [20, 21]) (XC.reg 512 [XO.mk (some 11)
(XOp.new (Cont.cells [AV.bool false, AV.bool false]) 1 2) none, XO.mk none (XOp.store 2 (Opd.t 11) (Opd.t 22)) none] [22]) ∧ XC.block 1 (XC.seq (XC.reg 576 [XO.mk (some 23) (XOp.load none (Opd.t 5))
none, XO.mk (some 24) (XOp.load (some 2) (Opd.t 11)) none, XO.mk (some 25) (XOp.callv (Opd.t 23) [Opd.t 24]) none] [5, 11, 23, 24]) (XC.cond (Opd.t 25) (XC.reg 640 [XO.mk (some 26) (XOp.load none
(Opd.t 9)) none, XO.mk (some 27) (XOp.load (some 3) (Opd.t 10)) none, XO.mk (some 28) (XOp.buildS 3 1 0 [AV.int IntKind.i64 0, AV.int IntKind.i64 0, AV.int IntKind.u8 0] [(0, 3, Opd.t 27)]) none,
XO.mk (some 29) (XOp.append 3 24 0 (Opd.t 26) (Opd.t 28)) none, XO.mk none (XOp.store 1 (Opd.t 9) (Opd.t 29)) none] [10, 25, 26, 27, 28, 29]) XC.skip)) = XC.block 1 (XC.seq (XC.reg 576 [XO.mk (some
23) (XOp.load none (Opd.t 5)) none, XO.mk (some 24) (XOp.load (some 2) (Opd.t 11)) none, XO.mk (some 25) (XOp.callv (Opd.t 23) [Opd.t 24]) none] [5, 11, 23, 24]) (XC.cond (Opd.t 25) (XC.reg 640 [XO.mk
(some 26) (XOp.load none (Opd.t 9)) none, XO.mk (some 27) (XOp.load (some 3) (Opd.t 10)) none, XO.mk (some 28) (XOp.buildS 3 1 0 [AV.int IntKind.i64 0, AV.int IntKind.i64 0, AV.int IntKind.u8 0] [(0,
3, Opd.t 27)]) none, XO.mk (some 29) (XOp.append 3 24 0 (Opd.t 26) (Opd.t 28)) none, XO.mk none (XOp.store 1 (Opd.t 9) (Opd.t 29)) none] [10, 25, 26, 27, 28, 29]) XC.skip)) ∧ 0 = 0 ∧ 0 = 0 ∧ 0 = 0 ∧ 0
= 0 ∧ 0 = 0 ∧ 0 = 0 ∧ (∃ (a : List Cl), ∃ (b_2 : List Cl), ∃ (o : List Cl), List.drop 3 b.a = flatK a ∧ b.n - 1 = List.length a ∧ List.drop 3 b.b = flatK b_2 ∧ b.m - 1 = List.length b_2 ∧ flatK (addK
(kpF 91 (leb b_1.v 0) (leb 0 b_1.v)) (unK b.o) (kX (unK b.a) 0, kY (unK b.a) 0, kQ (unK b.a) 0)) = flatK o ∧ List.length (addK (kpF 91 (leb b_1.v 0) (leb 0 b_1.v)) (unK b.o) (kX (unK b.a) 0, kY (unK
b.a) 0, kQ (unK b.a) 0)) = List.length o ∧ okQ a ∧ okQ b_2 ∧ List.length o + List.length a + List.length b_2 ≤ List.length A + List.length B ∧ o ++ mrg 91 a b_2 = mrg 91 A B) ∧ b.n - 1 + (b.m - 1) <
b.n + b.m ∧ True) ∧ (leb b_1.v 0 = false → ([(24705, HO.blk (Blk.mk (Cont.cells [AV.imm (Cont.vals (List.drop 3 b.b)) (b.m - 1) none]) 1 1 none (some false) true true)), (24704, HO.blk (Blk.mk
(Cont.cells [AV.imm (Cont.vals b.a) b.n none]) 1 1 none (some false) true true)), (9001, HO.blk (Blk.mk (Cont.vals b.o) 3 b.k none (some true) true false)), (320, HO.blk (Blk.mk (Cont.cells [AV.full
9001 b.k]) 1 1 none (some false) true true)), (64, HO.blk (Blk.mk (Cont.cells [AV.fn 91 [] []]) 1 1 none (some false) true true)), (9002, HO.loop (LoopS.mk 0 none [(5, AV.ptr 64 0), (9, AV.ptr 320 0),
(20, AV.fn 164 [] [AV.ptr 24704 0, AV.ptr 24705 0])] 35 [21, 22] (XC.seq (XC.reg 448 [XO.mk (some 10) (XOp.new (Cont.cells [AV.int IntKind.i64 0, AV.int IntKind.i64 0, AV.int IntKind.u8 0]) 1 3) none,
XO.mk none (XOp.store 3 (Opd.t 10) (Opd.t 21)) none] [20, 21]) (XC.reg 512 [XO.mk (some 11) (XOp.new (Cont.cells [AV.bool false, AV.bool false]) 1 2) none, XO.mk none (XOp.store 2 (Opd.t 11) (Opd.t
22)) none] [22])) (XC.block 1 (XC.seq (XC.reg 576 [XO.mk (some 23) (XOp.load none (Opd.t 5)) none, XO.mk (some 24) (XOp.load (some 2) (Opd.t 11)) none, XO.mk (some 25) (XOp.callv (Opd.t 23) [Opd.t
24]) none] [5, 11, 23, 24]) (XC.cond (Opd.t 25) (XC.reg 640 [XO.mk (some 26) (XOp.load none (Opd.t 9)) none, XO.mk (some 27) (XOp.load (some 3) (Opd.t 10)) none, XO.mk (some 28) (XOp.buildS 3 1 0
[AV.int IntKind.i64 0, AV.int IntKind.i64 0, AV.int IntKind.u8 0] [(0, 3, Opd.t 27)]) none, XO.mk (some 29) (XOp.append 3 24 0 (Opd.t 26) (Opd.t 28)) none, XO.mk none (XOp.store 1 (Opd.t 9) (Opd.t
29)) none] [10, 25, 26, 27, 28, 29]) XC.skip)))))] = [(24705, HO.blk (Blk.mk (Cont.cells [AV.imm (Cont.vals (List.drop 3 b.b)) (b.m - 1) none]) 1 1 none (some false) true true)), (24704, HO.blk
(Blk.mk (Cont.cells [AV.imm (Cont.vals b.a) b.n none]) 1 1 none (some false) true true)), (9001, HO.blk (Blk.mk (Cont.vals (flatK (unK b.o))) 3 (List.length (unK b.o)) none (some true) true false)),
(320, HO.blk (Blk.mk (Cont.cells [AV.full 9001 (List.length (unK b.o))]) 1 1 none (some false) true true)), (64, HO.blk (Blk.mk (Cont.cells [AV.fn 91 [] []]) 1 1 none (some false) true true)), (9002,
HO.loop (LoopS.mk 0 none [(5, AV.ptr 64 0), (9, AV.ptr 320 0), (20, AV.fn 164 [] [AV.ptr 24704 0, AV.ptr 24705 0])] 35 [21, 22] (XC.seq (XC.reg 448 [XO.mk (some 10) (XOp.new (Cont.cells [AV.int
IntKind.i64 0, AV.int IntKind.i64 0, AV.int IntKind.u8 0]) 1 3) none, XO.mk none (XOp.store 3 (Opd.t 10) (Opd.t 21)) none] [20, 21]) (XC.reg 512 [XO.mk (some 11) (XOp.new (Cont.cells [AV.bool false,
AV.bool false]) 1 2) none, XO.mk none (XOp.store 2 (Opd.t 11) (Opd.t 22)) none] [22])) (XC.block 1 (XC.seq (XC.reg 576 [XO.mk (some 23) (XOp.load none (Opd.t 5)) none, XO.mk (some 24) (XOp.load (some
2) (Opd.t 11)) none, XO.mk (some 25) (XOp.callv (Opd.t 23) [Opd.t 24]) none] [5, 11, 23, 24]) (XC.cond (Opd.t 25) (XC.reg 640 [XO.mk (some 26) (XOp.load none (Opd.t 9)) none, XO.mk (some 27) (XOp.load
(some 3) (Opd.t 10)) none, XO.mk (some 28) (XOp.buildS 3 1 0 [AV.int IntKind.i64 0, AV.int IntKind.i64 0, AV.int IntKind.u8 0] [(0, 3, Opd.t 27)]) none, XO.mk (some 29) (XOp.append 3 24 0 (Opd.t 26)
(Opd.t 28)) none, XO.mk none (XOp.store 1 (Opd.t 9) (Opd.t 29)) none] [10, 25, 26, 27, 28, 29]) XC.skip)))))] ∧ List.length (unK b.o) < 1000000) ∧ 1 = 1 ∧ Cont.vals (List.drop 3 b.b) = Cont.vals
(List.drop 3 b.b) ∧ b.m - 1 = b.m - 1 ∧ 1 = 1 ∧ Cont.vals b.a = Cont.vals b.a ∧ b.n = b.n ∧ List.length (addK (kpF 91 (leb b_1.v 0) (leb 0 b_1.v)) (unK b.o) (kX (unK b.b) 0, kY (unK b.b) 0, kQ (unK
b.b) 0)) = List.length (addK (kpF 91 (leb b_1.v 0) (leb 0 b_1.v)) (unK b.o) (kX (unK b.b) 0, kY (unK b.b) 0, kQ (unK b.b) 0)) ∧ flatK (addK (kpF 91 (leb b_1.v 0) (leb 0 b_1.v)) (unK b.o) (kX (unK b.b)
0, kY (unK b.b) 0, kQ (unK b.b) 0)) = flatK (addK (kpF 91 (leb b_1.v 0) (leb 0 b_1.v)) (unK b.o) (kX (unK b.b) 0, kY (unK b.b) 0, kQ (unK b.b) 0)) ∧ 1 = 1 ∧ List.length (addK (kpF 91 (leb b_1.v 0)
(leb 0 b_1.v)) (unK b.o) (kX (unK b.b) 0, kY (unK b.b) 0, kQ (unK b.b) 0)) = List.length (addK (kpF 91 (leb b_1.v 0) (leb 0 b_1.v)) (unK b.o) (kX (unK b.b) 0, kY (unK b.b) 0, kQ (unK b.b) 0)) ∧ 1 = 1
∧ 0 = 0 ∧ (none : Option Ex) = none ∧ 35 = 35 ∧ [21, 22] = [21, 22] ∧ XC.seq (XC.reg 448 [XO.mk (some 10) (XOp.new (Cont.cells [AV.int IntKind.i64 0, AV.int IntKind.i64 0, AV.int IntKind.u8 0]) 1 3)
none, XO.mk none (XOp.store 3 (Opd.t 10) (Opd.t 21)) none] [20, 21]) (XC.reg 512 [XO.mk (some 11) (XOp.new (Cont.cells [AV.bool false, AV.bool false]) 1 2) none, XO.mk none (XOp.store 2 (Opd.t 11)
(Opd.t 22)) none] [22]) = XC.seq (XC.reg 448 [XO.mk (some 10) (XOp.new (Cont.cells [AV.int IntKind.i64 0, AV.int IntKind.i64 0, AV.int IntKind.u8 0]) 1 3) none, XO.mk none (XOp.store 3 (Opd.t 10)
(Opd.t 21)) none] [20, 21]) (XC.reg 512 [XO.mk (some 11) (XOp.new (Cont.cells [AV.bool false, AV.bool false]) 1 2) none, XO.mk none (XOp.store 2 (Opd.t 11) (Opd.t 22)) none] [22]) ∧ XC.block 1 (XC.seq
(XC.reg 576 [XO.mk (some 23) (XOp.load none (Opd.t 5)) none, XO.mk (some 24) (XOp.load (some 2) (Opd.t 11)) none, XO.mk (some 25) (XOp.callv (Opd.t 23) [Opd.t 24]) none] [5, 11, 23, 24]) (XC.cond
(Opd.t 25) (XC.reg 640 [XO.mk (some 26) (XOp.load none (Opd.t 9)) none, XO.mk (some 27) (XOp.load (some 3) (Opd.t 10)) none, XO.mk (some 28) (XOp.buildS 3 1 0 [AV.int IntKind.i64 0, AV.int IntKind.i64
0, AV.int IntKind.u8 0] [(0, 3, Opd.t 27)]) none, XO.mk (some 29) (XOp.append 3 24 0 (Opd.t 26) (Opd.t 28)) none, XO.mk none (XOp.store 1 (Opd.t 9) (Opd.t 29)) none] [10, 25, 26, 27, 28, 29])
XC.skip)) = XC.block 1 (XC.seq (XC.reg 576 [XO.mk (some 23) (XOp.load none (Opd.t 5)) none, XO.mk (some 24) (XOp.load (some 2) (Opd.t 11)) none, XO.mk (some 25) (XOp.callv (Opd.t 23) [Opd.t 24]) none]
[5, 11, 23, 24]) (XC.cond (Opd.t 25) (XC.reg 640 [XO.mk (some 26) (XOp.load none (Opd.t 9)) none, XO.mk (some 27) (XOp.load (some 3) (Opd.t 10)) none, XO.mk (some 28) (XOp.buildS 3 1 0 [AV.int
IntKind.i64 0, AV.int IntKind.i64 0, AV.int IntKind.u8 0] [(0, 3, Opd.t 27)]) none, XO.mk (some 29) (XOp.append 3 24 0 (Opd.t 26) (Opd.t 28)) none, XO.mk none (XOp.store 1 (Opd.t 9) (Opd.t 29)) none]
[10, 25, 26, 27, 28, 29]) XC.skip)) ∧ 0 = 0 ∧ 0 = 0 ∧ 0 = 0 ∧ 0 = 0 ∧ 0 = 0 ∧ 0 = 0 ∧ (∃ (a : List Cl), ∃ (b_2 : List Cl), ∃ (o : List Cl), b.a = flatK a ∧ b.n = List.length a ∧ List.drop 3 b.b =
flatK b_2 ∧ b.m - 1 = List.length b_2 ∧ flatK (addK (kpF 91 (leb b_1.v 0) (leb 0 b_1.v)) (unK b.o) (kX (unK b.b) 0, kY (unK b.b) 0, kQ (unK b.b) 0)) = flatK o ∧ List.length (addK (kpF 91 (leb b_1.v 0)
(leb 0 b_1.v)) (unK b.o) (kX (unK b.b) 0, kY (unK b.b) 0, kQ (unK b.b) 0)) = List.length o ∧ okQ a ∧ okQ b_2 ∧ List.length o + List.length a + List.length b_2 ≤ List.length A + List.length B ∧ o ++
mrg 91 a b_2 = mrg 91 A B) ∧ b.n + (b.m - 1) < b.n + b.m ∧ True)) ∧ (leb 0 b_1.v = false → (leb b_1.v 0 = true → ltb 0 (↑b.n : Int) = true ∧ ltn 0 (Cont.size (Cont.vals b.a)) = true ∧ (List.drop 0
b.a)[0]? = some (AV.int IntKind.i64 (kX (unK b.a) 0)) ∧ (List.drop 0 b.a)[1]? = some (AV.int IntKind.i64 (kY (unK b.a) 0)) ∧ (List.drop 0 b.a)[2]? = some (AV.int IntKind.u8 (kQ (unK b.a) 0)) ∧ len' 1
b.n = true ∧ Cont.size (Cont.vals b.a) = b.n * 3 ∧ ([(24705, HO.blk (Blk.mk (Cont.cells [AV.imm (Cont.vals b.b) b.m none]) 1 1 none (some false) true true)), (24704, HO.blk (Blk.mk (Cont.cells [AV.imm
(Cont.vals (List.drop 3 b.a)) (b.n - 1) none]) 1 1 none (some false) true true)), (9001, HO.blk (Blk.mk (Cont.vals b.o) 3 b.k none (some true) true false)), (320, HO.blk (Blk.mk (Cont.cells [AV.full
9001 b.k]) 1 1 none (some false) true true)), (64, HO.blk (Blk.mk (Cont.cells [AV.fn 91 [] []]) 1 1 none (some false) true true)), (9002, HO.loop (LoopS.mk 0 none [(5, AV.ptr 64 0), (9, AV.ptr 320 0),
(20, AV.fn 164 [] [AV.ptr 24704 0, AV.ptr 24705 0])] 35 [21, 22] (XC.seq (XC.reg 448 [XO.mk (some 10) (XOp.new (Cont.cells [AV.int IntKind.i64 0, AV.int IntKind.i64 0, AV.int IntKind.u8 0]) 1 3) none,
XO.mk none (XOp.store 3 (Opd.t 10) (Opd.t 21)) none] [20, 21]) (XC.reg 512 [XO.mk (some 11) (XOp.new (Cont.cells [AV.bool false, AV.bool false]) 1 2) none, XO.mk none (XOp.store 2 (Opd.t 11) (Opd.t
22)) none] [22])) (XC.block 1 (XC.seq (XC.reg 576 [XO.mk (some 23) (XOp.load none (Opd.t 5)) none, XO.mk (some 24) (XOp.load (some 2) (Opd.t 11)) none, XO.mk (some 25) (XOp.callv (Opd.t 23) [Opd.t
24]) none] [5, 11, 23, 24]) (XC.cond (Opd.t 25) (XC.reg 640 [XO.mk (some 26) (XOp.load none (Opd.t 9)) none, XO.mk (some 27) (XOp.load (some 3) (Opd.t 10)) none, XO.mk (some 28) (XOp.buildS 3 1 0
[AV.int IntKind.i64 0, AV.int IntKind.i64 0, AV.int IntKind.u8 0] [(0, 3, Opd.t 27)]) none, XO.mk (some 29) (XOp.append 3 24 0 (Opd.t 26) (Opd.t 28)) none, XO.mk none (XOp.store 1 (Opd.t 9) (Opd.t
29)) none] [10, 25, 26, 27, 28, 29]) XC.skip)))))] = [(24705, HO.blk (Blk.mk (Cont.cells [AV.imm (Cont.vals b.b) b.m none]) 1 1 none (some false) true true)), (24704, HO.blk (Blk.mk (Cont.cells
[AV.imm (Cont.vals (List.drop 3 b.a)) (b.n - 1) none]) 1 1 none (some false) true true)), (9001, HO.blk (Blk.mk (Cont.vals (flatK (unK b.o))) 3 (List.length (unK b.o)) none (some true) true false)),
(320, HO.blk (Blk.mk (Cont.cells [AV.full 9001 (List.length (unK b.o))]) 1 1 none (some false) true true)), (64, HO.blk (Blk.mk (Cont.cells [AV.fn 91 [] []]) 1 1 none (some false) true true)), (9002,
HO.loop (LoopS.mk 0 none [(5, AV.ptr 64 0), (9, AV.ptr 320 0), (20, AV.fn 164 [] [AV.ptr 24704 0, AV.ptr 24705 0])] 35 [21, 22] (XC.seq (XC.reg 448 [XO.mk (some 10) (XOp.new (Cont.cells [AV.int
IntKind.i64 0, AV.int IntKind.i64 0, AV.int IntKind.u8 0]) 1 3) none, XO.mk none (XOp.store 3 (Opd.t 10) (Opd.t 21)) none] [20, 21]) (XC.reg 512 [XO.mk (some 11) (XOp.new (Cont.cells [AV.bool false,
AV.bool false]) 1 2) none, XO.mk none (XOp.store 2 (Opd.t 11) (Opd.t 22)) none] [22])) (XC.block 1 (XC.seq (XC.reg 576 [XO.mk (some 23) (XOp.load none (Opd.t 5)) none, XO.mk (some 24) (XOp.load (some
2) (Opd.t 11)) none, XO.mk (some 25) (XOp.callv (Opd.t 23) [Opd.t 24]) none] [5, 11, 23, 24]) (XC.cond (Opd.t 25) (XC.reg 640 [XO.mk (some 26) (XOp.load none (Opd.t 9)) none, XO.mk (some 27) (XOp.load
(some 3) (Opd.t 10)) none, XO.mk (some 28) (XOp.buildS 3 1 0 [AV.int IntKind.i64 0, AV.int IntKind.i64 0, AV.int IntKind.u8 0] [(0, 3, Opd.t 27)]) none, XO.mk (some 29) (XOp.append 3 24 0 (Opd.t 26)
(Opd.t 28)) none, XO.mk none (XOp.store 1 (Opd.t 9) (Opd.t 29)) none] [10, 25, 26, 27, 28, 29]) XC.skip)))))] ∧ List.length (unK b.o) < 1000000) ∧ 1 = 1 ∧ Cont.vals b.b = Cont.vals b.b ∧ b.m = b.m ∧ 1
= 1 ∧ Cont.vals (List.drop 3 b.a) = Cont.vals (List.drop 3 b.a) ∧ b.n - 1 = b.n - 1 ∧ List.length (addK (kpF 91 (leb b_1.v 0) (leb 0 b_1.v)) (unK b.o) (kX (unK b.a) 0, kY (unK b.a) 0, kQ (unK b.a) 0))
= List.length (addK (kpF 91 (leb b_1.v 0) (leb 0 b_1.v)) (unK b.o) (kX (unK b.a) 0, kY (unK b.a) 0, kQ (unK b.a) 0)) ∧ flatK (addK (kpF 91 (leb b_1.v 0) (leb 0 b_1.v)) (unK b.o) (kX (unK b.a) 0, kY
(unK b.a) 0, kQ (unK b.a) 0)) = flatK (addK (kpF 91 (leb b_1.v 0) (leb 0 b_1.v)) (unK b.o) (kX (unK b.a) 0, kY (unK b.a) 0, kQ (unK b.a) 0)) ∧ 1 = 1 ∧ List.length (addK (kpF 91 (leb b_1.v 0) (leb 0
b_1.v)) (unK b.o) (kX (unK b.a) 0, kY (unK b.a) 0, kQ (unK b.a) 0)) = List.length (addK (kpF 91 (leb b_1.v 0) (leb 0 b_1.v)) (unK b.o) (kX (unK b.a) 0, kY (unK b.a) 0, kQ (unK b.a) 0)) ∧ 1 = 1 ∧ 0 = 0
∧ (none : Option Ex) = none ∧ 35 = 35 ∧ [21, 22] = [21, 22] ∧ XC.seq (XC.reg 448 [XO.mk (some 10) (XOp.new (Cont.cells [AV.int IntKind.i64 0, AV.int IntKind.i64 0, AV.int IntKind.u8 0]) 1 3) none,
XO.mk none (XOp.store 3 (Opd.t 10) (Opd.t 21)) none] [20, 21]) (XC.reg 512 [XO.mk (some 11) (XOp.new (Cont.cells [AV.bool false, AV.bool false]) 1 2) none, XO.mk none (XOp.store 2 (Opd.t 11) (Opd.t
22)) none] [22]) = XC.seq (XC.reg 448 [XO.mk (some 10) (XOp.new (Cont.cells [AV.int IntKind.i64 0, AV.int IntKind.i64 0, AV.int IntKind.u8 0]) 1 3) none, XO.mk none (XOp.store 3 (Opd.t 10) (Opd.t 21))
none] [20, 21]) (XC.reg 512 [XO.mk (some 11) (XOp.new (Cont.cells [AV.bool false, AV.bool false]) 1 2) none, XO.mk none (XOp.store 2 (Opd.t 11) (Opd.t 22)) none] [22]) ∧ XC.block 1 (XC.seq (XC.reg 576
[XO.mk (some 23) (XOp.load none (Opd.t 5)) none, XO.mk (some 24) (XOp.load (some 2) (Opd.t 11)) none, XO.mk (some 25) (XOp.callv (Opd.t 23) [Opd.t 24]) none] [5, 11, 23, 24]) (XC.cond (Opd.t 25)
(XC.reg 640 [XO.mk (some 26) (XOp.load none (Opd.t 9)) none, XO.mk (some 27) (XOp.load (some 3) (Opd.t 10)) none, XO.mk (some 28) (XOp.buildS 3 1 0 [AV.int IntKind.i64 0, AV.int IntKind.i64 0, AV.int
IntKind.u8 0] [(0, 3, Opd.t 27)]) none, XO.mk (some 29) (XOp.append 3 24 0 (Opd.t 26) (Opd.t 28)) none, XO.mk none (XOp.store 1 (Opd.t 9) (Opd.t 29)) none] [10, 25, 26, 27, 28, 29]) XC.skip)) =
XC.block 1 (XC.seq (XC.reg 576 [XO.mk (some 23) (XOp.load none (Opd.t 5)) none, XO.mk (some 24) (XOp.load (some 2) (Opd.t 11)) none, XO.mk (some 25) (XOp.callv (Opd.t 23) [Opd.t 24]) none] [5, 11, 23,
24]) (XC.cond (Opd.t 25) (XC.reg 640 [XO.mk (some 26) (XOp.load none (Opd.t 9)) none, XO.mk (some 27) (XOp.load (some 3) (Opd.t 10)) none, XO.mk (some 28) (XOp.buildS 3 1 0 [AV.int IntKind.i64 0,
AV.int IntKind.i64 0, AV.int IntKind.u8 0] [(0, 3, Opd.t 27)]) none, XO.mk (some 29) (XOp.append 3 24 0 (Opd.t 26) (Opd.t 28)) none, XO.mk none (XOp.store 1 (Opd.t 9) (Opd.t 29)) none] [10, 25, 26,
27, 28, 29]) XC.skip)) ∧ 0 = 0 ∧ 0 = 0 ∧ 0 = 0 ∧ 0 = 0 ∧ 0 = 0 ∧ 0 = 0 ∧ (∃ (a : List Cl), ∃ (b_2 : List Cl), ∃ (o : List Cl), List.drop 3 b.a = flatK a ∧ b.n - 1 = List.length a ∧ b.b = flatK b_2 ∧
b.m = List.length b_2 ∧ flatK (addK (kpF 91 (leb b_1.v 0) (leb 0 b_1.v)) (unK b.o) (kX (unK b.a) 0, kY (unK b.a) 0, kQ (unK b.a) 0)) = flatK o ∧ List.length (addK (kpF 91 (leb b_1.v 0) (leb 0 b_1.v))
(unK b.o) (kX (unK b.a) 0, kY (unK b.a) 0, kQ (unK b.a) 0)) = List.length o ∧ okQ a ∧ okQ b_2 ∧ List.length o + List.length a + List.length b_2 ≤ List.length A + List.length B ∧ o ++ mrg 91 a b_2 =
mrg 91 A B) ∧ b.n - 1 + b.m < b.n + b.m ∧ True) ∧ (leb b_1.v 0 = false → ([(24705, HO.blk (Blk.mk (Cont.cells [AV.imm (Cont.vals b.b) b.m none]) 1 1 none (some false) true true)), (24704, HO.blk
(Blk.mk (Cont.cells [AV.imm (Cont.vals b.a) b.n none]) 1 1 none (some false) true true)), (9001, HO.blk (Blk.mk (Cont.vals b.o) 3 b.k none (some true) true false)), (320, HO.blk (Blk.mk (Cont.cells
[AV.full 9001 b.k]) 1 1 none (some false) true true)), (64, HO.blk (Blk.mk (Cont.cells [AV.fn 91 [] []]) 1 1 none (some false) true true)), (9002, HO.loop (LoopS.mk 0 none [(5, AV.ptr 64 0), (9,
AV.ptr 320 0), (20, AV.fn 164 [] [AV.ptr 24704 0, AV.ptr 24705 0])] 35 [21, 22] (XC.seq (XC.reg 448 [XO.mk (some 10) (XOp.new (Cont.cells [AV.int IntKind.i64 0, AV.int IntKind.i64 0, AV.int IntKind.u8
0]) 1 3) none, XO.mk none (XOp.store 3 (Opd.t 10) (Opd.t 21)) none] [20, 21]) (XC.reg 512 [XO.mk (some 11) (XOp.new (Cont.cells [AV.bool false, AV.bool false]) 1 2) none, XO.mk none (XOp.store 2
(Opd.t 11) (Opd.t 22)) none] [22])) (XC.block 1 (XC.seq (XC.reg 576 [XO.mk (some 23) (XOp.load none (Opd.t 5)) none, XO.mk (some 24) (XOp.load (some 2) (Opd.t 11)) none, XO.mk (some 25) (XOp.callv
(Opd.t 23) [Opd.t 24]) none] [5, 11, 23, 24]) (XC.cond (Opd.t 25) (XC.reg 640 [XO.mk (some 26) (XOp.load none (Opd.t 9)) none, XO.mk (some 27) (XOp.load (some 3) (Opd.t 10)) none, XO.mk (some 28)
(XOp.buildS 3 1 0 [AV.int IntKind.i64 0, AV.int IntKind.i64 0, AV.int IntKind.u8 0] [(0, 3, Opd.t 27)]) none, XO.mk (some 29) (XOp.append 3 24 0 (Opd.t 26) (Opd.t 28)) none, XO.mk none (XOp.store 1
(Opd.t 9) (Opd.t 29)) none] [10, 25, 26, 27, 28, 29]) XC.skip)))))] = [(24705, HO.blk (Blk.mk (Cont.cells [AV.imm (Cont.vals b.b) b.m none]) 1 1 none (some false) true true)), (24704, HO.blk (Blk.mk
(Cont.cells [AV.imm (Cont.vals b.a) b.n none]) 1 1 none (some false) true true)), (9001, HO.blk (Blk.mk (Cont.vals (flatK (unK b.o))) 3 (List.length (unK b.o)) none (some true) true false)), (320,
HO.blk (Blk.mk (Cont.cells [AV.full 9001 (List.length (unK b.o))]) 1 1 none (some false) true true)), (64, HO.blk (Blk.mk (Cont.cells [AV.fn 91 [] []]) 1 1 none (some false) true true)), (9002,
HO.loop (LoopS.mk 0 none [(5, AV.ptr 64 0), (9, AV.ptr 320 0), (20, AV.fn 164 [] [AV.ptr 24704 0, AV.ptr 24705 0])] 35 [21, 22] (XC.seq (XC.reg 448 [XO.mk (some 10) (XOp.new (Cont.cells [AV.int
IntKind.i64 0, AV.int IntKind.i64 0, AV.int IntKind.u8 0]) 1 3) none, XO.mk none (XOp.store 3 (Opd.t 10) (Opd.t 21)) none] [20, 21]) (XC.reg 512 [XO.mk (some 11) (XOp.new (Cont.cells [AV.bool false,
AV.bool false]) 1 2) none, XO.mk none (XOp.store 2 (Opd.t 11) (Opd.t 22)) none] [22])) (XC.block 1 (XC.seq (XC.reg 576 [XO.mk (some 23) (XOp.load none (Opd.t 5)) none, XO.mk (some 24) (XOp.load (some
2) (Opd.t 11)) none, XO.mk (some 25) (XOp.callv (Opd.t 23) [Opd.t 24]) none] [5, 11, 23, 24]) (XC.cond (Opd.t 25) (XC.reg 640 [XO.mk (some 26) (XOp.load none (Opd.t 9)) none, XO.mk (some 27) (XOp.load
(some 3) (Opd.t 10)) none, XO.mk (some 28) (XOp.buildS 3 1 0 [AV.int IntKind.i64 0, AV.int IntKind.i64 0, AV.int IntKind.u8 0] [(0, 3, Opd.t 27)]) none, XO.mk (some 29) (XOp.append 3 24 0 (Opd.t 26)
(Opd.t 28)) none, XO.mk none (XOp.store 1 (Opd.t 9) (Opd.t 29)) none] [10, 25, 26, 27, 28, 29]) XC.skip)))))] ∧ List.length (unK b.o) < 1000000) ∧ 1 = 1 ∧ Cont.vals b.b = Cont.vals b.b ∧ b.m = b.m ∧ 1
= 1 ∧ Cont.vals b.a = Cont.vals b.a ∧ b.n = b.n ∧ List.length (addK (kpF 91 (leb b_1.v 0) (leb 0 b_1.v)) (unK b.o) (0, 0, 0)) = List.length (addK (kpF 91 (leb b_1.v 0) (leb 0 b_1.v)) (unK b.o) (0, 0,
0)) ∧ flatK (addK (kpF 91 (leb b_1.v 0) (leb 0 b_1.v)) (unK b.o) (0, 0, 0)) = flatK (addK (kpF 91 (leb b_1.v 0) (leb 0 b_1.v)) (unK b.o) (0, 0, 0)) ∧ 1 = 1 ∧ List.length (addK (kpF 91 (leb b_1.v 0)
(leb 0 b_1.v)) (unK b.o) (0, 0, 0)) = List.length (addK (kpF 91 (leb b_1.v 0) (leb 0 b_1.v)) (unK b.o) (0, 0, 0)) ∧ 1 = 1 ∧ 0 = 0 ∧ (none : Option Ex) = none ∧ 35 = 35 ∧ [21, 22] = [21, 22] ∧ XC.seq
(XC.reg 448 [XO.mk (some 10) (XOp.new (Cont.cells [AV.int IntKind.i64 0, AV.int IntKind.i64 0, AV.int IntKind.u8 0]) 1 3) none, XO.mk none (XOp.store 3 (Opd.t 10) (Opd.t 21)) none] [20, 21]) (XC.reg
512 [XO.mk (some 11) (XOp.new (Cont.cells [AV.bool false, AV.bool false]) 1 2) none, XO.mk none (XOp.store 2 (Opd.t 11) (Opd.t 22)) none] [22]) = XC.seq (XC.reg 448 [XO.mk (some 10) (XOp.new
(Cont.cells [AV.int IntKind.i64 0, AV.int IntKind.i64 0, AV.int IntKind.u8 0]) 1 3) none, XO.mk none (XOp.store 3 (Opd.t 10) (Opd.t 21)) none] [20, 21]) (XC.reg 512 [XO.mk (some 11) (XOp.new
(Cont.cells [AV.bool false, AV.bool false]) 1 2) none, XO.mk none (XOp.store 2 (Opd.t 11) (Opd.t 22)) none] [22]) ∧ XC.block 1 (XC.seq (XC.reg 576 [XO.mk (some 23) (XOp.load none (Opd.t 5)) none,
XO.mk (some 24) (XOp.load (some 2) (Opd.t 11)) none, XO.mk (some 25) (XOp.callv (Opd.t 23) [Opd.t 24]) none] [5, 11, 23, 24]) (XC.cond (Opd.t 25) (XC.reg 640 [XO.mk (some 26) (XOp.load none (Opd.t 9))
none, XO.mk (some 27) (XOp.load (some 3) (Opd.t 10)) none, XO.mk (some 28) (XOp.buildS 3 1 0 [AV.int IntKind.i64 0, AV.int IntKind.i64 0, AV.int IntKind.u8 0] [(0, 3, Opd.t 27)]) none, XO.mk (some 29)
(XOp.append 3 24 0 (Opd.t 26) (Opd.t 28)) none, XO.mk none (XOp.store 1 (Opd.t 9) (Opd.t 29)) none] [10, 25, 26, 27, 28, 29]) XC.skip)) = XC.block 1 (XC.seq (XC.reg 576 [XO.mk (some 23) (XOp.load none
(Opd.t 5)) none, XO.mk (some 24) (XOp.load (some 2) (Opd.t 11)) none, XO.mk (some 25) (XOp.callv (Opd.t 23) [Opd.t 24]) none] [5, 11, 23, 24]) (XC.cond (Opd.t 25) (XC.reg 640 [XO.mk (some 26)
(XOp.load none (Opd.t 9)) none, XO.mk (some 27) (XOp.load (some 3) (Opd.t 10)) none, XO.mk (some 28) (XOp.buildS 3 1 0 [AV.int IntKind.i64 0, AV.int IntKind.i64 0, AV.int IntKind.u8 0] [(0, 3, Opd.t
27)]) none, XO.mk (some 29) (XOp.append 3 24 0 (Opd.t 26) (Opd.t 28)) none, XO.mk none (XOp.store 1 (Opd.t 9) (Opd.t 29)) none] [10, 25, 26, 27, 28, 29]) XC.skip)) ∧ 0 = 0 ∧ 0 = 0 ∧ 0 = 0 ∧ 0 = 0 ∧ 0
= 0 ∧ 0 = 0 ∧ (∃ (a : List Cl), ∃ (b_2 : List Cl), ∃ (o : List Cl), b.a = flatK a ∧ b.n = List.length a ∧ b.b = flatK b_2 ∧ b.m = List.length b_2 ∧ flatK (addK (kpF 91 (leb b_1.v 0) (leb 0 b_1.v))
(unK b.o) (0, 0, 0)) = flatK o ∧ List.length (addK (kpF 91 (leb b_1.v 0) (leb 0 b_1.v)) (unK b.o) (0, 0, 0)) = List.length o ∧ okQ a ∧ okQ b_2 ∧ List.length o + List.length a + List.length b_2 ≤
List.length A + List.length B ∧ o ++ mrg 91 a b_2 = mrg 91 A B) ∧ b.n + b.m < b.n + b.m ∧ True))) ∧ (ltb 0 ((↑b.n : Int) + (↑b.m : Int)) = false → 1 = 1 ∧ Cont.vals b.b = Cont.vals [] ∧ b.m = 0 ∧ 1 =
1 ∧ Cont.vals b.a = Cont.vals [] ∧ b.n = 0 ∧ b.k = List.length (mrg 91 A B) ∧ b.o = flatK (mrg 91 A B) ∧ 1 = 1 ∧ b.k = List.length (mrg 91 A B) ∧ 1 = 1 ∧ 0 = 0 ∧ (none : Option Ex) = none ∧ 35 = 35 ∧
[21, 22] = [21, 22] ∧ XC.seq (XC.reg 448 [XO.mk (some 10) (XOp.new (Cont.cells [AV.int IntKind.i64 0, AV.int IntKind.i64 0, AV.int IntKind.u8 0]) 1 3) none, XO.mk none (XOp.store 3 (Opd.t 10) (Opd.t
21)) none] [20, 21]) (XC.reg 512 [XO.mk (some 11) (XOp.new (Cont.cells [AV.bool false, AV.bool false]) 1 2) none, XO.mk none (XOp.store 2 (Opd.t 11) (Opd.t 22)) none] [22]) = XC.seq (XC.reg 448 [XO.mk
(some 10) (XOp.new (Cont.cells [AV.int IntKind.i64 0, AV.int IntKind.i64 0, AV.int IntKind.u8 0]) 1 3) none, XO.mk none (XOp.store 3 (Opd.t 10) (Opd.t 21)) none] [20, 21]) (XC.reg 512 [XO.mk (some 11)
(XOp.new (Cont.cells [AV.bool false, AV.bool false]) 1 2) none, XO.mk none (XOp.store 2 (Opd.t 11) (Opd.t 22)) none] [22]) ∧ XC.block 1 (XC.seq (XC.reg 576 [XO.mk (some 23) (XOp.load none (Opd.t 5))
none, XO.mk (some 24) (XOp.load (some 2) (Opd.t 11)) none, XO.mk (some 25) (XOp.callv (Opd.t 23) [Opd.t 24]) none] [5, 11, 23, 24]) (XC.cond (Opd.t 25) (XC.reg 640 [XO.mk (some 26) (XOp.load none
(Opd.t 9)) none, XO.mk (some 27) (XOp.load (some 3) (Opd.t 10)) none, XO.mk (some 28) (XOp.buildS 3 1 0 [AV.int IntKind.i64 0, AV.int IntKind.i64 0, AV.int IntKind.u8 0] [(0, 3, Opd.t 27)]) none,
XO.mk (some 29) (XOp.append 3 24 0 (Opd.t 26) (Opd.t 28)) none, XO.mk none (XOp.store 1 (Opd.t 9) (Opd.t 29)) none] [10, 25, 26, 27, 28, 29]) XC.skip)) = XC.block 1 (XC.seq (XC.reg 576 [XO.mk (some
23) (XOp.load none (Opd.t 5)) none, XO.mk (some 24) (XOp.load (some 2) (Opd.t 11)) none, XO.mk (some 25) (XOp.callv (Opd.t 23) [Opd.t 24]) none] [5, 11, 23, 24]) (XC.cond (Opd.t 25) (XC.reg 640 [XO.mk
(some 26) (XOp.load none (Opd.t 9)) none, XO.mk (some 27) (XOp.load (some 3) (Opd.t 10)) none, XO.mk (some 28) (XOp.buildS 3 1 0 [AV.int IntKind.i64 0, AV.int IntKind.i64 0, AV.int IntKind.u8 0] [(0,
3, Opd.t 27)]) none, XO.mk (some 29) (XOp.append 3 24 0 (Opd.t 26) (Opd.t 28)) none, XO.mk none (XOp.store 1 (Opd.t 9) (Opd.t 29)) none] [10, 25, 26, 27, 28, 29]) XC.skip)) ∧ 0 = 0 ∧ 0 = 0 ∧ 0 = 0 ∧ 0
= 0 ∧ True)) := by kernel_rfl

theorem ob_o88_89 (a b : List Cl) : fnP (TC7 89 a b) G 10000 fe88 (.r [] 0 (.r [] 0 (.r [] 0 (.cnd (.r [] 0 .nil) (.r [] 0 (.r [] 0 (.ghc 320 0 9001 3 (Cont.vals []) (.rf 9002 0 (.r [] 1 (.cnd (.r [] 0 .nil) (.r [] 1 .nil))))))))))) ([cls a, cls b, .fn 89 [] []]) ([.imm (.vals (flatK (mrg 89 a b))) (mrg 89 a b).length (some (mrg 89 a b).length), .int .i64 0]) ([]) = (
((okL (flatK a) (List.length a) ∧ okQ (unK (flatK a))) ∧ okL (flatK b) (List.length b) ∧ okQ (unK (flatK b))) ∧ ((bothI (unK (flatK a)) (unK (flatK b)) != 0) = true → Cont.size (Cont.vals (flatK (mrg
89 a b))) = 0 ∧ List.length (mrg 89 a b) = 0 ∧ List.length (mrg 89 a b) = 0 ∧ bothI (unK (flatK a)) (unK (flatK b)) = 0 ∧ True) ∧ ((bothI (unK (flatK a)) (unK (flatK b)) != 0) = false → (okL (flatK a)
(List.length a) ∧ okL (flatK b) (List.length b)) ∧ ([(24705, HO.blk (Blk.mk (Cont.cells [AV.imm (Cont.vals (flatK b)) (List.length b) none]) 1 1 none (some false) true true)), (24704, HO.blk (Blk.mk
(Cont.cells [AV.imm (Cont.vals (flatK a)) (List.length a) none]) 1 1 none (some false) true true)), (9001, HO.blk (Blk.mk (Cont.vals []) 3 0 (some 0) (some true) true false)), (320, HO.blk (Blk.mk
(Cont.cells [AV.full 9001 0]) 1 1 none (some false) true true)), (64, HO.blk (Blk.mk (Cont.cells [AV.fn 89 [] []]) 1 1 none (some false) true true)), (9002, HO.loop (LoopS.mk 0 none [(5, AV.ptr 64 0),
(9, AV.ptr 320 0), (20, AV.fn 164 [] [AV.ptr 24704 0, AV.ptr 24705 0])] 35 [21, 22] (XC.seq (XC.reg 448 [XO.mk (some 10) (XOp.new (Cont.cells [AV.int IntKind.i64 0, AV.int IntKind.i64 0, AV.int
IntKind.u8 0]) 1 3) none, XO.mk none (XOp.store 3 (Opd.t 10) (Opd.t 21)) none] [20, 21]) (XC.reg 512 [XO.mk (some 11) (XOp.new (Cont.cells [AV.bool false, AV.bool false]) 1 2) none, XO.mk none
(XOp.store 2 (Opd.t 11) (Opd.t 22)) none] [22])) (XC.block 1 (XC.seq (XC.reg 576 [XO.mk (some 23) (XOp.load none (Opd.t 5)) none, XO.mk (some 24) (XOp.load (some 2) (Opd.t 11)) none, XO.mk (some 25)
(XOp.callv (Opd.t 23) [Opd.t 24]) none] [5, 11, 23, 24]) (XC.cond (Opd.t 25) (XC.reg 640 [XO.mk (some 26) (XOp.load none (Opd.t 9)) none, XO.mk (some 27) (XOp.load (some 3) (Opd.t 10)) none, XO.mk
(some 28) (XOp.buildS 3 1 0 [AV.int IntKind.i64 0, AV.int IntKind.i64 0, AV.int IntKind.u8 0] [(0, 3, Opd.t 27)]) none, XO.mk (some 29) (XOp.append 3 24 0 (Opd.t 26) (Opd.t 28)) none, XO.mk none
(XOp.store 1 (Opd.t 9) (Opd.t 29)) none] [10, 25, 26, 27, 28, 29]) XC.skip)))))] = [(24705, HO.blk (Blk.mk (Cont.cells [AV.imm (Cont.vals (flatK b)) (List.length b) none]) 1 1 none (some false) true
true)), (24704, HO.blk (Blk.mk (Cont.cells [AV.imm (Cont.vals (flatK a)) (List.length a) none]) 1 1 none (some false) true true)), (9001, HO.blk (Blk.mk (Cont.vals []) 3 0 (some 0) (some true) true
false)), (320, HO.blk (Blk.mk (Cont.cells [AV.full 9001 0]) 1 1 none (some false) true true)), (64, HO.blk (Blk.mk (Cont.cells [AV.fn 89 [] []]) 1 1 none (some false) true true)), (9002, HO.loop
(LoopS.mk 0 none [(5, AV.ptr 64 0), (9, AV.ptr 320 0), (20, AV.fn 164 [] [AV.ptr 24704 0, AV.ptr 24705 0])] 35 [21, 22] (XC.seq (XC.reg 448 [XO.mk (some 10) (XOp.new (Cont.cells [AV.int IntKind.i64 0,
AV.int IntKind.i64 0, AV.int IntKind.u8 0]) 1 3) none, XO.mk none (XOp.store 3 (Opd.t 10) (Opd.t 21)) none] [20, 21]) (XC.reg 512 [XO.mk (some 11) (XOp.new (Cont.cells [AV.bool false, AV.bool false])
1 2) none, XO.mk none (XOp.store 2 (Opd.t 11) (Opd.t 22)) none] [22])) (XC.block 1 (XC.seq (XC.reg 576 [XO.mk (some 23) (XOp.load none (Opd.t 5)) none, XO.mk (some 24) (XOp.load (some 2) (Opd.t 11))
none, XO.mk (some 25) (XOp.callv (Opd.t 23) [Opd.t 24]) none] [5, 11, 23, 24]) (XC.cond (Opd.t 25) (XC.reg 640 [XO.mk (some 26) (XOp.load none (Opd.t 9)) none, XO.mk (some 27) (XOp.load (some 3)
(Opd.t 10)) none, XO.mk (some 28) (XOp.buildS 3 1 0 [AV.int IntKind.i64 0, AV.int IntKind.i64 0, AV.int IntKind.u8 0] [(0, 3, Opd.t 27)]) none, XO.mk (some 29) (XOp.append 3 24 0 (Opd.t 26) (Opd.t
28)) none, XO.mk none (XOp.store 1 (Opd.t 9) (Opd.t 29)) none] [10, 25, 26, 27, 28, 29]) XC.skip)))))] ∧ okQ a ∧ okQ b ∧ List.length a < 10000 ∧ List.length b < 10000) ∧ List.length (mrg 89 a b) =
List.length (mrg 89 a b) ∧ (ltb 1024 (↑(List.length (mrg 89 a b)) : Int) = true → Cont.size (Cont.vals (flatK (mrg 89 a b))) = 0 ∧ List.length (mrg 89 a b) = 0 ∧ List.length (mrg 89 a b) = 0 ∧ iI 3 =
0 ∧ True) ∧ (ltb 1024 (↑(List.length (mrg 89 a b)) : Int) = false → List.length (mrg 89 a b) = List.length (mrg 89 a b) ∧ okL (flatK (mrg 89 a b)) (List.length (mrg 89 a b)) ∧ Cont.vals (flatK (mrg 89
a b)) = Cont.vals (flatK (mrg 89 a b)) ∧ List.length (mrg 89 a b) = List.length (mrg 89 a b) ∧ List.length (mrg 89 a b) = List.length (mrg 89 a b) ∧ iI 0 = 0 ∧ True))) := by kernel_rfl

theorem ob_o88_90 (a b : List Cl) : fnP (TC7 90 a b) G 10000 fe88 (.r [] 0 (.r [] 0 (.r [] 0 (.cnd (.r [] 0 .nil) (.r [] 0 (.r [] 0 (.ghc 320 0 9001 3 (Cont.vals []) (.rf 9002 0 (.r [] 1 (.cnd (.r [] 0 .nil) (.r [] 1 .nil))))))))))) ([cls a, cls b, .fn 90 [] []]) ([.imm (.vals (flatK (mrg 90 a b))) (mrg 90 a b).length (some (mrg 90 a b).length), .int .i64 0]) ([]) = (
((okL (flatK a) (List.length a) ∧ okQ (unK (flatK a))) ∧ okL (flatK b) (List.length b) ∧ okQ (unK (flatK b))) ∧ ((bothI (unK (flatK a)) (unK (flatK b)) != 0) = true → Cont.size (Cont.vals (flatK (mrg
90 a b))) = 0 ∧ List.length (mrg 90 a b) = 0 ∧ List.length (mrg 90 a b) = 0 ∧ bothI (unK (flatK a)) (unK (flatK b)) = 0 ∧ True) ∧ ((bothI (unK (flatK a)) (unK (flatK b)) != 0) = false → (okL (flatK a)
(List.length a) ∧ okL (flatK b) (List.length b)) ∧ ([(24705, HO.blk (Blk.mk (Cont.cells [AV.imm (Cont.vals (flatK b)) (List.length b) none]) 1 1 none (some false) true true)), (24704, HO.blk (Blk.mk
(Cont.cells [AV.imm (Cont.vals (flatK a)) (List.length a) none]) 1 1 none (some false) true true)), (9001, HO.blk (Blk.mk (Cont.vals []) 3 0 (some 0) (some true) true false)), (320, HO.blk (Blk.mk
(Cont.cells [AV.full 9001 0]) 1 1 none (some false) true true)), (64, HO.blk (Blk.mk (Cont.cells [AV.fn 90 [] []]) 1 1 none (some false) true true)), (9002, HO.loop (LoopS.mk 0 none [(5, AV.ptr 64 0),
(9, AV.ptr 320 0), (20, AV.fn 164 [] [AV.ptr 24704 0, AV.ptr 24705 0])] 35 [21, 22] (XC.seq (XC.reg 448 [XO.mk (some 10) (XOp.new (Cont.cells [AV.int IntKind.i64 0, AV.int IntKind.i64 0, AV.int
IntKind.u8 0]) 1 3) none, XO.mk none (XOp.store 3 (Opd.t 10) (Opd.t 21)) none] [20, 21]) (XC.reg 512 [XO.mk (some 11) (XOp.new (Cont.cells [AV.bool false, AV.bool false]) 1 2) none, XO.mk none
(XOp.store 2 (Opd.t 11) (Opd.t 22)) none] [22])) (XC.block 1 (XC.seq (XC.reg 576 [XO.mk (some 23) (XOp.load none (Opd.t 5)) none, XO.mk (some 24) (XOp.load (some 2) (Opd.t 11)) none, XO.mk (some 25)
(XOp.callv (Opd.t 23) [Opd.t 24]) none] [5, 11, 23, 24]) (XC.cond (Opd.t 25) (XC.reg 640 [XO.mk (some 26) (XOp.load none (Opd.t 9)) none, XO.mk (some 27) (XOp.load (some 3) (Opd.t 10)) none, XO.mk
(some 28) (XOp.buildS 3 1 0 [AV.int IntKind.i64 0, AV.int IntKind.i64 0, AV.int IntKind.u8 0] [(0, 3, Opd.t 27)]) none, XO.mk (some 29) (XOp.append 3 24 0 (Opd.t 26) (Opd.t 28)) none, XO.mk none
(XOp.store 1 (Opd.t 9) (Opd.t 29)) none] [10, 25, 26, 27, 28, 29]) XC.skip)))))] = [(24705, HO.blk (Blk.mk (Cont.cells [AV.imm (Cont.vals (flatK b)) (List.length b) none]) 1 1 none (some false) true
true)), (24704, HO.blk (Blk.mk (Cont.cells [AV.imm (Cont.vals (flatK a)) (List.length a) none]) 1 1 none (some false) true true)), (9001, HO.blk (Blk.mk (Cont.vals []) 3 0 (some 0) (some true) true
false)), (320, HO.blk (Blk.mk (Cont.cells [AV.full 9001 0]) 1 1 none (some false) true true)), (64, HO.blk (Blk.mk (Cont.cells [AV.fn 90 [] []]) 1 1 none (some false) true true)), (9002, HO.loop
(LoopS.mk 0 none [(5, AV.ptr 64 0), (9, AV.ptr 320 0), (20, AV.fn 164 [] [AV.ptr 24704 0, AV.ptr 24705 0])] 35 [21, 22] (XC.seq (XC.reg 448 [XO.mk (some 10) (XOp.new (Cont.cells [AV.int IntKind.i64 0,
AV.int IntKind.i64 0, AV.int IntKind.u8 0]) 1 3) none, XO.mk none (XOp.store 3 (Opd.t 10) (Opd.t 21)) none] [20, 21]) (XC.reg 512 [XO.mk (some 11) (XOp.new (Cont.cells [AV.bool false, AV.bool false])
1 2) none, XO.mk none (XOp.store 2 (Opd.t 11) (Opd.t 22)) none] [22])) (XC.block 1 (XC.seq (XC.reg 576 [XO.mk (some 23) (XOp.load none (Opd.t 5)) none, XO.mk (some 24) (XOp.load (some 2) (Opd.t 11))
none, XO.mk (some 25) (XOp.callv (Opd.t 23) [Opd.t 24]) none] [5, 11, 23, 24]) (XC.cond (Opd.t 25) (XC.reg 640 [XO.mk (some 26) (XOp.load none (Opd.t 9)) none, XO.mk (some 27) (XOp.load (some 3)
(Opd.t 10)) none, XO.mk (some 28) (XOp.buildS 3 1 0 [AV.int IntKind.i64 0, AV.int IntKind.i64 0, AV.int IntKind.u8 0] [(0, 3, Opd.t 27)]) none, XO.mk (some 29) (XOp.append 3 24 0 (Opd.t 26) (Opd.t
28)) none, XO.mk none (XOp.store 1 (Opd.t 9) (Opd.t 29)) none] [10, 25, 26, 27, 28, 29]) XC.skip)))))] ∧ okQ a ∧ okQ b ∧ List.length a < 10000 ∧ List.length b < 10000) ∧ List.length (mrg 90 a b) =
List.length (mrg 90 a b) ∧ (ltb 1024 (↑(List.length (mrg 90 a b)) : Int) = true → Cont.size (Cont.vals (flatK (mrg 90 a b))) = 0 ∧ List.length (mrg 90 a b) = 0 ∧ List.length (mrg 90 a b) = 0 ∧ iI 3 =
0 ∧ True) ∧ (ltb 1024 (↑(List.length (mrg 90 a b)) : Int) = false → List.length (mrg 90 a b) = List.length (mrg 90 a b) ∧ okL (flatK (mrg 90 a b)) (List.length (mrg 90 a b)) ∧ Cont.vals (flatK (mrg 90
a b)) = Cont.vals (flatK (mrg 90 a b)) ∧ List.length (mrg 90 a b) = List.length (mrg 90 a b) ∧ List.length (mrg 90 a b) = List.length (mrg 90 a b) ∧ iI 0 = 0 ∧ True))) := by kernel_rfl

theorem ob_o88_91 (a b : List Cl) : fnP (TC7 91 a b) G 10000 fe88 (.r [] 0 (.r [] 0 (.r [] 0 (.cnd (.r [] 0 .nil) (.r [] 0 (.r [] 0 (.ghc 320 0 9001 3 (Cont.vals []) (.rf 9002 0 (.r [] 1 (.cnd (.r [] 0 .nil) (.r [] 1 .nil))))))))))) ([cls a, cls b, .fn 91 [] []]) ([.imm (.vals (flatK (mrg 91 a b))) (mrg 91 a b).length (some (mrg 91 a b).length), .int .i64 0]) ([]) = (
((okL (flatK a) (List.length a) ∧ okQ (unK (flatK a))) ∧ okL (flatK b) (List.length b) ∧ okQ (unK (flatK b))) ∧ ((bothI (unK (flatK a)) (unK (flatK b)) != 0) = true → Cont.size (Cont.vals (flatK (mrg
91 a b))) = 0 ∧ List.length (mrg 91 a b) = 0 ∧ List.length (mrg 91 a b) = 0 ∧ bothI (unK (flatK a)) (unK (flatK b)) = 0 ∧ True) ∧ ((bothI (unK (flatK a)) (unK (flatK b)) != 0) = false → (okL (flatK a)
(List.length a) ∧ okL (flatK b) (List.length b)) ∧ ([(24705, HO.blk (Blk.mk (Cont.cells [AV.imm (Cont.vals (flatK b)) (List.length b) none]) 1 1 none (some false) true true)), (24704, HO.blk (Blk.mk
(Cont.cells [AV.imm (Cont.vals (flatK a)) (List.length a) none]) 1 1 none (some false) true true)), (9001, HO.blk (Blk.mk (Cont.vals []) 3 0 (some 0) (some true) true false)), (320, HO.blk (Blk.mk
(Cont.cells [AV.full 9001 0]) 1 1 none (some false) true true)), (64, HO.blk (Blk.mk (Cont.cells [AV.fn 91 [] []]) 1 1 none (some false) true true)), (9002, HO.loop (LoopS.mk 0 none [(5, AV.ptr 64 0),
(9, AV.ptr 320 0), (20, AV.fn 164 [] [AV.ptr 24704 0, AV.ptr 24705 0])] 35 [21, 22] (XC.seq (XC.reg 448 [XO.mk (some 10) (XOp.new (Cont.cells [AV.int IntKind.i64 0, AV.int IntKind.i64 0, AV.int
IntKind.u8 0]) 1 3) none, XO.mk none (XOp.store 3 (Opd.t 10) (Opd.t 21)) none] [20, 21]) (XC.reg 512 [XO.mk (some 11) (XOp.new (Cont.cells [AV.bool false, AV.bool false]) 1 2) none, XO.mk none
(XOp.store 2 (Opd.t 11) (Opd.t 22)) none] [22])) (XC.block 1 (XC.seq (XC.reg 576 [XO.mk (some 23) (XOp.load none (Opd.t 5)) none, XO.mk (some 24) (XOp.load (some 2) (Opd.t 11)) none, XO.mk (some 25)
(XOp.callv (Opd.t 23) [Opd.t 24]) none] [5, 11, 23, 24]) (XC.cond (Opd.t 25) (XC.reg 640 [XO.mk (some 26) (XOp.load none (Opd.t 9)) none, XO.mk (some 27) (XOp.load (some 3) (Opd.t 10)) none, XO.mk
(some 28) (XOp.buildS 3 1 0 [AV.int IntKind.i64 0, AV.int IntKind.i64 0, AV.int IntKind.u8 0] [(0, 3, Opd.t 27)]) none, XO.mk (some 29) (XOp.append 3 24 0 (Opd.t 26) (Opd.t 28)) none, XO.mk none
(XOp.store 1 (Opd.t 9) (Opd.t 29)) none] [10, 25, 26, 27, 28, 29]) XC.skip)))))] = [(24705, HO.blk (Blk.mk (Cont.cells [AV.imm (Cont.vals (flatK b)) (List.length b) none]) 1 1 none (some false) true
true)), (24704, HO.blk (Blk.mk (Cont.cells [AV.imm (Cont.vals (flatK a)) (List.length a) none]) 1 1 none (some false) true true)), (9001, HO.blk (Blk.mk (Cont.vals []) 3 0 (some 0) (some true) true
false)), (320, HO.blk (Blk.mk (Cont.cells [AV.full 9001 0]) 1 1 none (some false) true true)), (64, HO.blk (Blk.mk (Cont.cells [AV.fn 91 [] []]) 1 1 none (some false) true true)), (9002, HO.loop
(LoopS.mk 0 none [(5, AV.ptr 64 0), (9, AV.ptr 320 0), (20, AV.fn 164 [] [AV.ptr 24704 0, AV.ptr 24705 0])] 35 [21, 22] (XC.seq (XC.reg 448 [XO.mk (some 10) (XOp.new (Cont.cells [AV.int IntKind.i64 0,
AV.int IntKind.i64 0, AV.int IntKind.u8 0]) 1 3) none, XO.mk none (XOp.store 3 (Opd.t 10) (Opd.t 21)) none] [20, 21]) (XC.reg 512 [XO.mk (some 11) (XOp.new (Cont.cells [AV.bool false, AV.bool false])
1 2) none, XO.mk none (XOp.store 2 (Opd.t 11) (Opd.t 22)) none] [22])) (XC.block 1 (XC.seq (XC.reg 576 [XO.mk (some 23) (XOp.load none (Opd.t 5)) none, XO.mk (some 24) (XOp.load (some 2) (Opd.t 11))
none, XO.mk (some 25) (XOp.callv (Opd.t 23) [Opd.t 24]) none] [5, 11, 23, 24]) (XC.cond (Opd.t 25) (XC.reg 640 [XO.mk (some 26) (XOp.load none (Opd.t 9)) none, XO.mk (some 27) (XOp.load (some 3)
(Opd.t 10)) none, XO.mk (some 28) (XOp.buildS 3 1 0 [AV.int IntKind.i64 0, AV.int IntKind.i64 0, AV.int IntKind.u8 0] [(0, 3, Opd.t 27)]) none, XO.mk (some 29) (XOp.append 3 24 0 (Opd.t 26) (Opd.t
28)) none, XO.mk none (XOp.store 1 (Opd.t 9) (Opd.t 29)) none] [10, 25, 26, 27, 28, 29]) XC.skip)))))] ∧ okQ a ∧ okQ b ∧ List.length a < 10000 ∧ List.length b < 10000) ∧ List.length (mrg 91 a b) =
List.length (mrg 91 a b) ∧ (ltb 1024 (↑(List.length (mrg 91 a b)) : Int) = true → Cont.size (Cont.vals (flatK (mrg 91 a b))) = 0 ∧ List.length (mrg 91 a b) = 0 ∧ List.length (mrg 91 a b) = 0 ∧ iI 3 =
0 ∧ True) ∧ (ltb 1024 (↑(List.length (mrg 91 a b)) : Int) = false → List.length (mrg 91 a b) = List.length (mrg 91 a b) ∧ okL (flatK (mrg 91 a b)) (List.length (mrg 91 a b)) ∧ Cont.vals (flatK (mrg 91
a b)) = Cont.vals (flatK (mrg 91 a b)) ∧ List.length (mrg 91 a b) = List.length (mrg 91 a b) ∧ List.length (mrg 91 a b) = List.length (mrg 91 a b) ∧ iI 0 = 0 ∧ True))) := by kernel_rfl

theorem ob_o32 (a b : List Cl) : fnP (TC8) G 10000 fe32 (.r [] 0 (.r [] 6 .nil)) ([cls a, cls b]) ([.imm (.vals (flatK (mrg 89 a b))) (mrg 89 a b).length (some (mrg 89 a b).length), .int .i64 0]) ([]) = (
(okL (flatK a) (List.length a) ∧ okL (flatK b) (List.length b) ∧ okS (unK (flatK a)) ∧ okS (unK (flatK b)) ∧ List.length (mrg 89 (unK (flatK a)) (unK (flatK b))) ≤ 1024) ∧ Cont.vals (flatK (mrg 89
(unK (flatK a)) (unK (flatK b)))) = Cont.vals (flatK (mrg 89 a b)) ∧ List.length (mrg 89 (unK (flatK a)) (unK (flatK b))) = List.length (mrg 89 a b) ∧ List.length (mrg 89 (unK (flatK a)) (unK (flatK
b))) = List.length (mrg 89 a b) ∧ iI 0 = 0 ∧ True) := by kernel_rfl

theorem ob_o33 (a b : List Cl) : fnP (TC8) G 10000 fe33 (.r [] 0 (.r [] 6 .nil)) ([cls a, cls b]) ([.imm (.vals (flatK (mrg 90 a b))) (mrg 90 a b).length (some (mrg 90 a b).length), .int .i64 0]) ([]) = (
(okL (flatK a) (List.length a) ∧ okL (flatK b) (List.length b) ∧ okS (unK (flatK a)) ∧ okS (unK (flatK b)) ∧ List.length (mrg 90 (unK (flatK a)) (unK (flatK b))) ≤ 1024) ∧ Cont.vals (flatK (mrg 90
(unK (flatK a)) (unK (flatK b)))) = Cont.vals (flatK (mrg 90 a b)) ∧ List.length (mrg 90 (unK (flatK a)) (unK (flatK b))) = List.length (mrg 90 a b) ∧ List.length (mrg 90 (unK (flatK a)) (unK (flatK
b))) = List.length (mrg 90 a b) ∧ iI 0 = 0 ∧ True) := by kernel_rfl

theorem ob_o34 (a b : List Cl) : fnP (TC8) G 10000 fe34 (.r [] 0 (.r [] 6 .nil)) ([cls a, cls b]) ([.imm (.vals (flatK (mrg 91 a b))) (mrg 91 a b).length (some (mrg 91 a b).length), .int .i64 0]) ([]) = (
(okL (flatK a) (List.length a) ∧ okL (flatK b) (List.length b) ∧ okS (unK (flatK a)) ∧ okS (unK (flatK b)) ∧ List.length (mrg 91 (unK (flatK a)) (unK (flatK b))) ≤ 1024) ∧ Cont.vals (flatK (mrg 91
(unK (flatK a)) (unK (flatK b)))) = Cont.vals (flatK (mrg 91 a b)) ∧ List.length (mrg 91 (unK (flatK a)) (unK (flatK b))) = List.length (mrg 91 a b) ∧ List.length (mrg 91 (unK (flatK a)) (unK (flatK
b))) = List.length (mrg 91 a b) ∧ iI 0 = 0 ∧ True) := by kernel_rfl

end Go.Proofs.YtmnaghfndigfkaaDoor.X
