/-
  What is to be shown of the functions (made by a program).
-/
import Derived.Test.YtidpllnmghgomaaDoorD4Z
import Derived.KernelRfl
set_option maxRecDepth 1000000
set_option linter.unusedVariables false
namespace Go.Proofs.YtidpllnmghgomaaDoor.X
open Go Go.Ab
open List IntKind

theorem ob_o37 (a k : List Int) : fnP (TS) G 10000 fe37 (.r [] 0 (.r [] 0 (.ghc 64 0 9001 1 (Cont.ints i64 []) (.rf 9002 0 (.r [] 1 (.frz 4 0 .nil)))))) ([.nils, .fn 38 [] [.iptr (fanC a k)]]) ([.imm (.ints .i64 (shps a k)) (shps a k).length none]) ([]) = (
 ([(9001, HO.blk (Blk.mk (Cont.ints i64 []) 1 0 (some 0) (some true) true false)), (64, HO.blk (Blk.mk (Cont.cells [AV.full 9001 0]) 1 1 none (some false) true true)), (9002, HO.loop (LoopS.mk 0 none
 [(2, AV.ptr 64 0), (6, AV.fn 38 [] [AV.iptr (Cont.vals [AV.imm (Cont.ints i64 a) (length a) none, AV.imm (Cont.ints u8 k) (length k) none])])] 13 [7] (XC.reg 192 [XO.mk (some 5) (XOp.mv (Opd.t 7))
 none] [6, 7]) (XC.block 1 (XC.reg 256 [XO.mk (some 8) (XOp.load none (Opd.t 2)) none, XO.mk (some 9) (XOp.mv (Opd.t 5)) none, XO.mk (some 10) (XOp.buildS 1 1 4 [AV.int i64 0] [(0, 1, Opd.t 9)]) none,
 XO.mk (some 11) (XOp.append 1 8 4 (Opd.t 8) (Opd.t 10)) none, XO.mk none (XOp.store 1 (Opd.t 2) (Opd.t 11)) none] [5, 8, 9, 10, 11]))))] = [(9001, HO.blk (Blk.mk (Cont.ints i64 []) 1 0 (some 0) (some
 true) true false)), (64, HO.blk (Blk.mk (Cont.cells [AV.full 9001 0]) 1 1 none (some false) true true)), (9002, HO.loop (LoopS.mk 0 none [(2, AV.ptr 64 0), (6, AV.fn 38 [] [AV.iptr (Cont.vals [AV.imm
 (Cont.ints i64 a) (length a) none, AV.imm (Cont.ints u8 k) (length k) none])])] 13 [7] (XC.reg 192 [XO.mk (some 5) (XOp.mv (Opd.t 7)) none] [6, 7]) (XC.block 1 (XC.reg 256 [XO.mk (some 8) (XOp.load
 none (Opd.t 2)) none, XO.mk (some 9) (XOp.mv (Opd.t 5)) none, XO.mk (some 10) (XOp.buildS 1 1 4 [AV.int i64 0] [(0, 1, Opd.t 9)]) none, XO.mk (some 11) (XOp.append 1 8 4 (Opd.t 8) (Opd.t 10)) none,
 XO.mk none (XOp.store 1 (Opd.t 2) (Opd.t 11)) none] [5, 8, 9, 10, 11]))))] ∧ length a = length a ∧ length k = length k ∧ length a = length k ∧ length a < 1000000000000) ∧ length (shps a k) = length
 (shps a k) ∧ Cont.ints i64 (shps a k) = Cont.ints i64 (shps a k) ∧ length (shps a k) = length (shps a k) ∧ True) := by kernel_rfl

end Go.Proofs.YtidpllnmghgomaaDoor.X
