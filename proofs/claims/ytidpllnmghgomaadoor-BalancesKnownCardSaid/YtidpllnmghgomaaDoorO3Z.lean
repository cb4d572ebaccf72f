/-
  What is to be shown of the functions (made by a program).
-/
import Derived.Test.YtidpllnmghgomaaDoorD3Z
import Derived.KernelRfl
set_option maxRecDepth 1000000
set_option linter.unusedVariables false
namespace Go.Proofs.YtidpllnmghgomaaDoor.X
open Go Go.Ab
open List IntKind

theorem ob_o28 (a k : List Int) : fnP (T0) G 10000 fe28 (.r [] 0 (.r [] 0 (.frz 2 0 .nil))) ([fanV a k]) ([.fn 38 [] [.iptr (fanC a k)]]) ([]) = (
 Cont.vals [AV.imm (Cont.ints i64 a) (length a) none, AV.imm (Cont.ints u8 k) (length k) none] = Cont.vals [AV.imm (Cont.ints i64 a) (length a) none, AV.imm (Cont.ints u8 k) (length k) none] ∧ True) := by kernel_rfl

theorem ob_y_37 (a k l : List Int) (x : Int) : fnY (T0) G 10000 (9002) (.r [] 0 (.r [] 25 .nil)) ([.int .i64 x]) (H37 a k l) (true) ([(64, box37 (l.length + 1)), (9001, .blk (blkI (l ++ [x])))]) = (
 length l = length l ∧ len' ((length l + 1) * 8) 140737488355328 = true ∧ length l + 1 = length (l ++ [x]) ∧ l ++ [x] = l ++ [x] ∧ 1 = 1 ∧ length l + 1 = length l + 1 ∧ 0 = 0 ∧ (none : Option Ex) =
 none ∧ 13 = 13 ∧ [7] = [7] ∧ XC.reg 192 [XO.mk (some 5) (XOp.mv (Opd.t 7)) none] [6, 7] = XC.reg 192 [XO.mk (some 5) (XOp.mv (Opd.t 7)) none] [6, 7] ∧ XC.block 1 (XC.reg 256 [XO.mk (some 8) (XOp.load
 none (Opd.t 2)) none, XO.mk (some 9) (XOp.mv (Opd.t 5)) none, XO.mk (some 10) (XOp.buildS 1 1 4 [AV.int i64 0] [(0, 1, Opd.t 9)]) none, XO.mk (some 11) (XOp.append 1 8 4 (Opd.t 8) (Opd.t 10)) none,
 XO.mk none (XOp.store 1 (Opd.t 2) (Opd.t 11)) none] [5, 8, 9, 10, 11]) = XC.block 1 (XC.reg 256 [XO.mk (some 8) (XOp.load none (Opd.t 2)) none, XO.mk (some 9) (XOp.mv (Opd.t 5)) none, XO.mk (some 10)
 (XOp.buildS 1 1 4 [AV.int i64 0] [(0, 1, Opd.t 9)]) none, XO.mk (some 11) (XOp.append 1 8 4 (Opd.t 8) (Opd.t 10)) none, XO.mk none (XOp.store 1 (Opd.t 2) (Opd.t 11)) none] [5, 8, 9, 10, 11]) ∧ 0 = 0 ∧
 Cont.vals [AV.imm (Cont.ints i64 a) (length a) none, AV.imm (Cont.ints u8 k) (length k) none] = Cont.vals [AV.imm (Cont.ints i64 a) (length a) none, AV.imm (Cont.ints u8 k) (length k) none] ∧ true =
 true ∧ True) := by kernel_rfl

theorem ob_d_38 (a k : List Int) : fnD (TY a k) G 10000 (fe38) (.r [] 1 (.r [] 0 (.cnd .nil (.r [] 1 (.lp (l38 a k) [] [] (fun b => (.r [] 0 (.cnd (.r [] 0 (.r [] 0 (.br (shB a k (Int.toNat b.i)) (.r [yO 456, yO 457, yO 458, yO 459, yO 460, yO 461, yO 462, yO 463, yO 464, yO 465, yO 466, yO 467, (468, .auto, Dr.pk true), yO 470, yO 471, yO 472, yO 473, yO 474, yO 475, yO 476, yO 477, yO 478, yO 479, yO 480, (481, .auto, Dr.pk true), yO 483, yO 484, yO 485, yO 486, yO 487, yO 488, (489, .auto, Dr.pk true), yO 491, yO 492, (493, .on, Dr.heap), yO 494, (495, .auto, Dr.pk true)] 11852053897607416643841 (.lit (.r [] 0 .nil))) (.r [yM 456, yM 457, yM 458, yM 459, yM 460, yM 461, yM 462, yM 463, yM 464, yM 465, yM 466, yM 467, yM 470, yM 471, yM 472, yM 473, yM 474, yM 475, yM 476, yM 477, yM 478, yM 479, yM 480, yM 483, yM 484, yM 485, yM 486, yM 487, yM 488, (491, .off, Dr.plain), (492, .off, Dr.plain), (493, .off, Dr.plain), (494, .off, Dr.plain)] 18735607837429334081 (.cnd .nil (.r [] 0 .nil)))))) .nil)))))))) ([.yld 9002, .iptr (fanC a k)]) (H37e a k) ([]) ([(64, box37 (shps a k).length), (9001, .blk (blkI (shps a k)))]) = (
 (ltb (↑(length a) : Int) 4 = true → 0 = length (shps a k) ∧ [] = shps a k ∧ 1 = 1 ∧ 0 = length (shps a k) ∧ 0 = 0 ∧ (none : Option Ex) = none ∧ 13 = 13 ∧ [7] = [7] ∧ XC.reg 192 [XO.mk (some 5) (XOp.mv
 (Opd.t 7)) none] [6, 7] = XC.reg 192 [XO.mk (some 5) (XOp.mv (Opd.t 7)) none] [6, 7] ∧ XC.block 1 (XC.reg 256 [XO.mk (some 8) (XOp.load none (Opd.t 2)) none, XO.mk (some 9) (XOp.mv (Opd.t 5)) none,
 XO.mk (some 10) (XOp.buildS 1 1 4 [AV.int i64 0] [(0, 1, Opd.t 9)]) none, XO.mk (some 11) (XOp.append 1 8 4 (Opd.t 8) (Opd.t 10)) none, XO.mk none (XOp.store 1 (Opd.t 2) (Opd.t 11)) none] [5, 8, 9,
 10, 11]) = XC.block 1 (XC.reg 256 [XO.mk (some 8) (XOp.load none (Opd.t 2)) none, XO.mk (some 9) (XOp.mv (Opd.t 5)) none, XO.mk (some 10) (XOp.buildS 1 1 4 [AV.int i64 0] [(0, 1, Opd.t 9)]) none,
 XO.mk (some 11) (XOp.append 1 8 4 (Opd.t 8) (Opd.t 10)) none, XO.mk none (XOp.store 1 (Opd.t 2) (Opd.t 11)) none] [5, 8, 9, 10, 11]) ∧ 0 = 0 ∧ Cont.vals [AV.imm (Cont.ints i64 a) (length a) none,
 AV.imm (Cont.ints u8 k) (length k) none] = Cont.vals [AV.imm (Cont.ints i64 a) (length a) none, AV.imm (Cont.ints u8 k) (length k) none] ∧ True) ∧ (ltb (↑(length a) : Int) 4 = false → 0 = 0 ∧ iL [] =
 [] ∧ 1 = 1 ∧ 0 = 0 ∧ 0 = 0 ∧ (none : Option Ex) = none ∧ 13 = 13 ∧ [7] = [7] ∧ XC.reg 192 [XO.mk (some 5) (XOp.mv (Opd.t 7)) none] [6, 7] = XC.reg 192 [XO.mk (some 5) (XOp.mv (Opd.t 7)) none] [6, 7] ∧
 XC.block 1 (XC.reg 256 [XO.mk (some 8) (XOp.load none (Opd.t 2)) none, XO.mk (some 9) (XOp.mv (Opd.t 5)) none, XO.mk (some 10) (XOp.buildS 1 1 4 [AV.int i64 0] [(0, 1, Opd.t 9)]) none, XO.mk (some 11)
 (XOp.append 1 8 4 (Opd.t 8) (Opd.t 10)) none, XO.mk none (XOp.store 1 (Opd.t 2) (Opd.t 11)) none] [5, 8, 9, 10, 11]) = XC.block 1 (XC.reg 256 [XO.mk (some 8) (XOp.load none (Opd.t 2)) none, XO.mk
 (some 9) (XOp.mv (Opd.t 5)) none, XO.mk (some 10) (XOp.buildS 1 1 4 [AV.int i64 0] [(0, 1, Opd.t 9)]) none, XO.mk (some 11) (XOp.append 1 8 4 (Opd.t 8) (Opd.t 10)) none, XO.mk none (XOp.store 1 (Opd.t
 2) (Opd.t 11)) none] [5, 8, 9, 10, 11]) ∧ 0 = 0 ∧ Cont.vals [AV.imm (Cont.ints i64 a) (length a) none, AV.imm (Cont.ints u8 k) (length k) none] = Cont.vals [AV.imm (Cont.ints i64 a) (length a) none,
 AV.imm (Cont.ints u8 k) (length k) none] ∧ Cont.vals [AV.imm (Cont.ints i64 a) (length a) none, AV.imm (Cont.ints u8 k) (length k) none] = Cont.vals [AV.imm (Cont.ints i64 a) (length a) none, AV.imm
 (Cont.ints u8 k) (length k) none] ∧ (↑(length a) : Int) = (↑(length a) : Int) ∧ Cont.ints i64 a = Cont.ints i64 a ∧ length a = length a ∧ (↑(length a) : Int) = (↑(length a) : Int) ∧ iI 0 = 0 ∧ (∃ (n :
 Nat), 0 = (↑n : Int) ∧ n ≤ length a ∧ 0 ≤ n ∧ [] = shpL a k n) ∧ ∀ (b : L38), (fun (u0 u1 u2 : Int) => (∃ (n : Nat), b.i = (↑n : Int) ∧ n ≤ length a ∧ length b.l ≤ n ∧ b.l = shpL a k n) → (ltb b.i
 (↑(length a) : Int) = true → leb 0 b.i = true ∧ ltb b.i (↑(length a) : Int) = true ∧ ltn 0 (Cont.size (Cont.ints i64 a)) = true ∧ ltn 0 (Cont.size (Cont.ints i64 (drop (Int.toNat b.i) a))) = true ∧
 inR i64 (b.i + 1) = true ∧ (!(↑(length a) : Int) == 0) = true ∧ (shB a k (Int.toNat b.i) = true → leb 0 (Int.tmod (b.i + 1) (↑(length a) : Int)) = true ∧ ltb (Int.tmod (b.i + 1) (↑(length a) : Int))
 (↑(length a) : Int) = true ∧ ltn 0 (Cont.size (Cont.ints i64 a)) = true ∧ ltn 0 (Cont.size (Cont.ints i64 (drop (Int.toNat (Int.tmod (b.i + 1) (↑(length a) : Int))) a))) = true ∧ ltb u2 u1 = true ∧
 ltb u2 u1 = true ∧ ltb u2 u1 = true ∧ ltb u2 u1 = true ∧ ltb u2 u1 = true ∧ ltb u2 u1 = true ∧ inR i64 (b.i + (↑(length a) : Int)) = true ∧ ltb u2 u1 = true ∧ inR i64 (b.i + (↑(length a) : Int) - 1) =
 true ∧ ltb u2 u1 = true ∧ ltb u2 u1 = true ∧ (!(↑(length a) : Int) == 0) = true ∧ ltb u2 u1 = true ∧ leb 0 (Int.tmod (b.i + (↑(length a) : Int) - 1) (↑(length a) : Int)) = true ∧ ltb (Int.tmod (b.i +
 (↑(length a) : Int) - 1) (↑(length a) : Int)) (↑(length a) : Int) = true ∧ ltn 0 (Cont.size (Cont.ints i64 a)) = true ∧ ltb u2 u1 = true ∧ ltn 0 (Cont.size (Cont.ints i64 (drop (Int.toNat (Int.tmod
 (b.i + (↑(length a) : Int) - 1) (↑(length a) : Int))) a))) = true ∧ ltb u2 u1 = true ∧ ltb u2 u1 = true ∧ ltb u2 u0 = true ∧ ltb u2 u0 = true ∧ ltb u2 u0 = true ∧ ltb u2 u0 = true ∧ leb 0 b.i = true ∧
 ltb b.i (↑(length k) : Int) = true ∧ ltn 0 (Cont.size (Cont.ints u8 k)) = true ∧ ltb u2 u0 = true ∧ ltn 0 (Cont.size (Cont.ints u8 (drop (Int.toNat b.i) k))) = true ∧ ltb u2 u0 = true ∧ ltb u2 u0 =
 true ∧ ltb u2 u0 = true ∧ ltb u2 u0 = true ∧ leb 0 (Int.tmod (b.i + 1) (↑(length a) : Int)) = true ∧ ltb (Int.tmod (b.i + 1) (↑(length a) : Int)) (↑(length k) : Int) = true ∧ ltn 0 (Cont.size
 (Cont.ints u8 k)) = true ∧ ltb u2 u0 = true ∧ ltn 0 (Cont.size (Cont.ints u8 (drop (Int.toNat (Int.tmod (b.i + 1) (↑(length a) : Int))) k))) = true ∧ ltb u2 u0 = true ∧ ltb u2 u0 = true ∧ (getD (drop
 (Int.toNat b.i) k) 0 0 == getD (drop (Int.toNat (Int.tmod (b.i + 1) (↑(length a) : Int))) k) 0 0) = true ∧ (getD (drop (Int.toNat b.i) k) 0 0 == getD (drop (Int.toNat (Int.tmod (b.i + 1) (↑(length a)
 : Int))) k) 0 0) = true ∧ (getD (drop (Int.toNat b.i) k) 0 0 == getD (drop (Int.toNat (Int.tmod (b.i + 1) (↑(length a) : Int))) k) 0 0) = true ∧ (getD (drop (Int.toNat b.i) k) 0 0 == getD (drop
 (Int.toNat (Int.tmod (b.i + 1) (↑(length a) : Int))) k) 0 0) = true ∧ leb 0 b.i = true ∧ ltb b.i (↑(length k) : Int) = true ∧ ltn 0 (Cont.size (Cont.ints u8 k)) = true ∧ (getD (drop (Int.toNat b.i) k)
 0 0 == getD (drop (Int.toNat (Int.tmod (b.i + 1) (↑(length a) : Int))) k) 0 0) = true ∧ ltn 0 (Cont.size (Cont.ints u8 (drop (Int.toNat b.i) k))) = true ∧ (getD (drop (Int.toNat b.i) k) 0 0 == getD
 (drop (Int.toNat (Int.tmod (b.i + 1) (↑(length a) : Int))) k) 0 0) = true ∧ (getD (drop (Int.toNat b.i) k) 0 0 == getD (drop (Int.toNat (Int.tmod (b.i + 1) (↑(length a) : Int))) k) 0 0) = true ∧ (getD
 (drop (Int.toNat b.i) k) 0 0 != 3) = true ∧ (getD (drop (Int.toNat b.i) k) 0 0 != 3) = true ∧ (getD (drop (Int.toNat b.i) k) 0 0 != 3) = true ∧ ([(9001, HO.blk (Blk.mk (Cont.ints i64 b.l) 1 (length
 b.l) none (some true) true false)), (64, HO.blk (Blk.mk (Cont.cells [AV.full 9001 (length b.l)]) 1 1 none (some false) true true)), (9002, HO.loop (LoopS.mk 0 none [(2, AV.ptr 64 0), (6, AV.fn 38 []
 [AV.iptr (Cont.vals [AV.imm (Cont.ints i64 a) (length a) none, AV.imm (Cont.ints u8 k) (length k) none])])] 13 [7] (XC.reg 192 [XO.mk (some 5) (XOp.mv (Opd.t 7)) none] [6, 7]) (XC.block 1 (XC.reg 256
 [XO.mk (some 8) (XOp.load none (Opd.t 2)) none, XO.mk (some 9) (XOp.mv (Opd.t 5)) none, XO.mk (some 10) (XOp.buildS 1 1 4 [AV.int i64 0] [(0, 1, Opd.t 9)]) none, XO.mk (some 11) (XOp.append 1 8 4
 (Opd.t 8) (Opd.t 10)) none, XO.mk none (XOp.store 1 (Opd.t 2) (Opd.t 11)) none] [5, 8, 9, 10, 11]))))] = [(9001, HO.blk (Blk.mk (Cont.ints i64 b.l) 1 (length b.l) none (some true) true false)), (64,
 HO.blk (Blk.mk (Cont.cells [AV.full 9001 (length b.l)]) 1 1 none (some false) true true)), (9002, HO.loop (LoopS.mk 0 none [(2, AV.ptr 64 0), (6, AV.fn 38 [] [AV.iptr (Cont.vals [AV.imm (Cont.ints i64
 a) (length a) none, AV.imm (Cont.ints u8 k) (length k) none])])] 13 [7] (XC.reg 192 [XO.mk (some 5) (XOp.mv (Opd.t 7)) none] [6, 7]) (XC.block 1 (XC.reg 256 [XO.mk (some 8) (XOp.load none (Opd.t 2))
 none, XO.mk (some 9) (XOp.mv (Opd.t 5)) none, XO.mk (some 10) (XOp.buildS 1 1 4 [AV.int i64 0] [(0, 1, Opd.t 9)]) none, XO.mk (some 11) (XOp.append 1 8 4 (Opd.t 8) (Opd.t 10)) none, XO.mk none
 (XOp.store 1 (Opd.t 2) (Opd.t 11)) none] [5, 8, 9, 10, 11]))))] ∧ length b.l < 1000000000000) ∧ (getD (drop (Int.toNat b.i) k) 0 0 != 3) = true ∧ (getD (drop (Int.toNat b.i) k) 0 0 != 3) = true ∧ inR
 i64 (b.i + 1) = true ∧ length (b.l ++ [b.i]) = length (b.l ++ [b.i]) ∧ b.l ++ [b.i] = b.l ++ [b.i] ∧ 1 = 1 ∧ length b.l + 1 = length (b.l ++ [b.i]) ∧ 0 = 0 ∧ (none : Option Ex) = none ∧ 13 = 13 ∧ [7]
 = [7] ∧ XC.reg 192 [XO.mk (some 5) (XOp.mv (Opd.t 7)) none] [6, 7] = XC.reg 192 [XO.mk (some 5) (XOp.mv (Opd.t 7)) none] [6, 7] ∧ XC.block 1 (XC.reg 256 [XO.mk (some 8) (XOp.load none (Opd.t 2)) none,
 XO.mk (some 9) (XOp.mv (Opd.t 5)) none, XO.mk (some 10) (XOp.buildS 1 1 4 [AV.int i64 0] [(0, 1, Opd.t 9)]) none, XO.mk (some 11) (XOp.append 1 8 4 (Opd.t 8) (Opd.t 10)) none, XO.mk none (XOp.store 1
 (Opd.t 2) (Opd.t 11)) none] [5, 8, 9, 10, 11]) = XC.block 1 (XC.reg 256 [XO.mk (some 8) (XOp.load none (Opd.t 2)) none, XO.mk (some 9) (XOp.mv (Opd.t 5)) none, XO.mk (some 10) (XOp.buildS 1 1 4
 [AV.int i64 0] [(0, 1, Opd.t 9)]) none, XO.mk (some 11) (XOp.append 1 8 4 (Opd.t 8) (Opd.t 10)) none, XO.mk none (XOp.store 1 (Opd.t 2) (Opd.t 11)) none] [5, 8, 9, 10, 11]) ∧ 0 = 0 ∧ Cont.vals [AV.imm
 (Cont.ints i64 a) (length a) none, AV.imm (Cont.ints u8 k) (length k) none] = Cont.vals [AV.imm (Cont.ints i64 a) (length a) none, AV.imm (Cont.ints u8 k) (length k) none] ∧ Cont.vals [AV.imm
 (Cont.ints i64 a) (length a) none, AV.imm (Cont.ints u8 k) (length k) none] = Cont.vals [AV.imm (Cont.ints i64 a) (length a) none, AV.imm (Cont.ints u8 k) (length k) none] ∧ (↑(length a) : Int) =
 (↑(length a) : Int) ∧ Cont.ints i64 a = Cont.ints i64 a ∧ length a = length a ∧ (↑(length a) : Int) = (↑(length a) : Int) ∧ b.i + 1 = b.i + 1 ∧ (∃ (n : Nat), b.i + 1 = (↑n : Int) ∧ n ≤ length a ∧
 length (b.l ++ [b.i]) ≤ n ∧ b.l ++ [b.i] = shpL a k n) ∧ length a - Int.toNat (b.i + 1) < length a - Int.toNat b.i ∧ True) ∧ (shB a k (Int.toNat b.i) = false → leb 0 (Int.tmod (b.i + 1) (↑(length a) :
 Int)) = true ∧ ltb (Int.tmod (b.i + 1) (↑(length a) : Int)) (↑(length a) : Int) = true ∧ ltn 0 (Cont.size (Cont.ints i64 a)) = true ∧ ltn 0 (Cont.size (Cont.ints i64 (drop (Int.toNat (Int.tmod (b.i +
 1) (↑(length a) : Int))) a))) = true ∧ (ltb u2 u1 = true → ltb u2 u1 = true) ∧ (ltb u2 u1 = true → ltb u2 u1 = true) ∧ (ltb u2 u1 = true → ltb u2 u1 = true) ∧ (ltb u2 u1 = true → inR i64 (b.i +
 (↑(length a) : Int)) = true) ∧ (ltb u2 u1 = true → ltb u2 u1 = true) ∧ (ltb u2 u1 = true → inR i64 (b.i + (↑(length a) : Int) - 1) = true) ∧ (ltb u2 u1 = true → ltb u2 u1 = true) ∧ (ltb u2 u1 = true →
 ltb u2 u1 = true) ∧ (ltb u2 u1 = true → (!(↑(length a) : Int) == 0) = true) ∧ (ltb u2 u1 = true → ltb u2 u1 = true) ∧ (ltb u2 u1 = true → ltb u2 u1 = true) ∧ (ltb u2 u1 = true → leb 0 (Int.tmod (b.i +
 (↑(length a) : Int) - 1) (↑(length a) : Int)) = true) ∧ (ltb u2 u1 = true → ltb (Int.tmod (b.i + (↑(length a) : Int) - 1) (↑(length a) : Int)) (↑(length a) : Int) = true) ∧ (ltb u2 u1 = true → ltn 0
 (Cont.size (Cont.ints i64 a)) = true) ∧ (ltb u2 u1 = true → ltb u2 u1 = true) ∧ (ltb u2 u1 = true → ltn 0 (Cont.size (Cont.ints i64 (drop (Int.toNat (Int.tmod (b.i + (↑(length a) : Int) - 1) (↑(length
 a) : Int))) a))) = true) ∧ (ltb u2 u1 = true → ltb u2 u1 = true) ∧ (ltb u2 u1 = true → ltb u2 u1 = true) ∧ (bif ltb u2 u1 then ltb u2 u1 && true else true) = true ∧ ((bif ltb u2 u1 then ltb u2 u0 else
 false) = true → (bif ltb u2 u1 then ltb u2 u0 else false) = true) ∧ ((bif ltb u2 u1 then ltb u2 u0 else false) = true → (bif ltb u2 u1 then ltb u2 u0 else false) = true) ∧ ((bif ltb u2 u1 then ltb u2
 u0 else false) = true → (bif ltb u2 u1 then ltb u2 u0 else false) = true) ∧ ((bif ltb u2 u1 then ltb u2 u0 else false) = true → leb 0 b.i = true) ∧ ((bif ltb u2 u1 then ltb u2 u0 else false) = true →
 ltb b.i (↑(length k) : Int) = true) ∧ ((bif ltb u2 u1 then ltb u2 u0 else false) = true → ltn 0 (Cont.size (Cont.ints u8 k)) = true) ∧ ((bif ltb u2 u1 then ltb u2 u0 else false) = true → (bif ltb u2
 u1 then ltb u2 u0 else false) = true) ∧ ((bif ltb u2 u1 then ltb u2 u0 else false) = true → ltn 0 (Cont.size (Cont.ints u8 (drop (Int.toNat b.i) k))) = true) ∧ ((bif ltb u2 u1 then ltb u2 u0 else
 false) = true → (bif ltb u2 u1 then ltb u2 u0 else false) = true) ∧ ((bif ltb u2 u1 then ltb u2 u0 else false) = true → (bif ltb u2 u1 then ltb u2 u0 else false) = true) ∧ ((bif ltb u2 u1 then ltb u2
 u0 else false) = true → (bif ltb u2 u1 then ltb u2 u0 else false) = true) ∧ ((bif ltb u2 u1 then ltb u2 u0 else false) = true → leb 0 (Int.tmod (b.i + 1) (↑(length a) : Int)) = true) ∧ ((bif ltb u2 u1
 then ltb u2 u0 else false) = true → ltb (Int.tmod (b.i + 1) (↑(length a) : Int)) (↑(length k) : Int) = true) ∧ ((bif ltb u2 u1 then ltb u2 u0 else false) = true → ltn 0 (Cont.size (Cont.ints u8 k)) =
 true) ∧ ((bif ltb u2 u1 then ltb u2 u0 else false) = true → (bif ltb u2 u1 then ltb u2 u0 else false) = true) ∧ ((bif ltb u2 u1 then ltb u2 u0 else false) = true → ltn 0 (Cont.size (Cont.ints u8 (drop
 (Int.toNat (Int.tmod (b.i + 1) (↑(length a) : Int))) k))) = true) ∧ ((bif ltb u2 u1 then ltb u2 u0 else false) = true → (bif ltb u2 u1 then ltb u2 u0 else false) = true) ∧ ((bif ltb u2 u1 then ltb u2
 u0 else false) = true → (bif ltb u2 u1 then ltb u2 u0 else false) = true) ∧ (bif bif ltb u2 u1 then ltb u2 u0 else false then (bif ltb u2 u1 then ltb u2 u0 else false) && true else true) = true ∧
 ((bif bif ltb u2 u1 then ltb u2 u0 else false then getD (drop (Int.toNat b.i) k) 0 0 == getD (drop (Int.toNat (Int.tmod (b.i + 1) (↑(length a) : Int))) k) 0 0 else false) = true → (bif bif ltb u2 u1
 then ltb u2 u0 else false then getD (drop (Int.toNat b.i) k) 0 0 == getD (drop (Int.toNat (Int.tmod (b.i + 1) (↑(length a) : Int))) k) 0 0 else false) = true) ∧ ((bif bif ltb u2 u1 then ltb u2 u0 else
 false then getD (drop (Int.toNat b.i) k) 0 0 == getD (drop (Int.toNat (Int.tmod (b.i + 1) (↑(length a) : Int))) k) 0 0 else false) = true → (bif bif ltb u2 u1 then ltb u2 u0 else false then getD (drop
 (Int.toNat b.i) k) 0 0 == getD (drop (Int.toNat (Int.tmod (b.i + 1) (↑(length a) : Int))) k) 0 0 else false) = true) ∧ ((bif bif ltb u2 u1 then ltb u2 u0 else false then getD (drop (Int.toNat b.i) k)
 0 0 == getD (drop (Int.toNat (Int.tmod (b.i + 1) (↑(length a) : Int))) k) 0 0 else false) = true → (bif bif ltb u2 u1 then ltb u2 u0 else false then getD (drop (Int.toNat b.i) k) 0 0 == getD (drop
 (Int.toNat (Int.tmod (b.i + 1) (↑(length a) : Int))) k) 0 0 else false) = true) ∧ ((bif bif ltb u2 u1 then ltb u2 u0 else false then getD (drop (Int.toNat b.i) k) 0 0 == getD (drop (Int.toNat
 (Int.tmod (b.i + 1) (↑(length a) : Int))) k) 0 0 else false) = true → leb 0 b.i = true) ∧ ((bif bif ltb u2 u1 then ltb u2 u0 else false then getD (drop (Int.toNat b.i) k) 0 0 == getD (drop (Int.toNat
 (Int.tmod (b.i + 1) (↑(length a) : Int))) k) 0 0 else false) = true → ltb b.i (↑(length k) : Int) = true) ∧ ((bif bif ltb u2 u1 then ltb u2 u0 else false then getD (drop (Int.toNat b.i) k) 0 0 == getD
 (drop (Int.toNat (Int.tmod (b.i + 1) (↑(length a) : Int))) k) 0 0 else false) = true → ltn 0 (Cont.size (Cont.ints u8 k)) = true) ∧ ((bif bif ltb u2 u1 then ltb u2 u0 else false then getD (drop
 (Int.toNat b.i) k) 0 0 == getD (drop (Int.toNat (Int.tmod (b.i + 1) (↑(length a) : Int))) k) 0 0 else false) = true → (bif bif ltb u2 u1 then ltb u2 u0 else false then getD (drop (Int.toNat b.i) k) 0
 0 == getD (drop (Int.toNat (Int.tmod (b.i + 1) (↑(length a) : Int))) k) 0 0 else false) = true) ∧ ((bif bif ltb u2 u1 then ltb u2 u0 else false then getD (drop (Int.toNat b.i) k) 0 0 == getD (drop
 (Int.toNat (Int.tmod (b.i + 1) (↑(length a) : Int))) k) 0 0 else false) = true → ltn 0 (Cont.size (Cont.ints u8 (drop (Int.toNat b.i) k))) = true) ∧ ((bif bif ltb u2 u1 then ltb u2 u0 else false then
 getD (drop (Int.toNat b.i) k) 0 0 == getD (drop (Int.toNat (Int.tmod (b.i + 1) (↑(length a) : Int))) k) 0 0 else false) = true → (bif bif ltb u2 u1 then ltb u2 u0 else false then getD (drop (Int.toNat
 b.i) k) 0 0 == getD (drop (Int.toNat (Int.tmod (b.i + 1) (↑(length a) : Int))) k) 0 0 else false) = true) ∧ (bif bif bif ltb u2 u1 then ltb u2 u0 else false then getD (drop (Int.toNat b.i) k) 0 0 ==
 getD (drop (Int.toNat (Int.tmod (b.i + 1) (↑(length a) : Int))) k) 0 0 else false then (bif bif ltb u2 u1 then ltb u2 u0 else false then getD (drop (Int.toNat b.i) k) 0 0 == getD (drop (Int.toNat
 (Int.tmod (b.i + 1) (↑(length a) : Int))) k) 0 0 else false) && true else true) = true ∧ (!bif bif bif ltb u2 u1 then ltb u2 u0 else false then getD (drop (Int.toNat b.i) k) 0 0 == getD (drop
 (Int.toNat (Int.tmod (b.i + 1) (↑(length a) : Int))) k) 0 0 else false then getD (drop (Int.toNat b.i) k) 0 0 != 3 else false) = true ∧ (!bif bif bif ltb u2 u1 then ltb u2 u0 else false then getD
 (drop (Int.toNat b.i) k) 0 0 == getD (drop (Int.toNat (Int.tmod (b.i + 1) (↑(length a) : Int))) k) 0 0 else false then getD (drop (Int.toNat b.i) k) 0 0 != 3 else false) = true ∧ (!bif bif bif ltb u2
 u1 then ltb u2 u0 else false then getD (drop (Int.toNat b.i) k) 0 0 == getD (drop (Int.toNat (Int.tmod (b.i + 1) (↑(length a) : Int))) k) 0 0 else false then getD (drop (Int.toNat b.i) k) 0 0 != 3
 else false) = true ∧ (!bif bif bif ltb u2 u1 then ltb u2 u0 else false then getD (drop (Int.toNat b.i) k) 0 0 == getD (drop (Int.toNat (Int.tmod (b.i + 1) (↑(length a) : Int))) k) 0 0 else false then
 getD (drop (Int.toNat b.i) k) 0 0 != 3 else false) = true ∧ (bif bif bif bif ltb u2 u1 then ltb u2 u0 else false then getD (drop (Int.toNat b.i) k) 0 0 == getD (drop (Int.toNat (Int.tmod (b.i + 1)
 (↑(length a) : Int))) k) 0 0 else false then getD (drop (Int.toNat b.i) k) 0 0 != 3 else false then false else true) = true ∧ ((bif bif bif bif ltb u2 u1 then ltb u2 u0 else false then getD (drop
 (Int.toNat b.i) k) 0 0 == getD (drop (Int.toNat (Int.tmod (b.i + 1) (↑(length a) : Int))) k) 0 0 else false then getD (drop (Int.toNat b.i) k) 0 0 != 3 else false then false else false) = true →
 length b.l = length (shps a k) ∧ b.l = shps a k ∧ 1 = 1 ∧ length b.l = length (shps a k) ∧ 0 = 0 ∧ (none : Option Ex) = none ∧ 13 = 13 ∧ [7] = [7] ∧ XC.reg 192 [XO.mk (some 5) (XOp.mv (Opd.t 7)) none]
 [6, 7] = XC.reg 192 [XO.mk (some 5) (XOp.mv (Opd.t 7)) none] [6, 7] ∧ XC.block 1 (XC.reg 256 [XO.mk (some 8) (XOp.load none (Opd.t 2)) none, XO.mk (some 9) (XOp.mv (Opd.t 5)) none, XO.mk (some 10)
 (XOp.buildS 1 1 4 [AV.int i64 0] [(0, 1, Opd.t 9)]) none, XO.mk (some 11) (XOp.append 1 8 4 (Opd.t 8) (Opd.t 10)) none, XO.mk none (XOp.store 1 (Opd.t 2) (Opd.t 11)) none] [5, 8, 9, 10, 11]) =
 XC.block 1 (XC.reg 256 [XO.mk (some 8) (XOp.load none (Opd.t 2)) none, XO.mk (some 9) (XOp.mv (Opd.t 5)) none, XO.mk (some 10) (XOp.buildS 1 1 4 [AV.int i64 0] [(0, 1, Opd.t 9)]) none, XO.mk (some 11)
 (XOp.append 1 8 4 (Opd.t 8) (Opd.t 10)) none, XO.mk none (XOp.store 1 (Opd.t 2) (Opd.t 11)) none] [5, 8, 9, 10, 11]) ∧ 0 = 0 ∧ Cont.vals [AV.imm (Cont.ints i64 a) (length a) none, AV.imm (Cont.ints u8
 k) (length k) none] = Cont.vals [AV.imm (Cont.ints i64 a) (length a) none, AV.imm (Cont.ints u8 k) (length k) none] ∧ True) ∧ ((bif bif bif bif ltb u2 u1 then ltb u2 u0 else false then getD (drop
 (Int.toNat b.i) k) 0 0 == getD (drop (Int.toNat (Int.tmod (b.i + 1) (↑(length a) : Int))) k) 0 0 else false then getD (drop (Int.toNat b.i) k) 0 0 != 3 else false then false else false) = false → inR
 i64 (b.i + 1) = true ∧ length b.l = length b.l ∧ b.l = b.l ∧ 1 = 1 ∧ length b.l = length b.l ∧ 0 = 0 ∧ (none : Option Ex) = none ∧ 13 = 13 ∧ [7] = [7] ∧ XC.reg 192 [XO.mk (some 5) (XOp.mv (Opd.t 7))
 none] [6, 7] = XC.reg 192 [XO.mk (some 5) (XOp.mv (Opd.t 7)) none] [6, 7] ∧ XC.block 1 (XC.reg 256 [XO.mk (some 8) (XOp.load none (Opd.t 2)) none, XO.mk (some 9) (XOp.mv (Opd.t 5)) none, XO.mk (some
 10) (XOp.buildS 1 1 4 [AV.int i64 0] [(0, 1, Opd.t 9)]) none, XO.mk (some 11) (XOp.append 1 8 4 (Opd.t 8) (Opd.t 10)) none, XO.mk none (XOp.store 1 (Opd.t 2) (Opd.t 11)) none] [5, 8, 9, 10, 11]) =
 XC.block 1 (XC.reg 256 [XO.mk (some 8) (XOp.load none (Opd.t 2)) none, XO.mk (some 9) (XOp.mv (Opd.t 5)) none, XO.mk (some 10) (XOp.buildS 1 1 4 [AV.int i64 0] [(0, 1, Opd.t 9)]) none, XO.mk (some 11)
 (XOp.append 1 8 4 (Opd.t 8) (Opd.t 10)) none, XO.mk none (XOp.store 1 (Opd.t 2) (Opd.t 11)) none] [5, 8, 9, 10, 11]) ∧ 0 = 0 ∧ Cont.vals [AV.imm (Cont.ints i64 a) (length a) none, AV.imm (Cont.ints u8
 k) (length k) none] = Cont.vals [AV.imm (Cont.ints i64 a) (length a) none, AV.imm (Cont.ints u8 k) (length k) none] ∧ Cont.vals [AV.imm (Cont.ints i64 a) (length a) none, AV.imm (Cont.ints u8 k)
 (length k) none] = Cont.vals [AV.imm (Cont.ints i64 a) (length a) none, AV.imm (Cont.ints u8 k) (length k) none] ∧ (↑(length a) : Int) = (↑(length a) : Int) ∧ Cont.ints i64 a = Cont.ints i64 a ∧
 length a = length a ∧ (↑(length a) : Int) = (↑(length a) : Int) ∧ b.i + 1 = b.i + 1 ∧ (∃ (n : Nat), b.i + 1 = (↑n : Int) ∧ n ≤ length a ∧ length b.l ≤ n ∧ b.l = shpL a k n) ∧ length a - Int.toNat (b.i
 + 1) < length a - Int.toNat b.i ∧ True))) ∧ (ltb b.i (↑(length a) : Int) = false → length b.l = length (shps a k) ∧ b.l = shps a k ∧ 1 = 1 ∧ length b.l = length (shps a k) ∧ 0 = 0 ∧ (none : Option Ex)
 = none ∧ 13 = 13 ∧ [7] = [7] ∧ XC.reg 192 [XO.mk (some 5) (XOp.mv (Opd.t 7)) none] [6, 7] = XC.reg 192 [XO.mk (some 5) (XOp.mv (Opd.t 7)) none] [6, 7] ∧ XC.block 1 (XC.reg 256 [XO.mk (some 8)
 (XOp.load none (Opd.t 2)) none, XO.mk (some 9) (XOp.mv (Opd.t 5)) none, XO.mk (some 10) (XOp.buildS 1 1 4 [AV.int i64 0] [(0, 1, Opd.t 9)]) none, XO.mk (some 11) (XOp.append 1 8 4 (Opd.t 8) (Opd.t
 10)) none, XO.mk none (XOp.store 1 (Opd.t 2) (Opd.t 11)) none] [5, 8, 9, 10, 11]) = XC.block 1 (XC.reg 256 [XO.mk (some 8) (XOp.load none (Opd.t 2)) none, XO.mk (some 9) (XOp.mv (Opd.t 5)) none, XO.mk
 (some 10) (XOp.buildS 1 1 4 [AV.int i64 0] [(0, 1, Opd.t 9)]) none, XO.mk (some 11) (XOp.append 1 8 4 (Opd.t 8) (Opd.t 10)) none, XO.mk none (XOp.store 1 (Opd.t 2) (Opd.t 11)) none] [5, 8, 9, 10, 11])
 ∧ 0 = 0 ∧ Cont.vals [AV.imm (Cont.ints i64 a) (length a) none, AV.imm (Cont.ints u8 k) (length k) none] = Cont.vals [AV.imm (Cont.ints i64 a) (length a) none, AV.imm (Cont.ints u8 k) (length k) none]
 ∧ True)) (getD (drop (Int.toNat (Int.tmod (b.i + (↑(length a) : Int) - 1) (↑(length a) : Int))) a) 0 0) (getD (drop (Int.toNat (Int.tmod (b.i + 1) (↑(length a) : Int))) a) 0 0) (getD (drop (Int.toNat
 b.i) a) 0 0))) := by kernel_rfl

end Go.Proofs.YtidpllnmghgomaaDoor.X
