/-
  What is to be shown of the functions (made by a program).
-/
import Derived.Test.YtidpllnmghgomaaDoorD6Z
import Derived.KernelRfl
set_option maxRecDepth 1000000
set_option linter.unusedVariables false
namespace Go.Proofs.YtidpllnmghgomaaDoor.X
open Go Go.Ab
open List IntKind

theorem ob_y_84 (a k : List Int) (x : Int) : fnY (T0) G 10000 (9002) (.r [] 1 .nil) ([.int .i64 x]) (H84 a k) (false) (W84 a k) = (
 1 = 1 ∧ true = true ∧ 2 = 2 ∧ some Ex.ret = some Ex.ret ∧ 6 = 6 ∧ [5] = [5] ∧ XC.skip = XC.skip ∧ XC.block 1 (XC.seq (XC.reg 192 [XO.mk none (XOp.store 1 (Opd.t 2) (Opd.c (AV.bool true))) none] [4,
 5]) XC.ret) = XC.block 1 (XC.seq (XC.reg 192 [XO.mk none (XOp.store 1 (Opd.t 2) (Opd.c (AV.bool true))) none] [4, 5]) XC.ret) ∧ 0 = 0 ∧ Cont.vals [AV.imm (Cont.ints i64 a) (length a) none, AV.imm
 (Cont.ints u8 k) (length k) none] = Cont.vals [AV.imm (Cont.ints i64 a) (length a) none, AV.imm (Cont.ints u8 k) (length k) none] ∧ false = false ∧ True) := by kernel_rfl

theorem ob_d_38n (a k : List Int) : fnD (T0) G 10000 (fe38) (.r [] 1 (.r [] 0 (.cnd .nil (.r [] 1 (.lp (l38n a k) [] [] (fun b => (.r [] 0 (.cnd (.r [] 0 (.r [] 0 (.r [yM 456, yM 457, yM 458, yM 459, yM 460, yM 461, yM 462, yM 463, yM 464, yM 465, yM 466, yM 467, yM 470, yM 471, yM 472, yM 473, yM 474, yM 475, yM 476, yM 477, yM 478, yM 479, yM 480, yM 483, yM 484, yM 485, yM 486, yM 487, yM 488, (491, .off, Dr.plain), (492, .off, Dr.plain), (493, .off, Dr.plain), (494, .off, Dr.plain), (495, .auto, Dr.pk false)] 92522584132267540545 (.lit (.r [] 0 .nil))))) .nil)))))))) ([.yld 9002, .iptr (fanC a k)]) (H84 a k) ([]) ([]) = (
 (ltb (↑(length a) : Int) 4 = true → 1 = 1 ∧ false = false ∧ 0 = 0 ∧ (none : Option Ex) = none ∧ 6 = 6 ∧ [5] = [5] ∧ XC.skip = XC.skip ∧ XC.block 1 (XC.seq (XC.reg 192 [XO.mk none (XOp.store 1 (Opd.t
 2) (Opd.c (AV.bool true))) none] [4, 5]) XC.ret) = XC.block 1 (XC.seq (XC.reg 192 [XO.mk none (XOp.store 1 (Opd.t 2) (Opd.c (AV.bool true))) none] [4, 5]) XC.ret) ∧ 0 = 0 ∧ Cont.vals [AV.imm
 (Cont.ints i64 a) (length a) none, AV.imm (Cont.ints u8 k) (length k) none] = Cont.vals [AV.imm (Cont.ints i64 a) (length a) none, AV.imm (Cont.ints u8 k) (length k) none] ∧ True) ∧ (ltb (↑(length a)
 : Int) 4 = false → 1 = 1 ∧ false = false ∧ 0 = 0 ∧ (none : Option Ex) = none ∧ 6 = 6 ∧ [5] = [5] ∧ XC.skip = XC.skip ∧ XC.block 1 (XC.seq (XC.reg 192 [XO.mk none (XOp.store 1 (Opd.t 2) (Opd.c (AV.bool
 true))) none] [4, 5]) XC.ret) = XC.block 1 (XC.seq (XC.reg 192 [XO.mk none (XOp.store 1 (Opd.t 2) (Opd.c (AV.bool true))) none] [4, 5]) XC.ret) ∧ 0 = 0 ∧ Cont.vals [AV.imm (Cont.ints i64 a) (length a)
 none, AV.imm (Cont.ints u8 k) (length k) none] = Cont.vals [AV.imm (Cont.ints i64 a) (length a) none, AV.imm (Cont.ints u8 k) (length k) none] ∧ Cont.vals [AV.imm (Cont.ints i64 a) (length a) none,
 AV.imm (Cont.ints u8 k) (length k) none] = Cont.vals [AV.imm (Cont.ints i64 a) (length a) none, AV.imm (Cont.ints u8 k) (length k) none] ∧ (↑(length a) : Int) = (↑(length a) : Int) ∧ Cont.ints i64 a =
 Cont.ints i64 a ∧ length a = length a ∧ (↑(length a) : Int) = (↑(length a) : Int) ∧ iI 0 = 0 ∧ (∃ (n : Nat), 0 = (↑n : Int) ∧ n ≤ length a) ∧ ∀ (b : LI), (fun (u0 u1 u2 : Int) => (∃ (n : Nat), b.i =
 (↑n : Int) ∧ n ≤ length a) → (ltb b.i (↑(length a) : Int) = true → leb 0 b.i = true ∧ ltb b.i (↑(length a) : Int) = true ∧ ltn 0 (Cont.size (Cont.ints i64 a)) = true ∧ ltn 0 (Cont.size (Cont.ints i64
 (drop (Int.toNat b.i) a))) = true ∧ inR i64 (b.i + 1) = true ∧ (!(↑(length a) : Int) == 0) = true ∧ leb 0 (Int.tmod (b.i + 1) (↑(length a) : Int)) = true ∧ ltb (Int.tmod (b.i + 1) (↑(length a) : Int))
 (↑(length a) : Int) = true ∧ ltn 0 (Cont.size (Cont.ints i64 a)) = true ∧ ltn 0 (Cont.size (Cont.ints i64 (drop (Int.toNat (Int.tmod (b.i + 1) (↑(length a) : Int))) a))) = true ∧ (ltb u2 u1 = true →
 ltb u2 u1 = true) ∧ (ltb u2 u1 = true → ltb u2 u1 = true) ∧ (ltb u2 u1 = true → ltb u2 u1 = true) ∧ (ltb u2 u1 = true → inR i64 (b.i + (↑(length a) : Int)) = true) ∧ (ltb u2 u1 = true → ltb u2 u1 =
 true) ∧ (ltb u2 u1 = true → inR i64 (b.i + (↑(length a) : Int) - 1) = true) ∧ (ltb u2 u1 = true → ltb u2 u1 = true) ∧ (ltb u2 u1 = true → ltb u2 u1 = true) ∧ (ltb u2 u1 = true → (!(↑(length a) : Int)
 == 0) = true) ∧ (ltb u2 u1 = true → ltb u2 u1 = true) ∧ (ltb u2 u1 = true → ltb u2 u1 = true) ∧ (ltb u2 u1 = true → leb 0 (Int.tmod (b.i + (↑(length a) : Int) - 1) (↑(length a) : Int)) = true) ∧ (ltb
 u2 u1 = true → ltb (Int.tmod (b.i + (↑(length a) : Int) - 1) (↑(length a) : Int)) (↑(length a) : Int) = true) ∧ (ltb u2 u1 = true → ltn 0 (Cont.size (Cont.ints i64 a)) = true) ∧ (ltb u2 u1 = true →
 ltb u2 u1 = true) ∧ (ltb u2 u1 = true → ltn 0 (Cont.size (Cont.ints i64 (drop (Int.toNat (Int.tmod (b.i + (↑(length a) : Int) - 1) (↑(length a) : Int))) a))) = true) ∧ (ltb u2 u1 = true → ltb u2 u1 =
 true) ∧ (ltb u2 u1 = true → ltb u2 u1 = true) ∧ (bif ltb u2 u1 then ltb u2 u1 && true else true) = true ∧ ((bif ltb u2 u1 then ltb u2 u0 else false) = true → (bif ltb u2 u1 then ltb u2 u0 else false)
 = true) ∧ ((bif ltb u2 u1 then ltb u2 u0 else false) = true → (bif ltb u2 u1 then ltb u2 u0 else false) = true) ∧ ((bif ltb u2 u1 then ltb u2 u0 else false) = true → (bif ltb u2 u1 then ltb u2 u0 else
 false) = true) ∧ ((bif ltb u2 u1 then ltb u2 u0 else false) = true → leb 0 b.i = true) ∧ ((bif ltb u2 u1 then ltb u2 u0 else false) = true → ltb b.i (↑(length k) : Int) = true) ∧ ((bif ltb u2 u1 then
 ltb u2 u0 else false) = true → ltn 0 (Cont.size (Cont.ints u8 k)) = true) ∧ ((bif ltb u2 u1 then ltb u2 u0 else false) = true → (bif ltb u2 u1 then ltb u2 u0 else false) = true) ∧ ((bif ltb u2 u1 then
 ltb u2 u0 else false) = true → ltn 0 (Cont.size (Cont.ints u8 (drop (Int.toNat b.i) k))) = true) ∧ ((bif ltb u2 u1 then ltb u2 u0 else false) = true → (bif ltb u2 u1 then ltb u2 u0 else false) = true)
 ∧ ((bif ltb u2 u1 then ltb u2 u0 else false) = true → (bif ltb u2 u1 then ltb u2 u0 else false) = true) ∧ ((bif ltb u2 u1 then ltb u2 u0 else false) = true → (bif ltb u2 u1 then ltb u2 u0 else false)
 = true) ∧ ((bif ltb u2 u1 then ltb u2 u0 else false) = true → leb 0 (Int.tmod (b.i + 1) (↑(length a) : Int)) = true) ∧ ((bif ltb u2 u1 then ltb u2 u0 else false) = true → ltb (Int.tmod (b.i + 1)
 (↑(length a) : Int)) (↑(length k) : Int) = true) ∧ ((bif ltb u2 u1 then ltb u2 u0 else false) = true → ltn 0 (Cont.size (Cont.ints u8 k)) = true) ∧ ((bif ltb u2 u1 then ltb u2 u0 else false) = true →
 (bif ltb u2 u1 then ltb u2 u0 else false) = true) ∧ ((bif ltb u2 u1 then ltb u2 u0 else false) = true → ltn 0 (Cont.size (Cont.ints u8 (drop (Int.toNat (Int.tmod (b.i + 1) (↑(length a) : Int))) k))) =
 true) ∧ ((bif ltb u2 u1 then ltb u2 u0 else false) = true → (bif ltb u2 u1 then ltb u2 u0 else false) = true) ∧ ((bif ltb u2 u1 then ltb u2 u0 else false) = true → (bif ltb u2 u1 then ltb u2 u0 else
 false) = true) ∧ (bif bif ltb u2 u1 then ltb u2 u0 else false then (bif ltb u2 u1 then ltb u2 u0 else false) && true else true) = true ∧ ((bif bif ltb u2 u1 then ltb u2 u0 else false then getD (drop
 (Int.toNat b.i) k) 0 0 == getD (drop (Int.toNat (Int.tmod (b.i + 1) (↑(length a) : Int))) k) 0 0 else false) = true → (bif bif ltb u2 u1 then ltb u2 u0 else false then getD (drop (Int.toNat b.i) k) 0
 0 == getD (drop (Int.toNat (Int.tmod (b.i + 1) (↑(length a) : Int))) k) 0 0 else false) = true) ∧ ((bif bif ltb u2 u1 then ltb u2 u0 else false then getD (drop (Int.toNat b.i) k) 0 0 == getD (drop
 (Int.toNat (Int.tmod (b.i + 1) (↑(length a) : Int))) k) 0 0 else false) = true → (bif bif ltb u2 u1 then ltb u2 u0 else false then getD (drop (Int.toNat b.i) k) 0 0 == getD (drop (Int.toNat (Int.tmod
 (b.i + 1) (↑(length a) : Int))) k) 0 0 else false) = true) ∧ ((bif bif ltb u2 u1 then ltb u2 u0 else false then getD (drop (Int.toNat b.i) k) 0 0 == getD (drop (Int.toNat (Int.tmod (b.i + 1) (↑(length
 a) : Int))) k) 0 0 else false) = true → (bif bif ltb u2 u1 then ltb u2 u0 else false then getD (drop (Int.toNat b.i) k) 0 0 == getD (drop (Int.toNat (Int.tmod (b.i + 1) (↑(length a) : Int))) k) 0 0
 else false) = true) ∧ ((bif bif ltb u2 u1 then ltb u2 u0 else false then getD (drop (Int.toNat b.i) k) 0 0 == getD (drop (Int.toNat (Int.tmod (b.i + 1) (↑(length a) : Int))) k) 0 0 else false) = true
 → leb 0 b.i = true) ∧ ((bif bif ltb u2 u1 then ltb u2 u0 else false then getD (drop (Int.toNat b.i) k) 0 0 == getD (drop (Int.toNat (Int.tmod (b.i + 1) (↑(length a) : Int))) k) 0 0 else false) = true
 → ltb b.i (↑(length k) : Int) = true) ∧ ((bif bif ltb u2 u1 then ltb u2 u0 else false then getD (drop (Int.toNat b.i) k) 0 0 == getD (drop (Int.toNat (Int.tmod (b.i + 1) (↑(length a) : Int))) k) 0 0
 else false) = true → ltn 0 (Cont.size (Cont.ints u8 k)) = true) ∧ ((bif bif ltb u2 u1 then ltb u2 u0 else false then getD (drop (Int.toNat b.i) k) 0 0 == getD (drop (Int.toNat (Int.tmod (b.i + 1)
 (↑(length a) : Int))) k) 0 0 else false) = true → (bif bif ltb u2 u1 then ltb u2 u0 else false then getD (drop (Int.toNat b.i) k) 0 0 == getD (drop (Int.toNat (Int.tmod (b.i + 1) (↑(length a) : Int)))
 k) 0 0 else false) = true) ∧ ((bif bif ltb u2 u1 then ltb u2 u0 else false then getD (drop (Int.toNat b.i) k) 0 0 == getD (drop (Int.toNat (Int.tmod (b.i + 1) (↑(length a) : Int))) k) 0 0 else false)
 = true → ltn 0 (Cont.size (Cont.ints u8 (drop (Int.toNat b.i) k))) = true) ∧ ((bif bif ltb u2 u1 then ltb u2 u0 else false then getD (drop (Int.toNat b.i) k) 0 0 == getD (drop (Int.toNat (Int.tmod
 (b.i + 1) (↑(length a) : Int))) k) 0 0 else false) = true → (bif bif ltb u2 u1 then ltb u2 u0 else false then getD (drop (Int.toNat b.i) k) 0 0 == getD (drop (Int.toNat (Int.tmod (b.i + 1) (↑(length
 a) : Int))) k) 0 0 else false) = true) ∧ (bif bif bif ltb u2 u1 then ltb u2 u0 else false then getD (drop (Int.toNat b.i) k) 0 0 == getD (drop (Int.toNat (Int.tmod (b.i + 1) (↑(length a) : Int))) k) 0
 0 else false then (bif bif ltb u2 u1 then ltb u2 u0 else false then getD (drop (Int.toNat b.i) k) 0 0 == getD (drop (Int.toNat (Int.tmod (b.i + 1) (↑(length a) : Int))) k) 0 0 else false) && true else
 true) = true ∧ (!bif bif bif ltb u2 u1 then ltb u2 u0 else false then getD (drop (Int.toNat b.i) k) 0 0 == getD (drop (Int.toNat (Int.tmod (b.i + 1) (↑(length a) : Int))) k) 0 0 else false then getD
 (drop (Int.toNat b.i) k) 0 0 != 3 else false) = true ∧ (!bif bif bif ltb u2 u1 then ltb u2 u0 else false then getD (drop (Int.toNat b.i) k) 0 0 == getD (drop (Int.toNat (Int.tmod (b.i + 1) (↑(length
 a) : Int))) k) 0 0 else false then getD (drop (Int.toNat b.i) k) 0 0 != 3 else false) = true ∧ (!bif bif bif ltb u2 u1 then ltb u2 u0 else false then getD (drop (Int.toNat b.i) k) 0 0 == getD (drop
 (Int.toNat (Int.tmod (b.i + 1) (↑(length a) : Int))) k) 0 0 else false then getD (drop (Int.toNat b.i) k) 0 0 != 3 else false) = true ∧ (!bif bif bif ltb u2 u1 then ltb u2 u0 else false then getD
 (drop (Int.toNat b.i) k) 0 0 == getD (drop (Int.toNat (Int.tmod (b.i + 1) (↑(length a) : Int))) k) 0 0 else false then getD (drop (Int.toNat b.i) k) 0 0 != 3 else false) = true ∧ (!bif bif bif ltb u2
 u1 then ltb u2 u0 else false then getD (drop (Int.toNat b.i) k) 0 0 == getD (drop (Int.toNat (Int.tmod (b.i + 1) (↑(length a) : Int))) k) 0 0 else false then getD (drop (Int.toNat b.i) k) 0 0 != 3
 else false) = true ∧ inR i64 (b.i + 1) = true ∧ 1 = 1 ∧ false = false ∧ 0 = 0 ∧ (none : Option Ex) = none ∧ 6 = 6 ∧ [5] = [5] ∧ XC.skip = XC.skip ∧ XC.block 1 (XC.seq (XC.reg 192 [XO.mk none
 (XOp.store 1 (Opd.t 2) (Opd.c (AV.bool true))) none] [4, 5]) XC.ret) = XC.block 1 (XC.seq (XC.reg 192 [XO.mk none (XOp.store 1 (Opd.t 2) (Opd.c (AV.bool true))) none] [4, 5]) XC.ret) ∧ 0 = 0 ∧
 Cont.vals [AV.imm (Cont.ints i64 a) (length a) none, AV.imm (Cont.ints u8 k) (length k) none] = Cont.vals [AV.imm (Cont.ints i64 a) (length a) none, AV.imm (Cont.ints u8 k) (length k) none] ∧
 Cont.vals [AV.imm (Cont.ints i64 a) (length a) none, AV.imm (Cont.ints u8 k) (length k) none] = Cont.vals [AV.imm (Cont.ints i64 a) (length a) none, AV.imm (Cont.ints u8 k) (length k) none] ∧
 (↑(length a) : Int) = (↑(length a) : Int) ∧ Cont.ints i64 a = Cont.ints i64 a ∧ length a = length a ∧ (↑(length a) : Int) = (↑(length a) : Int) ∧ b.i + 1 = b.i + 1 ∧ (∃ (n : Nat), b.i + 1 = (↑n : Int)
 ∧ n ≤ length a) ∧ length a - Int.toNat (b.i + 1) < length a - Int.toNat b.i ∧ True) ∧ (ltb b.i (↑(length a) : Int) = false → 1 = 1 ∧ false = false ∧ 0 = 0 ∧ (none : Option Ex) = none ∧ 6 = 6 ∧ [5] =
 [5] ∧ XC.skip = XC.skip ∧ XC.block 1 (XC.seq (XC.reg 192 [XO.mk none (XOp.store 1 (Opd.t 2) (Opd.c (AV.bool true))) none] [4, 5]) XC.ret) = XC.block 1 (XC.seq (XC.reg 192 [XO.mk none (XOp.store 1
 (Opd.t 2) (Opd.c (AV.bool true))) none] [4, 5]) XC.ret) ∧ 0 = 0 ∧ Cont.vals [AV.imm (Cont.ints i64 a) (length a) none, AV.imm (Cont.ints u8 k) (length k) none] = Cont.vals [AV.imm (Cont.ints i64 a)
 (length a) none, AV.imm (Cont.ints u8 k) (length k) none] ∧ True)) (getD (drop (Int.toNat (Int.tmod (b.i + (↑(length a) : Int) - 1) (↑(length a) : Int))) a) 0 0) (getD (drop (Int.toNat (Int.tmod (b.i
 + 1) (↑(length a) : Int))) a) 0 0) (getD (drop (Int.toNat b.i) a) 0 0))) := by kernel_rfl

theorem ob_d_38y (a k : List Int) : fnD (TZ a k) G 10000 (fe38) (.r [] 1 (.r [] 0 (.cnd .nil (.r [] 1 (.lp (l38y a k) [] [] (fun b => (.r [] 0 (.tt (.r [] 0 (.r [] 0 (.br (shB a k (Int.toNat b.i)) (.r [yO 456, yO 457, yO 458, yO 459, yO 460, yO 461, yO 462, yO 463, yO 464, yO 465, yO 466, yO 467, (468, .auto, Dr.pk true), yO 470, yO 471, yO 472, yO 473, yO 474, yO 475, yO 476, yO 477, yO 478, yO 479, yO 480, (481, .auto, Dr.pk true), yO 483, yO 484, yO 485, yO 486, yO 487, yO 488, (489, .auto, Dr.pk true), yO 491, yO 492, (493, .on, Dr.heap), yO 494, (495, .auto, Dr.pk true)] 11852053897607416643841 (.lit .nil)) (.r [yM 456, yM 457, yM 458, yM 459, yM 460, yM 461, yM 462, yM 463, yM 464, yM 465, yM 466, yM 467, yM 470, yM 471, yM 472, yM 473, yM 474, yM 475, yM 476, yM 477, yM 478, yM 479, yM 480, yM 483, yM 484, yM 485, yM 486, yM 487, yM 488, (491, .off, Dr.plain), (492, .off, Dr.plain), (493, .off, Dr.plain), (494, .off, Dr.plain), (495, .auto, Dr.pk false)] 92522584132267540545 (.lit (.r [] 0 .nil)))))))))))))) ([.yld 9002, .iptr (fanC a k)]) (H84 a k) ([]) (W84 a k) = (
 (ltb (↑(length a) : Int) 4 = true → 1 = 1 ∧ false = true ∧ 2 = 0 ∧ some Ex.ret = none ∧ 6 = 6 ∧ [5] = [5] ∧ XC.skip = XC.skip ∧ XC.block 1 (XC.seq (XC.reg 192 [XO.mk none (XOp.store 1 (Opd.t 2) (Opd.c
 (AV.bool true))) none] [4, 5]) XC.ret) = XC.block 1 (XC.seq (XC.reg 192 [XO.mk none (XOp.store 1 (Opd.t 2) (Opd.c (AV.bool true))) none] [4, 5]) XC.ret) ∧ 0 = 0 ∧ Cont.vals [AV.imm (Cont.ints i64 a)
 (length a) none, AV.imm (Cont.ints u8 k) (length k) none] = Cont.vals [AV.imm (Cont.ints i64 a) (length a) none, AV.imm (Cont.ints u8 k) (length k) none] ∧ True) ∧ (ltb (↑(length a) : Int) 4 = false →
 1 = 1 ∧ false = false ∧ 0 = 0 ∧ (none : Option Ex) = none ∧ 6 = 6 ∧ [5] = [5] ∧ XC.skip = XC.skip ∧ XC.block 1 (XC.seq (XC.reg 192 [XO.mk none (XOp.store 1 (Opd.t 2) (Opd.c (AV.bool true))) none] [4,
 5]) XC.ret) = XC.block 1 (XC.seq (XC.reg 192 [XO.mk none (XOp.store 1 (Opd.t 2) (Opd.c (AV.bool true))) none] [4, 5]) XC.ret) ∧ 0 = 0 ∧ Cont.vals [AV.imm (Cont.ints i64 a) (length a) none, AV.imm
 (Cont.ints u8 k) (length k) none] = Cont.vals [AV.imm (Cont.ints i64 a) (length a) none, AV.imm (Cont.ints u8 k) (length k) none] ∧ Cont.vals [AV.imm (Cont.ints i64 a) (length a) none, AV.imm
 (Cont.ints u8 k) (length k) none] = Cont.vals [AV.imm (Cont.ints i64 a) (length a) none, AV.imm (Cont.ints u8 k) (length k) none] ∧ (↑(length a) : Int) = (↑(length a) : Int) ∧ Cont.ints i64 a =
 Cont.ints i64 a ∧ length a = length a ∧ (↑(length a) : Int) = (↑(length a) : Int) ∧ iI 0 = 0 ∧ (∃ (n : Nat), ∃ (m : Nat), 0 = (↑n : Int) ∧ n ≤ m ∧ m < length a ∧ shB a k m = true) ∧ ∀ (b : LI), (fun
 (u0 u1 u2 : Int) => (∃ (n : Nat), ∃ (m : Nat), b.i = (↑n : Int) ∧ n ≤ m ∧ m < length a ∧ shB a k m = true) → ltb b.i (↑(length a) : Int) = true ∧ leb 0 b.i = true ∧ ltb b.i (↑(length a) : Int) = true
 ∧ ltn 0 (Cont.size (Cont.ints i64 a)) = true ∧ ltn 0 (Cont.size (Cont.ints i64 (drop (Int.toNat b.i) a))) = true ∧ inR i64 (b.i + 1) = true ∧ (!(↑(length a) : Int) == 0) = true ∧ (shB a k (Int.toNat
 b.i) = true → leb 0 (Int.tmod (b.i + 1) (↑(length a) : Int)) = true ∧ ltb (Int.tmod (b.i + 1) (↑(length a) : Int)) (↑(length a) : Int) = true ∧ ltn 0 (Cont.size (Cont.ints i64 a)) = true ∧ ltn 0
 (Cont.size (Cont.ints i64 (drop (Int.toNat (Int.tmod (b.i + 1) (↑(length a) : Int))) a))) = true ∧ ltb u2 u1 = true ∧ ltb u2 u1 = true ∧ ltb u2 u1 = true ∧ ltb u2 u1 = true ∧ ltb u2 u1 = true ∧ ltb u2
 u1 = true ∧ inR i64 (b.i + (↑(length a) : Int)) = true ∧ ltb u2 u1 = true ∧ inR i64 (b.i + (↑(length a) : Int) - 1) = true ∧ ltb u2 u1 = true ∧ ltb u2 u1 = true ∧ (!(↑(length a) : Int) == 0) = true ∧
 ltb u2 u1 = true ∧ leb 0 (Int.tmod (b.i + (↑(length a) : Int) - 1) (↑(length a) : Int)) = true ∧ ltb (Int.tmod (b.i + (↑(length a) : Int) - 1) (↑(length a) : Int)) (↑(length a) : Int) = true ∧ ltn 0
 (Cont.size (Cont.ints i64 a)) = true ∧ ltb u2 u1 = true ∧ ltn 0 (Cont.size (Cont.ints i64 (drop (Int.toNat (Int.tmod (b.i + (↑(length a) : Int) - 1) (↑(length a) : Int))) a))) = true ∧ ltb u2 u1 =
 true ∧ ltb u2 u1 = true ∧ ltb u2 u0 = true ∧ ltb u2 u0 = true ∧ ltb u2 u0 = true ∧ ltb u2 u0 = true ∧ leb 0 b.i = true ∧ ltb b.i (↑(length k) : Int) = true ∧ ltn 0 (Cont.size (Cont.ints u8 k)) = true
 ∧ ltb u2 u0 = true ∧ ltn 0 (Cont.size (Cont.ints u8 (drop (Int.toNat b.i) k))) = true ∧ ltb u2 u0 = true ∧ ltb u2 u0 = true ∧ ltb u2 u0 = true ∧ ltb u2 u0 = true ∧ leb 0 (Int.tmod (b.i + 1) (↑(length
 a) : Int)) = true ∧ ltb (Int.tmod (b.i + 1) (↑(length a) : Int)) (↑(length k) : Int) = true ∧ ltn 0 (Cont.size (Cont.ints u8 k)) = true ∧ ltb u2 u0 = true ∧ ltn 0 (Cont.size (Cont.ints u8 (drop
 (Int.toNat (Int.tmod (b.i + 1) (↑(length a) : Int))) k))) = true ∧ ltb u2 u0 = true ∧ ltb u2 u0 = true ∧ (getD (drop (Int.toNat b.i) k) 0 0 == getD (drop (Int.toNat (Int.tmod (b.i + 1) (↑(length a) :
 Int))) k) 0 0) = true ∧ (getD (drop (Int.toNat b.i) k) 0 0 == getD (drop (Int.toNat (Int.tmod (b.i + 1) (↑(length a) : Int))) k) 0 0) = true ∧ (getD (drop (Int.toNat b.i) k) 0 0 == getD (drop
 (Int.toNat (Int.tmod (b.i + 1) (↑(length a) : Int))) k) 0 0) = true ∧ (getD (drop (Int.toNat b.i) k) 0 0 == getD (drop (Int.toNat (Int.tmod (b.i + 1) (↑(length a) : Int))) k) 0 0) = true ∧ leb 0 b.i =
 true ∧ ltb b.i (↑(length k) : Int) = true ∧ ltn 0 (Cont.size (Cont.ints u8 k)) = true ∧ (getD (drop (Int.toNat b.i) k) 0 0 == getD (drop (Int.toNat (Int.tmod (b.i + 1) (↑(length a) : Int))) k) 0 0) =
 true ∧ ltn 0 (Cont.size (Cont.ints u8 (drop (Int.toNat b.i) k))) = true ∧ (getD (drop (Int.toNat b.i) k) 0 0 == getD (drop (Int.toNat (Int.tmod (b.i + 1) (↑(length a) : Int))) k) 0 0) = true ∧ (getD
 (drop (Int.toNat b.i) k) 0 0 == getD (drop (Int.toNat (Int.tmod (b.i + 1) (↑(length a) : Int))) k) 0 0) = true ∧ (getD (drop (Int.toNat b.i) k) 0 0 != 3) = true ∧ (getD (drop (Int.toNat b.i) k) 0 0 !=
 3) = true ∧ (getD (drop (Int.toNat b.i) k) 0 0 != 3) = true ∧ [(65, HO.blk (Blk.mk (Cont.cells [AV.bool false]) 1 1 none (some false) true true)), (9002, HO.loop (LoopS.mk 0 none [(2, AV.ptr 65 0),
 (4, AV.fn 38 [] [AV.iptr (Cont.vals [AV.imm (Cont.ints i64 a) (length a) none, AV.imm (Cont.ints u8 k) (length k) none])])] 6 [5] XC.skip (XC.block 1 (XC.seq (XC.reg 192 [XO.mk none (XOp.store 1
 (Opd.t 2) (Opd.c (AV.bool true))) none] [4, 5]) XC.ret))))] = [(65, HO.blk (Blk.mk (Cont.cells [AV.bool false]) 1 1 none (some false) true true)), (9002, HO.loop (LoopS.mk 0 none [(2, AV.ptr 65 0),
 (4, AV.fn 38 [] [AV.iptr (Cont.vals [AV.imm (Cont.ints i64 a) (length a) none, AV.imm (Cont.ints u8 k) (length k) none])])] 6 [5] XC.skip (XC.block 1 (XC.seq (XC.reg 192 [XO.mk none (XOp.store 1
 (Opd.t 2) (Opd.c (AV.bool true))) none] [4, 5]) XC.ret))))] ∧ (getD (drop (Int.toNat b.i) k) 0 0 != 3) = true ∧ (getD (drop (Int.toNat b.i) k) 0 0 != 3) = true ∧ 1 = 1 ∧ true = true ∧ 2 = 2 ∧ some
 Ex.ret = some Ex.ret ∧ 6 = 6 ∧ [5] = [5] ∧ XC.skip = XC.skip ∧ XC.block 1 (XC.seq (XC.reg 192 [XO.mk none (XOp.store 1 (Opd.t 2) (Opd.c (AV.bool true))) none] [4, 5]) XC.ret) = XC.block 1 (XC.seq
 (XC.reg 192 [XO.mk none (XOp.store 1 (Opd.t 2) (Opd.c (AV.bool true))) none] [4, 5]) XC.ret) ∧ 0 = 0 ∧ Cont.vals [AV.imm (Cont.ints i64 a) (length a) none, AV.imm (Cont.ints u8 k) (length k) none] =
 Cont.vals [AV.imm (Cont.ints i64 a) (length a) none, AV.imm (Cont.ints u8 k) (length k) none] ∧ True) ∧ (shB a k (Int.toNat b.i) = false → leb 0 (Int.tmod (b.i + 1) (↑(length a) : Int)) = true ∧ ltb
 (Int.tmod (b.i + 1) (↑(length a) : Int)) (↑(length a) : Int) = true ∧ ltn 0 (Cont.size (Cont.ints i64 a)) = true ∧ ltn 0 (Cont.size (Cont.ints i64 (drop (Int.toNat (Int.tmod (b.i + 1) (↑(length a) :
 Int))) a))) = true ∧ (ltb u2 u1 = true → ltb u2 u1 = true) ∧ (ltb u2 u1 = true → ltb u2 u1 = true) ∧ (ltb u2 u1 = true → ltb u2 u1 = true) ∧ (ltb u2 u1 = true → inR i64 (b.i + (↑(length a) : Int)) =
 true) ∧ (ltb u2 u1 = true → ltb u2 u1 = true) ∧ (ltb u2 u1 = true → inR i64 (b.i + (↑(length a) : Int) - 1) = true) ∧ (ltb u2 u1 = true → ltb u2 u1 = true) ∧ (ltb u2 u1 = true → ltb u2 u1 = true) ∧
 (ltb u2 u1 = true → (!(↑(length a) : Int) == 0) = true) ∧ (ltb u2 u1 = true → ltb u2 u1 = true) ∧ (ltb u2 u1 = true → ltb u2 u1 = true) ∧ (ltb u2 u1 = true → leb 0 (Int.tmod (b.i + (↑(length a) : Int)
 - 1) (↑(length a) : Int)) = true) ∧ (ltb u2 u1 = true → ltb (Int.tmod (b.i + (↑(length a) : Int) - 1) (↑(length a) : Int)) (↑(length a) : Int) = true) ∧ (ltb u2 u1 = true → ltn 0 (Cont.size (Cont.ints
 i64 a)) = true) ∧ (ltb u2 u1 = true → ltb u2 u1 = true) ∧ (ltb u2 u1 = true → ltn 0 (Cont.size (Cont.ints i64 (drop (Int.toNat (Int.tmod (b.i + (↑(length a) : Int) - 1) (↑(length a) : Int))) a))) =
 true) ∧ (ltb u2 u1 = true → ltb u2 u1 = true) ∧ (ltb u2 u1 = true → ltb u2 u1 = true) ∧ (bif ltb u2 u1 then ltb u2 u1 && true else true) = true ∧ ((bif ltb u2 u1 then ltb u2 u0 else false) = true →
 (bif ltb u2 u1 then ltb u2 u0 else false) = true) ∧ ((bif ltb u2 u1 then ltb u2 u0 else false) = true → (bif ltb u2 u1 then ltb u2 u0 else false) = true) ∧ ((bif ltb u2 u1 then ltb u2 u0 else false) =
 true → (bif ltb u2 u1 then ltb u2 u0 else false) = true) ∧ ((bif ltb u2 u1 then ltb u2 u0 else false) = true → leb 0 b.i = true) ∧ ((bif ltb u2 u1 then ltb u2 u0 else false) = true → ltb b.i (↑(length
 k) : Int) = true) ∧ ((bif ltb u2 u1 then ltb u2 u0 else false) = true → ltn 0 (Cont.size (Cont.ints u8 k)) = true) ∧ ((bif ltb u2 u1 then ltb u2 u0 else false) = true → (bif ltb u2 u1 then ltb u2 u0
 else false) = true) ∧ ((bif ltb u2 u1 then ltb u2 u0 else false) = true → ltn 0 (Cont.size (Cont.ints u8 (drop (Int.toNat b.i) k))) = true) ∧ ((bif ltb u2 u1 then ltb u2 u0 else false) = true → (bif
 ltb u2 u1 then ltb u2 u0 else false) = true) ∧ ((bif ltb u2 u1 then ltb u2 u0 else false) = true → (bif ltb u2 u1 then ltb u2 u0 else false) = true) ∧ ((bif ltb u2 u1 then ltb u2 u0 else false) = true
 → (bif ltb u2 u1 then ltb u2 u0 else false) = true) ∧ ((bif ltb u2 u1 then ltb u2 u0 else false) = true → leb 0 (Int.tmod (b.i + 1) (↑(length a) : Int)) = true) ∧ ((bif ltb u2 u1 then ltb u2 u0 else
 false) = true → ltb (Int.tmod (b.i + 1) (↑(length a) : Int)) (↑(length k) : Int) = true) ∧ ((bif ltb u2 u1 then ltb u2 u0 else false) = true → ltn 0 (Cont.size (Cont.ints u8 k)) = true) ∧ ((bif ltb u2
 u1 then ltb u2 u0 else false) = true → (bif ltb u2 u1 then ltb u2 u0 else false) = true) ∧ ((bif ltb u2 u1 then ltb u2 u0 else false) = true → ltn 0 (Cont.size (Cont.ints u8 (drop (Int.toNat (Int.tmod
 (b.i + 1) (↑(length a) : Int))) k))) = true) ∧ ((bif ltb u2 u1 then ltb u2 u0 else false) = true → (bif ltb u2 u1 then ltb u2 u0 else false) = true) ∧ ((bif ltb u2 u1 then ltb u2 u0 else false) = true
 → (bif ltb u2 u1 then ltb u2 u0 else false) = true) ∧ (bif bif ltb u2 u1 then ltb u2 u0 else false then (bif ltb u2 u1 then ltb u2 u0 else false) && true else true) = true ∧ ((bif bif ltb u2 u1 then
 ltb u2 u0 else false then getD (drop (Int.toNat b.i) k) 0 0 == getD (drop (Int.toNat (Int.tmod (b.i + 1) (↑(length a) : Int))) k) 0 0 else false) = true → (bif bif ltb u2 u1 then ltb u2 u0 else false
 then getD (drop (Int.toNat b.i) k) 0 0 == getD (drop (Int.toNat (Int.tmod (b.i + 1) (↑(length a) : Int))) k) 0 0 else false) = true) ∧ ((bif bif ltb u2 u1 then ltb u2 u0 else false then getD (drop
 (Int.toNat b.i) k) 0 0 == getD (drop (Int.toNat (Int.tmod (b.i + 1) (↑(length a) : Int))) k) 0 0 else false) = true → (bif bif ltb u2 u1 then ltb u2 u0 else false then getD (drop (Int.toNat b.i) k) 0
 0 == getD (drop (Int.toNat (Int.tmod (b.i + 1) (↑(length a) : Int))) k) 0 0 else false) = true) ∧ ((bif bif ltb u2 u1 then ltb u2 u0 else false then getD (drop (Int.toNat b.i) k) 0 0 == getD (drop
 (Int.toNat (Int.tmod (b.i + 1) (↑(length a) : Int))) k) 0 0 else false) = true → (bif bif ltb u2 u1 then ltb u2 u0 else false then getD (drop (Int.toNat b.i) k) 0 0 == getD (drop (Int.toNat (Int.tmod
 (b.i + 1) (↑(length a) : Int))) k) 0 0 else false) = true) ∧ ((bif bif ltb u2 u1 then ltb u2 u0 else false then getD (drop (Int.toNat b.i) k) 0 0 == getD (drop (Int.toNat (Int.tmod (b.i + 1) (↑(length
 a) : Int))) k) 0 0 else false) = true → leb 0 b.i = true) ∧ ((bif bif ltb u2 u1 then ltb u2 u0 else false then getD (drop (Int.toNat b.i) k) 0 0 == getD (drop (Int.toNat (Int.tmod (b.i + 1) (↑(length
 a) : Int))) k) 0 0 else false) = true → ltb b.i (↑(length k) : Int) = true) ∧ ((bif bif ltb u2 u1 then ltb u2 u0 else false then getD (drop (Int.toNat b.i) k) 0 0 == getD (drop (Int.toNat (Int.tmod
 (b.i + 1) (↑(length a) : Int))) k) 0 0 else false) = true → ltn 0 (Cont.size (Cont.ints u8 k)) = true) ∧ ((bif bif ltb u2 u1 then ltb u2 u0 else false then getD (drop (Int.toNat b.i) k) 0 0 == getD
 (drop (Int.toNat (Int.tmod (b.i + 1) (↑(length a) : Int))) k) 0 0 else false) = true → (bif bif ltb u2 u1 then ltb u2 u0 else false then getD (drop (Int.toNat b.i) k) 0 0 == getD (drop (Int.toNat
 (Int.tmod (b.i + 1) (↑(length a) : Int))) k) 0 0 else false) = true) ∧ ((bif bif ltb u2 u1 then ltb u2 u0 else false then getD (drop (Int.toNat b.i) k) 0 0 == getD (drop (Int.toNat (Int.tmod (b.i + 1)
 (↑(length a) : Int))) k) 0 0 else false) = true → ltn 0 (Cont.size (Cont.ints u8 (drop (Int.toNat b.i) k))) = true) ∧ ((bif bif ltb u2 u1 then ltb u2 u0 else false then getD (drop (Int.toNat b.i) k) 0
 0 == getD (drop (Int.toNat (Int.tmod (b.i + 1) (↑(length a) : Int))) k) 0 0 else false) = true → (bif bif ltb u2 u1 then ltb u2 u0 else false then getD (drop (Int.toNat b.i) k) 0 0 == getD (drop
 (Int.toNat (Int.tmod (b.i + 1) (↑(length a) : Int))) k) 0 0 else false) = true) ∧ (bif bif bif ltb u2 u1 then ltb u2 u0 else false then getD (drop (Int.toNat b.i) k) 0 0 == getD (drop (Int.toNat
 (Int.tmod (b.i + 1) (↑(length a) : Int))) k) 0 0 else false then (bif bif ltb u2 u1 then ltb u2 u0 else false then getD (drop (Int.toNat b.i) k) 0 0 == getD (drop (Int.toNat (Int.tmod (b.i + 1)
 (↑(length a) : Int))) k) 0 0 else false) && true else true) = true ∧ (!bif bif bif ltb u2 u1 then ltb u2 u0 else false then getD (drop (Int.toNat b.i) k) 0 0 == getD (drop (Int.toNat (Int.tmod (b.i +
 1) (↑(length a) : Int))) k) 0 0 else false then getD (drop (Int.toNat b.i) k) 0 0 != 3 else false) = true ∧ (!bif bif bif ltb u2 u1 then ltb u2 u0 else false then getD (drop (Int.toNat b.i) k) 0 0 ==
 getD (drop (Int.toNat (Int.tmod (b.i + 1) (↑(length a) : Int))) k) 0 0 else false then getD (drop (Int.toNat b.i) k) 0 0 != 3 else false) = true ∧ (!bif bif bif ltb u2 u1 then ltb u2 u0 else false
 then getD (drop (Int.toNat b.i) k) 0 0 == getD (drop (Int.toNat (Int.tmod (b.i + 1) (↑(length a) : Int))) k) 0 0 else false then getD (drop (Int.toNat b.i) k) 0 0 != 3 else false) = true ∧ (!bif bif
 bif ltb u2 u1 then ltb u2 u0 else false then getD (drop (Int.toNat b.i) k) 0 0 == getD (drop (Int.toNat (Int.tmod (b.i + 1) (↑(length a) : Int))) k) 0 0 else false then getD (drop (Int.toNat b.i) k) 0
 0 != 3 else false) = true ∧ (!bif bif bif ltb u2 u1 then ltb u2 u0 else false then getD (drop (Int.toNat b.i) k) 0 0 == getD (drop (Int.toNat (Int.tmod (b.i + 1) (↑(length a) : Int))) k) 0 0 else
 false then getD (drop (Int.toNat b.i) k) 0 0 != 3 else false) = true ∧ inR i64 (b.i + 1) = true ∧ 1 = 1 ∧ false = false ∧ 0 = 0 ∧ (none : Option Ex) = none ∧ 6 = 6 ∧ [5] = [5] ∧ XC.skip = XC.skip ∧
 XC.block 1 (XC.seq (XC.reg 192 [XO.mk none (XOp.store 1 (Opd.t 2) (Opd.c (AV.bool true))) none] [4, 5]) XC.ret) = XC.block 1 (XC.seq (XC.reg 192 [XO.mk none (XOp.store 1 (Opd.t 2) (Opd.c (AV.bool
 true))) none] [4, 5]) XC.ret) ∧ 0 = 0 ∧ Cont.vals [AV.imm (Cont.ints i64 a) (length a) none, AV.imm (Cont.ints u8 k) (length k) none] = Cont.vals [AV.imm (Cont.ints i64 a) (length a) none, AV.imm
 (Cont.ints u8 k) (length k) none] ∧ Cont.vals [AV.imm (Cont.ints i64 a) (length a) none, AV.imm (Cont.ints u8 k) (length k) none] = Cont.vals [AV.imm (Cont.ints i64 a) (length a) none, AV.imm
 (Cont.ints u8 k) (length k) none] ∧ (↑(length a) : Int) = (↑(length a) : Int) ∧ Cont.ints i64 a = Cont.ints i64 a ∧ length a = length a ∧ (↑(length a) : Int) = (↑(length a) : Int) ∧ b.i + 1 = b.i + 1
 ∧ (∃ (n : Nat), ∃ (m : Nat), b.i + 1 = (↑n : Int) ∧ n ≤ m ∧ m < length a ∧ shB a k m = true) ∧ length a - Int.toNat (b.i + 1) < length a - Int.toNat b.i ∧ True)) (getD (drop (Int.toNat (Int.tmod (b.i
 + (↑(length a) : Int) - 1) (↑(length a) : Int))) a) 0 0) (getD (drop (Int.toNat (Int.tmod (b.i + 1) (↑(length a) : Int))) a) 0 0) (getD (drop (Int.toNat b.i) a) 0 0))) := by kernel_rfl

theorem ob_o84n (a k : List Int) : fnP (T84n) G 10000 fe84 (.r [] 0 (.r [] 1 (.rf 9002 0 (.r [] 1 .nil)))) ([fanV a k]) ([.bool false]) ([]) = (
 (length a = length a ∧ length k = length k) ∧ ([(65, HO.blk (Blk.mk (Cont.cells [AV.bool false]) 1 1 none (some false) true true)), (9002, HO.loop (LoopS.mk 0 none [(2, AV.ptr 65 0), (4, AV.fn 38 []
 [AV.iptr (Cont.vals [AV.imm (Cont.ints i64 a) (length a) none, AV.imm (Cont.ints u8 k) (length k) none])])] 6 [5] XC.skip (XC.block 1 (XC.seq (XC.reg 192 [XO.mk none (XOp.store 1 (Opd.t 2) (Opd.c
 (AV.bool true))) none] [4, 5]) XC.ret))))] = [(65, HO.blk (Blk.mk (Cont.cells [AV.bool false]) 1 1 none (some false) true true)), (9002, HO.loop (LoopS.mk 0 none [(2, AV.ptr 65 0), (4, AV.fn 38 []
 [AV.iptr (Cont.vals [AV.imm (Cont.ints i64 a) (length a) none, AV.imm (Cont.ints u8 k) (length k) none])])] 6 [5] XC.skip (XC.block 1 (XC.seq (XC.reg 192 [XO.mk none (XOp.store 1 (Opd.t 2) (Opd.c
 (AV.bool true))) none] [4, 5]) XC.ret))))] ∧ length a = length a ∧ length k = length k ∧ length a = length k ∧ length a < 1000000000000 ∧ shps a k = []) ∧ false = false ∧ True) := by kernel_rfl

theorem ob_o84y (a k : List Int) : fnP (T84y) G 10000 fe84 (.r [] 0 (.r [] 1 (.rf 9002 0 .nil))) ([fanV a k]) ([.bool true]) ([]) = (
 (length a = length a ∧ length k = length k) ∧ ([(65, HO.blk (Blk.mk (Cont.cells [AV.bool false]) 1 1 none (some false) true true)), (9002, HO.loop (LoopS.mk 0 none [(2, AV.ptr 65 0), (4, AV.fn 38 []
 [AV.iptr (Cont.vals [AV.imm (Cont.ints i64 a) (length a) none, AV.imm (Cont.ints u8 k) (length k) none])])] 6 [5] XC.skip (XC.block 1 (XC.seq (XC.reg 192 [XO.mk none (XOp.store 1 (Opd.t 2) (Opd.c
 (AV.bool true))) none] [4, 5]) XC.ret))))] = [(65, HO.blk (Blk.mk (Cont.cells [AV.bool false]) 1 1 none (some false) true true)), (9002, HO.loop (LoopS.mk 0 none [(2, AV.ptr 65 0), (4, AV.fn 38 []
 [AV.iptr (Cont.vals [AV.imm (Cont.ints i64 a) (length a) none, AV.imm (Cont.ints u8 k) (length k) none])])] 6 [5] XC.skip (XC.block 1 (XC.seq (XC.reg 192 [XO.mk none (XOp.store 1 (Opd.t 2) (Opd.c
 (AV.bool true))) none] [4, 5]) XC.ret))))] ∧ length a = length a ∧ length k = length k ∧ length a = length k ∧ length a < 1000000000000 ∧ shps a k ≠ []) ∧ true = true ∧ True) := by kernel_rfl

theorem ob_o82 (a k : List Int) : fnP (T0) G 10000 fe82 (.r [] 0 (.r [] 0 .nil)) ([fanV a k]) ([.bool false]) ([]) = (
 false = false ∧ True) := by kernel_rfl

theorem ob_o83 (a k : List Int) : fnP (T7) G 10000 fe83 (.r [] 0 (.r [] 1 .nil)) ([fanV a k]) ([.bool (unbB a k)]) ([]) = (
 (length a = length a ∧ length k = length k ∧ length k < 1000000000000) ∧ ((↑(length (chs a k)) : Int) == 0) = unbB a k ∧ True) := by kernel_rfl

theorem ob_o19 (a k : List Int) : fnP (T8) G 10000 fe19 (.r [] 0 (.r [] 1 (.r [] 0 (.cnd (.r [] 0 .nil) (.r [] 1 (.un (.r [] 0 (.lit (.r [] 7 (.r [] 1 (.lit (.r [] 1 (.un (.r [] 0 (.lit (.r [] 7 (.r [] 1 (.cnd (.r [] 1 .nil) (.r [] 1 (.un (.r [] 0 (.lit (.r [] 7 (.r [] 1 (.cnd (.r [] 1 .nil) (.r [] 1 (.un (.r [] 0 (.lit (.r [] 7 (.r [] 1 (.cnd (.r [] 1 .nil) (.r [] 1 (.un (.r [] 0 (.lit (.r [] 7 (.r [] 1 (.cnd (.r [] 1 .nil) (.r [] 1 (.un (.r [] 0 (.lit (.r [] 0 .nil)))))))))))))))))))))))))))))))))))))))))))) ([fanV a k]) ([.int .u8 (bI (isOk a k) (lk a k) 0), .int .i64 (chk a k)]) ([]) = (
 (length a = length a ∧ length k = length k ∧ length a < 1000000000000) ∧ ((chk a k != 0) = true → 0 = bI (isOk a k) (lk a k) 0 ∧ chk a k = chk a k ∧ True) ∧ ((chk a k != 0) = false → (length a =
 length a ∧ length k = length k) ∧ (length a = length a ∧ length k = length k) ∧ (oddB a = true → 1 = bI (isOk a k) (lk a k) 0 ∧ 0 = chk a k ∧ True) ∧ (oddB a = false → (length a = length a ∧ length k
 = length k ∧ okA a) ∧ (unevB a = true → 2 = bI (isOk a k) (lk a k) 0 ∧ 0 = chk a k ∧ True) ∧ (unevB a = false → (length a = length a ∧ length k = length k ∧ length k < 1000000000000) ∧ (unbB a k =
 true → 3 = bI (isOk a k) (lk a k) 0 ∧ 0 = chk a k ∧ True) ∧ (unbB a k = false → (length a = length a ∧ length k = length k ∧ length a = length k ∧ length a < 1000000000000) ∧ (ptB a k = true → 4 = bI
 (isOk a k) (lk a k) 0 ∧ 0 = chk a k ∧ True) ∧ (ptB a k = false → 0 = bI (isOk a k) (lk a k) 0 ∧ 0 = chk a k ∧ True)))))) := by kernel_rfl

theorem ob_o6 (a k : List Int) : fnP (T9) G 10000 fe6 (.r [] 0 (.rs 5 [] 1 22 (.r [] 3 (.lit (.r [] 1 .nil))) (.r [] 7 (.cnd (.r [] 1 .nil) (.r [] 1 (.r [] 29 (.r [] 13 (.r [] 29 (.r [] 13 (.r [] 13 (.r [] 13 (.rs 4 [] 0 66 (.r [] 1023 (.lit (.r [] 0 .nil))) (.rs 5 [] 3 71 (.r [] 255 (.lit (.r [] 0 .nil))) (.rs 5 [] 3 76 (.r [] 63 (.lit (.r [] 0 .nil))) (.rs 5 [] 3 81 (.r [] 15 (.lit (.r [] 0 .nil))) (.rs 5 [] 3 86 (.r [] 3 (.lit (.r [] 0 .nil))) (.r [] 3 (.ff (.rs 3 [] 0 93 (.r [] 31 .nil) (.rs 3 [] 0 96 (.rs 4 [] 3 100 (.rs 4 [] 3 104 (.rs 4 [] 3 108 (.rs 4 [] 3 112 (.rs 8 [] 6 120 (.rs 5 [] 15 125 (.r [] 7 .nil) (.r [] 3 .nil)) (.r [] 63 .nil)) (.r [] 255 .nil)) (.r [] 1023 .nil)) (.r [] 4095 .nil)) (.r [] 16383 .nil)) (.r [] 65535 .nil))))))))))))))))))))) ([fanV a k]) ([.bool true]) ([]) = (
 (ltb 12 (↑(length a) : Int) = true → true = true ∧ True) ∧ (ltb 12 (↑(length a) : Int) = false → (ltb 12 (↑(length k) : Int) = true → true = true ∧ True) ∧ (ltb 12 (↑(length k) : Int) = false →
 (length a = length a ∧ length k = length k ∧ length a < 1000000000000) ∧ (length a = length a ∧ length k = length k ∧ length a < 1000000000000) ∧ (length a = length a ∧ length k = length k ∧ length a
 < 1000000000000) ∧ (length a = length a ∧ length k = length k ∧ length a < 1000000000000) ∧ (length a = length a ∧ length k = length k ∧ length a < 1000000000000) ∧ (length a = length a ∧ length k =
 length k ∧ length a < 1000000000000) ∧ (length a = length a ∧ length k = length k ∧ length a < 1000000000000) ∧ ((chk a k != chk a k) = true → false = true ∧ True) ∧ ((chk a k != chk a k) = false →
 ((chk a k != chk a k) = true → false = true ∧ True) ∧ ((chk a k != chk a k) = false → ((chk a k != chk a k) = true → false = true ∧ True) ∧ ((chk a k != chk a k) = false → ((chk a k != chk a k) = true
 → false = true ∧ True) ∧ ((chk a k != chk a k) = false → ((chk a k != chk a k) = true → false = true ∧ True) ∧ ((chk a k != chk a k) = false → (chk a k != chk a k) = false ∧ ((chk a k == 0) = true →
 true = true ∧ True) ∧ ((chk a k == 0) = false → ((bI (isOk a k) (sumP true a) 0 == 0) = true → ((bI (isOk a k) (sumP false a) 0 == 0) = true → ((!altB a k) = true → ((bI (isOk a k) (dif k - cntK k 3)
 0 == 0) = true → ((bI (isOk a k) (dif k + cntK k 3) 0 == 0) = true → inR i64 ((↑(length (bL (isOk a k) (shps a k))) : Int) + (↑(length (bL (isOk a k) (chs a k))) : Int)) = true ∧ (((↑(length (bL (isOk
 a k) (shps a k))) : Int) + (↑(length (bL (isOk a k) (chs a k))) : Int) == 0) = true → ((bI (isOk a k) (lk a k) 0 == 0) = true → true = true ∧ True) ∧ ((bI (isOk a k) (lk a k) 0 == 0) = false → false =
 true ∧ True)) ∧ (((↑(length (bL (isOk a k) (shps a k))) : Int) + (↑(length (bL (isOk a k) (chs a k))) : Int) == 0) = false → false = true ∧ True)) ∧ ((bI (isOk a k) (dif k + cntK k 3) 0 == 0) = false
 → false = true ∧ True)) ∧ ((bI (isOk a k) (dif k - cntK k 3) 0 == 0) = false → false = true ∧ True)) ∧ ((!altB a k) = false → false = true ∧ True)) ∧ ((bI (isOk a k) (sumP false a) 0 == 0) = false →
 false = true ∧ True)) ∧ ((bI (isOk a k) (sumP true a) 0 == 0) = false → false = true ∧ True)))))))))) := by kernel_rfl

end Go.Proofs.YtidpllnmghgomaaDoor.X
