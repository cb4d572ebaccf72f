/-
  What is to be shown of the functions (made by a program).
-/
import Derived.Test.YtidpllnmghgomaaDoorD11Z
import Derived.KernelRfl
set_option maxRecDepth 1000000
set_option linter.unusedVariables false
namespace Go.Proofs.YtidpllnmghgomaaDoor.X
open Go Go.Ab
open List IntKind

theorem ob_o8  : fnP (TK) G 10000 fe8 (.r [] 0 (.r [] 0 (.r [] 0 (.lp (l8) [] [] (fun b => (.r [] 0 (.cnd (.r [(385, .auto, Dr.wrap), (387, .auto, Dr.wrap), (389, .auto, Dr.wrap), (392, .auto, Dr.wrap), (395, .auto, Dr.wrap), (398, .auto, Dr.wrap), (400, .auto, Dr.wrap)] 106 (.rs 8 [] 11 34 (.r [(467, .auto, Dr.wrap)] 130011 (.lit (.r [] 4 (.r [] 0 .nil)))) (.r [(467, .auto, Dr.wrap)] 15 (.lit (.r [] 4 (.r [] 0 .nil)))))) (.r [] 1 .nil)))))))) ([]) ([.bool true]) ([]) = (
 iI 1 = 1 ∧ iI 0 = 0 ∧ (∃ (m : Nat), 0 = (↑m : Int) ∧ m ≤ 256 ∧ iI 0 ≤ iI 1 ∧ iI 1 ≤ iI 100003) ∧ ∀ (b : L8), (∃ (m : Nat), b.n = (↑m : Int) ∧ m ≤ 256 ∧ 0 ≤ b.k ∧ b.k ≤ 100003) → (ltb b.n 256 = true →
 inR i64 (Int.tdiv b.k 3) = true ∧ inR i64 (Int.tdiv b.k 7) = true ∧ inR i64 (Int.tdiv b.k 11) = true ∧ (5 = 5 ∧ okK [wrap u8 b.k, wrap u8 (Int.tdiv b.k 3), wrap u8 (Int.tdiv b.k 7), wrap u8 (Int.tdiv
 b.k 11), wrap u8 b.n]) ∧ ((Int.tmod b.n 4 == 0) = true → (5 = 5 ∧ okK [wrap u8 b.k, wrap u8 (Int.tdiv b.k 3), wrap u8 (Int.tdiv b.k 7), wrap u8 (Int.tdiv b.k 11), wrap u8 b.n]) ∧ (5 = 5 ∧ okK [wrap u8
 b.k, wrap u8 (Int.tdiv b.k 3), wrap u8 (Int.tdiv b.k 7), wrap u8 (Int.tdiv b.k 11), wrap u8 b.n]) ∧ (5 = 5 ∧ okK [wrap u8 b.k, wrap u8 (Int.tdiv b.k 3), wrap u8 (Int.tdiv b.k 7), wrap u8 (Int.tdiv b.k
 11), wrap u8 b.n] ∧ 0 ≤ wrap u8 b.k ∧ wrap u8 b.k ≤ 255) ∧ inR i64 (b.k * 31) = true ∧ inR i64 (b.k * 31 + 11) = true ∧ inR i64 (b.n + 1) = true ∧ Int.tmod (b.k * 31 + 11) 100003 = Int.tmod (b.k * 31
 + 11) 100003 ∧ b.n + 1 = b.n + 1 ∧ (∃ (m : Nat), b.n + 1 = (↑m : Int) ∧ m ≤ 256 ∧ 0 ≤ Int.tmod (b.k * 31 + 11) 100003 ∧ Int.tmod (b.k * 31 + 11) 100003 ≤ 100003) ∧ 256 - Int.toNat (b.n + 1) < 256 -
 Int.toNat b.n ∧ True) ∧ ((Int.tmod b.n 4 == 0) = false → inR i64 (b.k * 31) = true ∧ inR i64 (b.k * 31 + 11) = true ∧ inR i64 (b.n + 1) = true ∧ Int.tmod (b.k * 31 + 11) 100003 = Int.tmod (b.k * 31 +
 11) 100003 ∧ b.n + 1 = b.n + 1 ∧ (∃ (m : Nat), b.n + 1 = (↑m : Int) ∧ m ≤ 256 ∧ 0 ≤ Int.tmod (b.k * 31 + 11) 100003 ∧ Int.tmod (b.k * 31 + 11) 100003 ≤ 100003) ∧ 256 - Int.toNat (b.n + 1) < 256 -
 Int.toNat b.n ∧ True)) ∧ (ltb b.n 256 = false → true = true ∧ True)) := by kernel_rfl

end Go.Proofs.YtidpllnmghgomaaDoor.X
