/-
 Cones: what the laws compute (valid orders).
-/
import Derived.Test.YthiammkiobbclaaGreatDoorD11Z
import Derived.KernelRfl

set_option maxRecDepth 1000000
set_option linter.unusedVariables false
namespace Go.Proofs.YthiammkiobbclaaGreatDoor.X
open Go Go.Ab

def t6 : List (Nat × CtE) := [(10, e25), (25, e25c), (26, ec26), (27, ec27), (13, ec13), (28, e28c), (18, e24), (14, e14c), (11, e11)]
def T6 : Tab := tabL t6 noCh
end Go.Proofs.YthiammkiobbclaaGreatDoor.X

/-
 What is to be shown of the functions (made by a program).
-/
set_option maxRecDepth 1000000
set_option linter.unusedVariables false
namespace Go.Proofs.YthiammkiobbclaaGreatDoor.X
open Go Go.Ab
open List IntKind

theorem ob_o6 (c l : Int) (ks ys : List Int) : fnP (T6) G 10000 fe6 (.r [] 0 (.r [] 5 (.r [] 1 (.r [] 0 (.r [] 49 (.r [] 1 (.br (altS (ofA c l ks) (ofK c ks)) (.r [] 1 (.ff (.r [yL 579, yL 587, yL 594] 3872290 .nil))) (.r [] 1 (.tt (.r [yL 515, yL 520, yL 524] 950 .nil)))))))))) ([fV c l ks, .imm (.ints .u8 ys) ys.length none]) ([.bool true]) ([]) = (
 (fun (A K : List Int) => (fun (zz1 : List Int) => (fun (zz0 : Nat) => (length ks = length ks ∧ okK ks) ∧ length A = length A ∧ (length ys = length ys ∧ (∀ (y : Int), y ∈ ys → 0 ≤ y ∧ y <
 256) ∧ 0 ≤ (↑(length A) : Int) ∧ (↑(length A) : Int) < 1000000) ∧ length A = length A ∧ length K = length K ∧ (length A = length A ∧ length K = length K ∧ length A < 1000000) ∧ length A =
 length A ∧ length K = length K ∧ (length A = length A ∧ length K = length K ∧ length A < 1000000 ∧ length (oxL ys zz0) = length (oxL ys zz0) ∧ length (oxL ys zz0) < 1000000) ∧ (altS A K =
 true → length A = length A ∧ length K = length K ∧ (length A = length A ∧ length K = length K ∧ length A < 1000000) ∧ (!altS A K) = false ∧ (ofE A K == 0) = true ∧ length A = length A ∧
 length K = length K ∧ (length A = length A ∧ length K = length K ∧ okA A) ∧ len' zz0 (length (raysL A)) = true ∧ Cont.size (Cont.ints i64 (raysL A)) = length (raysL A) ∧ (length (bLs (altS A
 K) zz1) = length (bLs (altS A K) zz1) ∧ Int.toNat (↑(length A) : Int) = length (take zz0 (raysL A)) ∧ length (bLs (altS A K) zz1) = length (bLs (altS A K) zz1) ∧ length (bLs (altS A K) zz1)
 < 1000000000000) ∧ decide (bLs (altS A K) zz1 = take zz0 (raysL A)) = true ∧ length A = length A ∧ length K = length K ∧ (length A = length A ∧ length K = length K ∧ length (oxL ys zz0) =
 length (oxL ys zz0) ∧ okA A ∧ length A = length K ∧ List.Perm (oxL ys zz0) (map (fun (i : Nat) => (↑i : Int)) (range.loop (length A) []))) ∧ (vldE A K (oxL ys zz0) == chkE A K (oxL ys zz0))
 = true ∧ true = true ∧ True) ∧ (altS A K = false → length A = length A ∧ length K = length K ∧ (length A = length A ∧ length K = length K ∧ length A < 1000000) ∧ (!altS A K) = true ∧ (ofE A
 K == 14) = true ∧ ((↑(length (bLs (altS A K) zz1)) : Int) == 0) = true ∧ (vldE A K (oxL ys zz0) == 14) = true ∧ true = true ∧ True)) (Int.toNat (↑(length A) : Int))) (take (length A) (raysL
 A))) (ofA c l ks) (ofK c ks)) := by kernel_rfl

end Go.Proofs.YthiammkiobbclaaGreatDoor.X
