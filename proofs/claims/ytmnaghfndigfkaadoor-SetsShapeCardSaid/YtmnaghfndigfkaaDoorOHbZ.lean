/-
 What is to be shown of the functions (made by a program).
-/
import Derived.Test.YtmnaghfndigfkaaDoorDHZ
import Derived.KernelRfl
set_option maxRecDepth 1000000
set_option linter.unusedVariables false
namespace Go.Proofs.YtmnaghfndigfkaaDoor.X
open Go Go.Ab

theorem ob_o96 (l : List Cl) : fnP (T0) G 10000 fe96 (.r [] 0 (.r [] 0 (.r [] 0 (.lp (l96 l) [] [] (fun b => (.r [] 0 (.cnd (.r [(321, .auto, Dr.val (kV l b.i))] 64 (.r [] 1 (.r [] 0 .nil))) (.r [] 0 .nil)))))))) ([cls l]) ([.mp 0]) ([mpB (memS l ([], 0)).1 (memS l ([], 0)).2]) = (
0 = 0 ∧ ([] : List (List Int × List Int × Nat)) = [] ∧ 0 = 0 ∧ Cont.vals (flatK l) = Cont.vals (flatK l) ∧ List.length l = List.length l ∧ (↑(List.length l) : Int) = (↑(List.length l) : Int) ∧ iI 0 =
0 ∧ (∃ (n : Nat), 0 = (↑n : Int) ∧ n ≤ List.length l ∧ memS (List.drop n l) ([], 0) = memS l ([], 0)) ∧ ∀ (b : L96), (∃ (n : Nat), b.i = (↑n : Int) ∧ n ≤ List.length l ∧ memS (List.drop n l) (b.es,
b.k) = memS l ([], 0)) → (ltb b.i (↑(List.length l) : Int) = true → leb 0 b.i = true ∧ ltb b.i (↑(List.length l) : Int) = true ∧ ltn 0 (Cont.size (Cont.vals (flatK l))) = true ∧ (List.drop (Int.toNat
b.i * 3) (flatK l))[0]? = some (AV.int IntKind.i64 (kX l b.i)) ∧ (List.drop (Int.toNat b.i * 3) (flatK l))[1]? = some (AV.int IntKind.i64 (kY l b.i)) ∧ (List.drop (Int.toNat b.i * 3) (flatK l))[2]? =
some (AV.int IntKind.u8 (kQ l b.i)) ∧ inR IntKind.i64 (b.i + 1) = true ∧ 0 = 0 ∧ mput b.es [kX l b.i, kY l b.i, kQ l b.i] [1] b.k = mput b.es [kX l b.i, kY l b.i, kQ l b.i] [1] b.k ∧ mck b.es [kX l
b.i, kY l b.i, kQ l b.i] b.k = mck b.es [kX l b.i, kY l b.i, kQ l b.i] b.k ∧ Cont.vals (flatK l) = Cont.vals (flatK l) ∧ List.length l = List.length l ∧ (↑(List.length l) : Int) = (↑(List.length l) :
Int) ∧ b.i + 1 = b.i + 1 ∧ (∃ (n : Nat), b.i + 1 = (↑n : Int) ∧ n ≤ List.length l ∧ memS (List.drop n l) (mput b.es [kX l b.i, kY l b.i, kQ l b.i] [1] b.k, mck b.es [kX l b.i, kY l b.i, kQ l b.i] b.k)
= memS l ([], 0)) ∧ List.length l - Int.toNat (b.i + 1) < List.length l - Int.toNat b.i ∧ True) ∧ (ltb b.i (↑(List.length l) : Int) = false → 0 = 0 ∧ b.es = (memS l ([], 0)).fst ∧ b.k = (memS l ([],
0)).snd ∧ True)) := by kernel_rfl

end Go.Proofs.YtmnaghfndigfkaaDoor.X
