/-
 Connected, in plain terms: what is left and what waits.
-/
import Derived.Test.YtmnaghfndigfkaaDoorDNZ
import Derived.Test.YtmnaghfndigfkaaDoorCJZ
set_option maxRecDepth 1000000
set_option linter.unusedVariables false
set_option linter.unusedSimpArgs false
namespace Go.Proofs.YtmnaghfndigfkaaDoor.X
open Go Go.Ab

theorem flatK_cons (c : Cl) (r : List Cl) : flatK (c :: r) = .int .i64 c.1 :: .int .i64 c.2.1 :: .int .u8 c.2.2 :: flatK r := by
 unfold flatK; rw [List.flatMap_cons]; rfl
theorem flatK_take : ∀ (n : Nat) (l : List Cl), flatK (l.take n) = (flatK l).take (n * 3)
 | 0, l => by simp [flatK]
 | n + 1, [] => by simp [flatK]
 | n + 1, c :: r => by
  rw [List.take_succ_cons, flatK_cons, flatK_cons, flatK_take n r, Nat.add_mul]; rfl
theorem flatK_dropn : ∀ (n : Nat) (l : List Cl), flatK (l.drop n) = (flatK l).drop (n * 3)
 | 0, l => by simp
 | n + 1, [] => by simp [flatK]
 | n + 1, c :: r => by
  rw [List.drop_succ_cons, flatK_cons, flatK_dropn n r, Nat.add_mul]; rfl
theorem krow {l : List Cl} {n : Nat} (h : n < l.length) : (flatK l)[n * 3]? = some (.int .i64 (kX l n)) ∧ (flatK l)[n * 3 + 1]? = some (.int .i64 (kY l n)) ∧ (flatK l)[n * 3 + 1 + 1]? = some (.int .u8 (kQ l n)) := by
 have := kget h
 simp only [List.getElem?_drop] at this
 exact this
end Go.Proofs.YtmnaghfndigfkaaDoor.X
