/-
 Squares, outlines: the contracts.
-/
import Derived.Test.YtmnaghfndigfkaaDoorCJZ
set_option maxRecDepth 1000000
set_option linter.unusedVariables false
set_option linter.unusedSimpArgs false
namespace Go.Proofs.YtmnaghfndigfkaaDoor.X
open Go Go.Ab

theorem bx (b : Bool) : (bif b then b && true else true) = true := by cases b <;> rfl
theorem chkX {α : Type} {l : List Cl} (h : (chkI l != 0) = true) (a b : α) : cond (chkI l == 0) a b = b := by
 have : (chkI l == 0) = false := by simpa using h
 rw [this]; rfl
theorem chkY {α : Type} {l : List Cl} (h : chkI l = 0) (a b : α) : cond (chkI l == 0) a b = a := by rw [h]; rfl
/-! ### Outlines -/
end Go.Proofs.YtmnaghfndigfkaaDoor.X
