/-
 The contracts of the functions on cells and lists of cells.
-/
import Derived.Test.YtmnaghfndigfkaaDoorQOAZ
set_option maxRecDepth 1000000
set_option linter.unusedVariables false
set_option linter.unusedSimpArgs false
namespace Go.Proofs.YtmnaghfndigfkaaDoor.X
open Go Go.Ab

theorem eqCl_iff {a b : Cl} : eqCl a b = true ↔ a = b := by
 obtain ⟨x, y, q⟩ := a
 obtain ⟨x', y', q'⟩ := b
 unfold eqCl
 simp only [Bool.and_eq_true, beq_iff_eq, Prod.mk.injEq]
/-! ### Cells -/
/-! ### Lists -/
theorem caps2 {f : Nat} {a b v : AV} {bs : List Blk} (h : SpecP Tryd.prog G f [a, capsV b] v bs) : SpecP Tryd.prog G f [a, b] v bs := h.args fun w F xs h => by
 cases h with
 | cons _ _ _ _ h1 h2 =>
  cases h2 with
  | cons _ _ _ _ h3 h4 => exact .cons _ _ _ _ h1 (.cons _ _ _ _ h3.caps h4)
/-! ### Add, Of -/
end Go.Proofs.YtmnaghfndigfkaaDoor.X
