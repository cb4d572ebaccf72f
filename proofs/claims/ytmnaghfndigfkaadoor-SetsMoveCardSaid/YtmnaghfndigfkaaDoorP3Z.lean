/-
 Sorting and dropping doubles makes the set of a list.
-/
import Derived.Test.YtmnaghfndigfkaaDoorPZ
set_option maxRecDepth 1000000
set_option linter.unusedVariables false
set_option linter.unusedSimpArgs false
namespace Go.Proofs.YtmnaghfndigfkaaDoor.X
open Go Go.Ab

theorem swoC : Go.Sort.SWO (ltOf cmpC) where
 irrefl x := by simp only [ltOf, decide_eq_false_iff_not, cmpC_neg, ltC_irr]; decide
 trans x y z h1 h2 := by
  simp only [ltOf, decide_eq_true_eq, cmpC_neg] at *
  exact ltC_trans h1 h2
 ntrans x y z h1 h2 := by
  simp only [ltOf, decide_eq_false_iff_not, cmpC_neg, Bool.not_eq_true, ltC_no] at *
  omega
end Go.Proofs.YtmnaghfndigfkaaDoor.X
