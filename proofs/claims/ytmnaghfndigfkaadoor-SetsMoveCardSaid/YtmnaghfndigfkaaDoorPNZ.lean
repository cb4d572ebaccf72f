/-
 Connection by marking, in plain terms.
-/
import Derived.Test.YtmnaghfndigfkaaDoorDTZ
import Derived.Test.YtmnaghfndigfkaaDoorPCZ
set_option maxRecDepth 1000000
set_option linter.unusedVariables false
set_option linter.unusedSimpArgs false
namespace Go.Proofs.YtmnaghfndigfkaaDoor.X
open Go Go.Ab

theorem nb_sym {c : Cl} {e : Int} (h0 : 0 ≤ c.2.2) (h3 : c.2.2 ≤ 3) (e0 : 0 ≤ e) (e3 : e < 3) : nbC (nbC c e) e = c := by
 obtain ⟨x, y, q⟩ := c
 simp only at h0 h3
 have cq : q = 0 ∨ q = 1 ∨ q = 2 ∨ q = 3 := by omega
 have ce : e = 0 ∨ e = 1 ∨ e = 2 := by omega
 rcases cq with rfl | rfl | rfl | rfl <;> rcases ce with rfl | rfl | rfl <;> simp [nbC, nbD] <;> omega
end Go.Proofs.YtmnaghfndigfkaaDoor.X
