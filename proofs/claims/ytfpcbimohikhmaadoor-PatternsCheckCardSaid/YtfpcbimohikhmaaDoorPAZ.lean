/-
 The plain law of patterns: what set and look up do to valid patterns.
-/
import Derived.Test.YtfpcbimohikhmaaDoorPZ
set_option maxRecDepth 1000000
set_option linter.unusedVariables false
set_option linter.unusedSimpArgs false
namespace Go.Proofs.YtfpcbimohikhmaaDoor.X
open Go Go.Ab

/-! ### A unit, named from either side -/
def beqI (a b : Int) : Bool := a == b
def invOk (w h i e : Int) : Bool := ltb (nbI w h i e) 0 || (beqI (nbI w h (nbI w h i e) e) i && (!beqI (nbI w h i e) i && ltb (nbI w h i e) (4 * w * h)))
theorem inv_all : overS 5 invOk = true := by kernel_rfl
theorem inv_ok {w h i e : Int} (hs : s5 w h) (hb : hasB w h i = true) (he : 0 ≤ e ∧ e ≤ 2) (hn : 0 ≤ nbI w h i e) : nbI w h (nbI w h i e) e = i ∧ nbI w h i e ≠ i ∧ hasB w h (nbI w h i e) = true := by
 obtain ⟨s1, s2, s3, s4⟩ := id hs
 have h1 := overS_ok inv_all ⟨s1, s2⟩ ⟨s3, s4⟩ (hasB_iff.1 hb) he
 unfold invOk at h1
 simp only [Bool.or_eq_true, ltb_iff, Bool.and_eq_true, beqI, beq_iff_eq, Bool.not_eq_true', beq_eq_false_iff_ne, ne_eq] at h1
 rcases h1 with h1 | ⟨h1, h2, h3⟩
 ·omega
 ·exact ⟨h1, h2, hasB_iff.2 ⟨hn, h3⟩⟩
/-! ### Patterns of plain data -/
/-! ### The opposite -/
end Go.Proofs.YtfpcbimohikhmaaDoor.X
