/-
 The plain law of patterns: set, look up, the check, over lists of units and kinds.
-/
import Derived.Test.YtfpcbimohikhmaaDoorC8Z
set_option maxRecDepth 1000000
set_option linter.unusedVariables false
set_option linter.unusedSimpArgs false
namespace Go.Proofs.YtfpcbimohikhmaaDoor.X
open Go Go.Ab

/-- Ascending codes. -/
def asc (us : List Int) : Prop := us.Pairwise (fun x y => x < y)
theorem unL_asc (w h : Int) : ∀ n, asc (unL w h n)
 | 0 => .nil
 | n + 1 => by
  rw [unL_succ]
  unfold asc
  rw [List.pairwise_append]
  refine ⟨unL_asc w h n, ?_, fun x hx y hy => ?_⟩
  ·split
   ·exact List.pairwise_singleton ..
   ·exact .nil
  ·have := unL_mem hx
   split at hy
   ·rw [List.mem_singleton] at hy; omega
   ·simp at hy
theorem units_asc (w h : Int) : asc (units w h) := unL_asc w h _
theorem asc_tail {d : Int} {us : List Int} (h : asc (d :: us)) : asc us ∧ ∀ x ∈ us, d < x := ⟨(List.pairwise_cons.1 h).2, (List.pairwise_cons.1 h).1⟩
/-! ### Look up -/
/-! ### Set -/
/-! ### The check -/
theorem units_mem {w h c : Int} (hs : s5 w h) (hc : c ∈ units w h) : hasB w h (c / 3) = true ∧ c / 3 < nbI w h (c / 3) (c % 3) ∧ 0 ≤ c := by
 have h1 := unL_mem hc
 have := s5_len hs
 have h3 : ((3 * (4 * w * h).toNat : Nat) : Int) = 3 * (4 * w * h) := by omega
 refine ⟨hasB_iff.2 ⟨by omega, by omega⟩, ?_, h1.1⟩
 have h2 := h1.2.2
 unfold unB at h2
 exact ltb_iff.1 h2
theorem units_of {w h c : Int} (hs : s5 w h) (h0 : hasB w h (c / 3) = true) (h1 : c / 3 < nbI w h (c / 3) (c % 3)) : c ∈ units w h := by
 have := s5_len hs
 have hb := hasB_iff.1 h0
 unfold units unL
 rw [List.mem_filter, List.mem_map]
 refine ⟨⟨c.toNat, List.mem_range.2 (by omega), ?_⟩, ?_⟩
 ·show ((c.toNat : Nat) : Int) = c
  omega
 ·unfold unB; exact ltb_iff.2 h1
end Go.Proofs.YtfpcbimohikhmaaDoor.X
