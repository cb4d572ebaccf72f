/-
 The contracts of union, common cells, difference; sets of plain data are valid.
-/
import Derived.Test.YtmnaghfndigfkaaDoorPZ
set_option maxRecDepth 1000000
set_option linter.unusedVariables false
set_option linter.unusedSimpArgs false
namespace Go.Proofs.YtmnaghfndigfkaaDoor.X
open Go Go.Ab

/-- An ascending list of at most n valid cells. -/
def okM (n : Nat) (l : List Cl) : Prop := Srt l ∧ (∀ x ∈ l, vldC x = true ∧ 0 ≤ x.2.2) ∧ l.length ≤ n
theorem badL_no : ∀ {l : List Cl}, (∀ x ∈ l, vldC x = true) → badL l = false
 | [], _ => rfl
 | c :: r, h => by
  simp only [badL]
  rw [h c (List.mem_cons_self ..)]
  exact badL_no fun x hx => h x (List.mem_cons_of_mem _ hx)
theorem okM_S {n : Nat} {l : List Cl} (h : okM n l) (hn : n ≤ 1024) : okS l := by
 obtain ⟨h1, h2, h3⟩ := h
 refine ⟨fun x hx => ⟨(h2 x hx).2, ?_⟩, ?_⟩
 ·have := (vldC_iff.1 (h2 x hx).1).2.2.2.2
  omega
 ·unfold chkI
  rw [decide_eq_false (by omega), badL_no (fun x hx => (h2 x hx).1), srtB_iff.2 h1]; rfl
theorem okM_sOf {l : List Cl} (h : rawP l) : okM 40 (sOf l) := by
 obtain ⟨i1, i2⟩ := ofL_srt (raw40 l)
 refine ⟨i1, fun x hx => ?_, ?_⟩
 ·have hx := (i2 x).1 hx
  obtain ⟨c, hc, rfl⟩ := List.mem_map.1 hx
  obtain ⟨g1, g2, g3, g4⟩ := h c (List.mem_of_mem_take hc)
  unfold i8P at g1 g2
  have e : c.2.2.tmod 4 = c.2.2 % 4 := Int.tmod_eq_emod_of_nonneg g3
  unfold cel
  rw [vldC_iff]
  simp only
  rw [e]
  omega
 ·have := ofL_len (raw40 l)
  have e : (raw40 l).length ≤ 40 := by unfold raw40; rw [List.length_map, List.length_take]; omega
  unfold sOf; omega
end Go.Proofs.YtmnaghfndigfkaaDoor.X
