/-
 The contracts of union, common cells, difference; sets of plain data are valid.
-/
import Derived.Test.YtmnaghfndigfkaaDoorPZ
set_option maxRecDepth 1000000
set_option linter.unusedVariables false
set_option linter.unusedSimpArgs false
namespace Go.Proofs.YtmnaghfndigfkaaDoor.X
open Go Go.Ab

/-- An ascending list of at most n valid cells. -/
def okM (n : Nat) (l : List Cl) : Prop := Srt l ∧ (∀ x ∈ l, vldC x = true ∧ 0 ≤ x.2.2) ∧ l.length ≤ n
theorem badL_no : ∀ {l : List Cl}, (∀ x ∈ l, vldC x = true) → badL l = false
 | [], _ => rfl
 | c :: r, h => by
  simp only [badL]
  rw [h c (List.mem_cons_self ..)]
  exact badL_no fun x hx => h x (List.mem_cons_of_mem _ hx)
theorem okM_S {n : Nat} {l : List Cl} (h : okM n l) (hn : n ≤ 1024) : okS l := by
 obtain ⟨h1, h2, h3⟩ := h
 refine ⟨fun x hx => ⟨(h2 x hx).2, ?_⟩, ?_⟩
 ·have := (vldC_iff.1 (h2 x hx).1).2.2.2.2
  omega
 ·unfold chkI
  rw [decide_eq_false (by omega), badL_no (fun x hx => (h2 x hx).1), srtB_iff.2 h1]; rfl
end Go.Proofs.YtmnaghfndigfkaaDoor.X
