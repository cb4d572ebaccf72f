/-
 Sorting and dropping doubles makes the set of a list.
-/
import Derived.Test.YtmnaghfndigfkaaDoorPZ
set_option maxRecDepth 1000000
set_option linter.unusedVariables false
set_option linter.unusedSimpArgs false
namespace Go.Proofs.YtmnaghfndigfkaaDoor.X
open Go Go.Ab

theorem swoC : Go.Sort.SWO (ltOf cmpC) where
 irrefl x := by simp only [ltOf, decide_eq_false_iff_not, cmpC_neg, ltC_irr]; decide
 trans x y z h1 h2 := by
  simp only [ltOf, decide_eq_true_eq, cmpC_neg] at *
  exact ltC_trans h1 h2
 ntrans x y z h1 h2 := by
  simp only [ltOf, decide_eq_false_iff_not, cmpC_neg, Bool.not_eq_true, ltC_no] at *
  omega
/-- A list without the cells that follow themselves. -/
def cptL : List Cl → List Cl
 | [] => []
 | [a] => [a]
 | a :: b :: r => cond (eqCl a b) (cptL (b :: r)) (a :: cptL (b :: r))
theorem cptL_mem : ∀ (l : List Cl) (x : Cl), x ∈ cptL l ↔ x ∈ l
 | [], x => Iff.rfl
 | [a], x => Iff.rfl
 | a :: b :: r, x => by
  simp only [cptL]
  cases h : eqCl a b with
  | true =>
   have := eqCl_iff.1 h
   subst this
   rw [cond_true, cptL_mem (a :: r) x]
   simp
  | false => rw [cond_false, List.mem_cons, cptL_mem (b :: r) x, List.mem_cons (a := x) (b := a)]
theorem cptL_srt : ∀ {l : List Cl}, l.Pairwise (fun x y => ¬ cmpC y x < 0) → Srt (cptL l)
 | [], _ => by simp [cptL, Srt]
 | [a], _ => by simp [cptL, Srt]
 | a :: b :: r, h => by
  obtain ⟨h1, h2⟩ := List.pairwise_cons.1 h
  have ih := cptL_srt h2
  simp only [cptL]
  cases e : eqCl a b with
  | true => exact ih
  | false =>
   rw [cond_false]
   refine srt_cons.2 ⟨fun x hx => ?_, ih⟩
   have hx := (cptL_mem (b :: r) x).1 hx
   have hab : ltC a b = true := by
    cases k : ltC a b with
    | true => rfl
    | false =>
     have g := h1 b (List.mem_cons_self ..)
     rw [cmpC_neg, Bool.not_eq_true] at g
     exact absurd (ltC_tri k g) (eqCl_no.1 e)
   rcases List.mem_cons.1 hx with rfl | hx
   ·exact hab
   ·have g := (List.pairwise_cons.1 h2).1 x hx
    rw [cmpC_neg, Bool.not_eq_true] at g
    cases k : ltC b x with
    | true => exact ltC_trans hab k
    | false => exact ltC_tri k g ▸ hab
end Go.Proofs.YtmnaghfndigfkaaDoor.X
