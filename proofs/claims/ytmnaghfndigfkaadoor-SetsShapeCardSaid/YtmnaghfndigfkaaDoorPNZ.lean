/-
 Connection by marking, in plain terms.
-/
import Derived.Test.YtmnaghfndigfkaaDoorDTZ
import Derived.Test.YtmnaghfndigfkaaDoorPCZ
set_option maxRecDepth 1000000
set_option linter.unusedVariables false
set_option linter.unusedSimpArgs false
namespace Go.Proofs.YtmnaghfndigfkaaDoor.X
open Go Go.Ab

theorem nb_sym {c : Cl} {e : Int} (h0 : 0 ≤ c.2.2) (h3 : c.2.2 ≤ 3) (e0 : 0 ≤ e) (e3 : e < 3) : nbC (nbC c e) e = c := by
 obtain ⟨x, y, q⟩ := c
 simp only at h0 h3
 have cq : q = 0 ∨ q = 1 ∨ q = 2 ∨ q = 3 := by omega
 have ce : e = 0 ∨ e = 1 ∨ e = 2 := by omega
 rcases cq with rfl | rfl | rfl | rfl <;> rcases ce with rfl | rfl | rfl <;> simp [nbC, nbD] <;> omega
theorem nd_le : ∀ {a b : List Cl}, a.Nodup → (∀ x ∈ a, x ∈ b) → a.length ≤ b.length
 | [], b, _, _ => Nat.zero_le _
 | x :: r, b, h, hs => by
  obtain ⟨n1, n2⟩ := List.nodup_cons.1 h
  have hx : x ∈ b := hs x (List.mem_cons_self ..)
  have ih := nd_le (a := r) (b := b.erase x) n2 fun y hy => by
   have hne : y ≠ x := fun e => n1 (e ▸ hy)
   exact (List.mem_erase_of_ne hne).2 (hs y (List.mem_cons_of_mem _ hy))
  have hl := List.length_erase_of_mem hx
  have := List.length_pos_of_mem hx
  simp only [List.length_cons]; omega
theorem nd_eq {a b : List Cl} (ha : a.Nodup) (hs : ∀ x ∈ a, x ∈ b) (hl : a.length = b.length) : ∀ x ∈ b, x ∈ a := by
 intro x hx
 by_cases h : x ∈ a
 ·exact h
 ·have := nd_le (a := x :: a) (b := b) (List.nodup_cons.2 ⟨h, ha⟩) fun y hy => by
   rcases List.mem_cons.1 hy with rfl | hy
   ·exact hx
   ·exact hs y hy
  simp only [List.length_cons] at this; omega
theorem inR_start {h : Cl} {t : List Cl} : invR (h :: t) [h] := by
 refine ⟨by simp, fun x hx => ?_, fun a b e => ?_, fun S hS _ x hx => ?_⟩
 ·rw [List.mem_singleton] at hx; subst hx; exact List.mem_cons_self ..
 ·cases e; exact List.mem_singleton_self _
 ·rw [List.mem_singleton] at hx; subst hx; exact hS _ _ rfl
theorem inR_add {l R : List Cl} {c : Cl} {e : Int} (h : invR l R) (hq : ∀ x ∈ l, 0 ≤ x.2.2 ∧ x.2.2 ≤ 3) (hc : c ∈ l) (hn : c ∉ R) (e0 : 0 ≤ e) (e3 : e < 3) (hm : nbC c e ∈ R) : invR l (R ++ [c]) := by
 obtain ⟨h1, h2, h3, h4⟩ := h
 refine ⟨?_, fun x hx => ?_, fun a b he => List.mem_append_left _ (h3 a b he), fun S hS hcl x hx => ?_⟩
 ·rw [List.nodup_append]
  refine ⟨h1, by simp, fun a ha b hb => ?_⟩
  rw [List.mem_singleton] at hb
  subst hb
  exact fun e => hn (e ▸ ha)
 ·rcases List.mem_append.1 hx with hx | hx
  ·exact h2 x hx
  ·rw [List.mem_singleton] at hx; subst hx; exact hc
 ·rcases List.mem_append.1 hx with hx | hx
  ·exact h4 S hS hcl x hx
  ·rw [List.mem_singleton] at hx
   subst hx
   have hs := nb_sym (hq x hc).1 (hq x hc).2 e0 e3
   have := hcl _ (h2 _ hm) (h4 S hS hcl _ hm) e e0 e3 (by rw [hs]; exact hc)
   rw [hs] at this
   exact this
theorem conB_of {l R : List Cl} (h : invR l R) (hq : ∀ x ∈ l, 0 ≤ x.2.2 ∧ x.2.2 ≤ 3) (hnd : l.Nodup) (hs : stbl l R l.length) : ((R.length : Int) == (l.length : Int)) = conB l := by
 obtain ⟨h1, h2, h3, h4⟩ := h
 have hst : ∀ x ∈ l, x ∉ R → ∀ e : Int, 0 ≤ e → e < 3 → nbC x e ∉ R := fun x hx hn => by
  obtain ⟨j, hj, rfl⟩ := List.getElem_of_mem hx
  exact hs j hj _ (List.getElem?_eq_getElem hj) hn
 unfold conB
 by_cases hc : conP l
 ·rw [@decide_eq_true _ (Classical.propDecidable _) hc]
  have hlR : ∀ x ∈ l, x ∈ R := hc (fun x => x ∈ R) h3 fun c hcl hcR e e0 e3 hn => by
   by_cases g : nbC c e ∈ R
   ·exact g
   ·have := hst _ hn g e e0 e3
    rw [nb_sym (hq c hcl).1 (hq c hcl).2 e0 e3] at this
    exact absurd hcR this
  have a := nd_le h1 h2
  have b := nd_le hnd hlR
  rw [beq_iff_eq]; omega
 ·rw [@decide_eq_false _ (Classical.propDecidable _) hc, beq_eq_false_iff_ne]
  intro he
  apply hc
  intro S hS hcl x hx
  exact h4 S hS hcl x (nd_eq h1 h2 (by omega) x hx)
end Go.Proofs.YtmnaghfndigfkaaDoor.X
