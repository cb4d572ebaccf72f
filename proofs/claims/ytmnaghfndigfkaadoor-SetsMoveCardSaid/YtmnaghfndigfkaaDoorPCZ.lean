/-
 Connected, in plain terms: what is left and what waits.
-/
import Derived.Test.YtmnaghfndigfkaaDoorDVZ
import Derived.Test.YtmnaghfndigfkaaDoorCJZ
set_option maxRecDepth 1000000
set_option linter.unusedVariables false
set_option linter.unusedSimpArgs false
namespace Go.Proofs.YtmnaghfndigfkaaDoor.X
open Go Go.Ab

theorem flatK_cons (c : Cl) (r : List Cl) : flatK (c :: r) = .int .i64 c.1 :: .int .i64 c.2.1 :: .int .u8 c.2.2 :: flatK r := by
 unfold flatK; rw [List.flatMap_cons]; rfl
theorem flatK_take : ∀ (n : Nat) (l : List Cl), flatK (l.take n) = (flatK l).take (n * 3)
 | 0, l => by simp [flatK]
 | n + 1, [] => by simp [flatK]
 | n + 1, c :: r => by
  rw [List.take_succ_cons, flatK_cons, flatK_cons, flatK_take n r, Nat.add_mul]; rfl
theorem flatK_dropn : ∀ (n : Nat) (l : List Cl), flatK (l.drop n) = (flatK l).drop (n * 3)
 | 0, l => by simp
 | n + 1, [] => by simp [flatK]
 | n + 1, c :: r => by
  rw [List.drop_succ_cons, flatK_cons, flatK_dropn n r, Nat.add_mul]; rfl
theorem krow {l : List Cl} {n : Nat} (h : n < l.length) : (flatK l)[n * 3]? = some (.int .i64 (kX l n)) ∧ (flatK l)[n * 3 + 1]? = some (.int .i64 (kY l n)) ∧ (flatK l)[n * 3 + 1 + 1]? = some (.int .u8 (kQ l n)) := by
 have := kget h
 simp only [List.getElem?_drop] at this
 exact this
theorem inv_start {h : Cl} {t : List Cl} (hn : (h :: t).Nodup) : invC (h :: t) ((h :: t).erase h) [h] := by
 rw [List.erase_cons_head]
 obtain ⟨n1, n2⟩ := List.nodup_cons.1 hn
 refine ⟨fun x hx => List.mem_cons_of_mem _ hx, fun h' t' e => ?_, fun x hx => ?_, fun x hx hL hW => ?_, fun S hS _ x hx hL => ?_⟩
 ·cases e; exact n1
 ·rw [List.mem_singleton] at hx
  subst hx
  exact ⟨List.mem_cons_self .., n1⟩
 ·rcases List.mem_cons.1 hx with rfl | hx
  ·exact absurd (List.mem_cons_self ..) hW
  ·exact absurd hx hL
 ·rcases List.mem_cons.1 hx with rfl | hx
  ·exact hS _ _ rfl
  ·exact absurd hx hL
theorem inv_pop {l L W : List Cl} {c : Cl} (h : invC l L (W ++ [c])) : invD l L W c 0 := by
 obtain ⟨h1, h2, h3, h4, h5⟩ := h
 refine ⟨h3 c (by simp), h1, h2, fun x hx => h3 x (by simp [hx]), fun x hx hL hW hc => ?_, fun e he hk => by omega, h5⟩
 exact h4 x hx hL (by simp [hW, hc])
theorem inv_skip {l L W : List Cl} {c : Cl} {k : Int} (h : invD l L W c k) (hn : nbC c k ∉ L) : invD l L W c (k + 1) := by
 obtain ⟨h0, h1, h2, h3, h4, h6, h5⟩ := h
 refine ⟨h0, h1, h2, h3, h4, fun e he hk => ?_, h5⟩
 by_cases e' : e = k
 ·subst e'; exact hn
 ·exact h6 e he (by omega)
theorem inv_push {l L W : List Cl} {c : Cl} {k : Int} (h : invD l L W c k) (k0 : 0 ≤ k) (k3 : k < 3) (hL : L.Nodup) (hn : nbC c k ∈ L) : invD l (L.erase (nbC c k)) (W ++ [nbC c k]) c (k + 1) := by
 obtain ⟨h0, h1, h2, h3, h4, h6, h5⟩ := h
 have me : ∀ x, x ∈ L.erase (nbC c k) → x ∈ L := fun x hx => List.mem_of_mem_erase hx
 have no : nbC c k ∉ L.erase (nbC c k) := fun hx => ((List.Nodup.mem_erase_iff hL).1 hx).1 rfl
 have ne : ∀ x, x ∉ L.erase (nbC c k) → x ≠ nbC c k → x ∉ L := fun x hx hne hm => hx ((List.Nodup.mem_erase_iff hL).2 ⟨hne, hm⟩)
 refine ⟨⟨h0.1, fun hx => h0.2 (me _ hx)⟩, fun x hx => h1 x (me _ hx), fun a t e hx => h2 a t e (me _ hx), fun x hx => ?_, fun x hx hl hw hc e e0 e3 hm => ?_, fun e e0 ek hm => ?_, fun S hS hc x hx hl => ?_⟩
 ·rcases List.mem_append.1 hx with hx | hx
  ·exact ⟨(h3 x hx).1, fun g => (h3 x hx).2 (me _ g)⟩
  ·rw [List.mem_singleton] at hx
   subst hx
   exact ⟨h1 _ hn, no⟩
 ·rw [List.mem_append, List.mem_singleton, not_or] at hw
  exact h4 x hx (ne x hl hw.2) hw.1 hc e e0 e3 (me _ hm)
 ·by_cases e' : e = k
  ·subst e'; exact no hm
  ·exact h6 e e0 (by omega) (me _ hm)
 ·by_cases e' : x = nbC c k
  ·subst e'
   exact hc c h0.1 (h5 S hS hc c h0.1 h0.2) k k0 k3 hx
  ·exact h5 S hS hc x hx (ne x hl e')
theorem inv_done {l L W : List Cl} {c : Cl} (h : invD l L W c 3) : invC l L W := by
 obtain ⟨h0, h1, h2, h3, h4, h6, h5⟩ := h
 refine ⟨h1, h2, h3, fun x hx hL hW => ?_, h5⟩
 by_cases e : x = c
 ·subst e; exact h6
 ·exact h4 x hx hL hW e
theorem inv_end {l L : List Cl} (h : invC l L []) : ((L.length : Int) == 0) = conB l := by
 obtain ⟨h1, h2, h3, h4, h5⟩ := h
 unfold conB
 by_cases hc : conP l
 ·rw [@decide_eq_true _ (Classical.propDecidable _) hc]
  have : L = [] := by
   cases L with
   | nil => rfl
   | cons x r =>
    have hx : x ∈ l := h1 x (List.mem_cons_self ..)
    exact absurd (List.mem_cons_self ..) (hc (fun y => y ∉ x :: r) h2 (fun c hc hS e e0 e3 _ => h4 c hc hS (by simp) e e0 e3) x hx)
  subst this; rfl
 ·rw [@decide_eq_false _ (Classical.propDecidable _) hc]
  cases L with
  | nil => exact absurd (fun S hS hcl x hx => h5 S hS hcl x hx (by simp)) hc
  | cons x r =>
   rw [beq_eq_false_iff_ne]
   simp only [List.length_cons]; omega
end Go.Proofs.YtmnaghfndigfkaaDoor.X
