/-
 Sets as ascending lists: members, merging.
-/
import Derived.Test.YtmnaghfndigfkaaDoorCDZ
set_option maxRecDepth 1000000
set_option linter.unusedVariables false
set_option linter.unusedSimpArgs false
namespace Go.Proofs.YtmnaghfndigfkaaDoor.X
open Go Go.Ab

theorem ltC_trans {a b c : Cl} (h : ltC a b = true) (g : ltC b c = true) : ltC a c = true := by
 rw [ltC_iff] at *; omega
theorem ltC_irr (a : Cl) : ltC a a = false := by rw [ltC_no]; omega
theorem ltC_tri {a b : Cl} (h : ltC a b = false) (g : ltC b a = false) : a = b := by
 rw [ltC_no] at h g
 obtain ⟨x, y, q⟩ := a
 obtain ⟨x', y', q'⟩ := b
 simp only at h g
 simp only [Prod.mk.injEq]
 omega
def Srt (l : List Cl) : Prop := l.Pairwise fun a b => ltC a b = true
theorem srt_cons {a : Cl} {l : List Cl} : Srt (a :: l) ↔ (∀ x ∈ l, ltC a x = true) ∧ Srt l := List.pairwise_cons
theorem srtB_iff : ∀ {l : List Cl}, srtB l = true ↔ Srt l
 | [] => by simp [srtB, Srt]
 | [a] => by simp [srtB, Srt]
 | a :: b :: r => by
  rw [srt_cons]
  simp only [srtB]
  cases h : ltC a b with
  | false => simp [h]
  | true =>
   rw [cond_true, srtB_iff (l := b :: r)]
   constructor
   ·intro g
    refine ⟨?_, g⟩
    intro x hx
    rcases List.mem_cons.1 hx with rfl | hx
    ·exact h
    ·exact ltC_trans h ((srt_cons.1 g).1 x hx)
   ·exact fun g => g.2
theorem srt_ext : ∀ {a b : List Cl}, Srt a → Srt b → (∀ x, x ∈ a ↔ x ∈ b) → a = b
 | [], [], _, _, _ => rfl
 | [], b :: s, _, _, h => absurd ((h b).2 (List.mem_cons_self ..)) (by simp)
 | a :: r, [], _, _, h => absurd ((h a).1 (List.mem_cons_self ..)) (by simp)
 | a :: r, b :: s, ha, hb, h => by
  obtain ⟨a1, a2⟩ := srt_cons.1 ha
  obtain ⟨b1, b2⟩ := srt_cons.1 hb
  have e : a = b := by
   rcases List.mem_cons.1 ((h a).1 (List.mem_cons_self ..)) with e | m
   ·exact e
   ·rcases List.mem_cons.1 ((h b).2 (List.mem_cons_self ..)) with e | m'
    ·exact e.symm
    ·have h1 := b1 a m
     have h2 := a1 b m'
     have := ltC_trans h1 h2
     rw [ltC_irr] at this
     cases this
  subst e
  have : r = s := srt_ext a2 b2 fun x => by
   have hx := h x
   simp only [List.mem_cons] at hx
   constructor
   ·intro m
    rcases hx.1 (.inr m) with rfl | m'
    ·have := a1 _ m
     rw [ltC_irr] at this; cases this
    ·exact m'
   ·intro m
    rcases hx.2 (.inr m) with rfl | m'
    ·have := b1 _ m
     rw [ltC_irr] at this; cases this
    ·exact m'
  rw [this]
/-! ### Add, Of -/
theorem insP_srt (c : Cl) : ∀ {l : List Cl}, Srt l → c ∉ l → anyG c l = true → Srt (insP c l) ∧ ∀ x, x ∈ insP c l ↔ x = c ∨ x ∈ l
 | [], _, _, h => by cases h
 | a :: r, hs, hc, h => by
  obtain ⟨s1, s2⟩ := srt_cons.1 hs
  simp only [insP]
  simp only [anyG] at h
  cases g : ltC c a with
  | true =>
   rw [cond_true]
   refine ⟨srt_cons.2 ⟨fun x hx => ?_, hs⟩, fun x => List.mem_cons⟩
   rcases List.mem_cons.1 hx with rfl | hx
   ·exact g
   ·exact ltC_trans g (s1 x hx)
  | false =>
   rw [g, cond_false] at h
   rw [cond_false]
   simp only [List.mem_cons, not_or] at hc
   obtain ⟨i1, i2⟩ := insP_srt c s2 hc.2 h
   refine ⟨srt_cons.2 ⟨fun x hx => ?_, i1⟩, fun x => ?_⟩
   ·rcases (i2 x).1 hx with rfl | hx
    ·cases k : ltC a x with
     | true => rfl
     | false => exact absurd (ltC_tri g k) hc.1
    ·exact s1 x hx
   ·rw [List.mem_cons, i2, List.mem_cons]
    constructor
    ·rintro (rfl | rfl | h)
     ·exact .inr (.inl rfl)
     ·exact .inl rfl
     ·exact .inr (.inr h)
    ·rintro (rfl | rfl | h)
     ·exact .inr (.inl rfl)
     ·exact .inl rfl
     ·exact .inr (.inr h)
theorem anyG_no {c : Cl} : ∀ {l : List Cl}, anyG c l = false → ∀ x ∈ l, ltC c x = false
 | [], _, x, hx => by simp at hx
 | a :: r, h, x, hx => by
  simp only [anyG] at h
  cases g : ltC c a with
  | true => rw [g] at h; cases h
  | false =>
   rw [g, cond_false] at h
   rcases List.mem_cons.1 hx with rfl | hx
   ·exact g
   ·exact anyG_no h x hx
theorem addL_srt {l : List Cl} (c : Cl) (hs : Srt l) : Srt (addL l c) ∧ ∀ x, x ∈ addL l c ↔ x ∈ l ∨ x = c := by
 unfold addL insL
 cases h : hasL l c with
 | true =>
  refine ⟨hs, fun x => ⟨.inl, ?_⟩⟩
  rintro (h' | rfl)
  ·exact h'
  ·exact hasL_iff.1 h
 | false =>
  have hc := hasL_no.1 h
  rw [cond_false]
  cases g : anyG c l with
  | true =>
   obtain ⟨i1, i2⟩ := insP_srt c hs hc g
   rw [cond_true]
   exact ⟨i1, fun x => by rw [i2]; exact Or.comm⟩
  | false =>
   rw [cond_false]
   refine ⟨List.pairwise_append.2 ⟨hs, by simp, fun x hx y hy => ?_⟩, fun x => by simp⟩
   rw [List.mem_singleton] at hy
   subst hy
   have k := anyG_no g x hx
   cases k' : ltC x y with
   | true => rfl
   | false => exact absurd (ltC_tri k k' ▸ hx) hc
theorem ofL_srt (l : List Cl) : Srt (ofL l) ∧ ∀ x, x ∈ ofL l ↔ x ∈ l := by
 suffices ∀ (l a : List Cl), Srt a → Srt (l.foldl addL a) ∧ ∀ x, x ∈ l.foldl addL a ↔ x ∈ a ∨ x ∈ l by
  have := this l [] (by simp [Srt])
  exact ⟨this.1, fun x => by simp [ofL, this.2 x]⟩
 intro l
 induction l with
 | nil => intro a ha; exact ⟨ha, fun x => by simp⟩
 | cons c l ih =>
  intro a ha
  obtain ⟨i1, i2⟩ := addL_srt c ha
  obtain ⟨j1, j2⟩ := ih _ i1
  refine ⟨j1, fun x => ?_⟩
  rw [List.foldl_cons, j2, i2, List.mem_cons, or_assoc]
/-! ### Merging -/
end Go.Proofs.YtmnaghfndigfkaaDoor.X
