/-
 Sets as ascending lists: members, merging.
-/
import Derived.Test.YtmnaghfndigfkaaDoorCDZ
set_option maxRecDepth 1000000
set_option linter.unusedVariables false
set_option linter.unusedSimpArgs false
namespace Go.Proofs.YtmnaghfndigfkaaDoor.X
open Go Go.Ab

theorem ltC_trans {a b c : Cl} (h : ltC a b = true) (g : ltC b c = true) : ltC a c = true := by
 rw [ltC_iff] at *; omega
theorem ltC_irr (a : Cl) : ltC a a = false := by rw [ltC_no]; omega
theorem ltC_tri {a b : Cl} (h : ltC a b = false) (g : ltC b a = false) : a = b := by
 rw [ltC_no] at h g
 obtain ⟨x, y, q⟩ := a
 obtain ⟨x', y', q'⟩ := b
 simp only at h g
 simp only [Prod.mk.injEq]
 omega
def Srt (l : List Cl) : Prop := l.Pairwise fun a b => ltC a b = true
theorem srt_cons {a : Cl} {l : List Cl} : Srt (a :: l) ↔ (∀ x ∈ l, ltC a x = true) ∧ Srt l := List.pairwise_cons
theorem srtB_iff : ∀ {l : List Cl}, srtB l = true ↔ Srt l
 | [] => by simp [srtB, Srt]
 | [a] => by simp [srtB, Srt]
 | a :: b :: r => by
  rw [srt_cons]
  simp only [srtB]
  cases h : ltC a b with
  | false => simp [h]
  | true =>
   rw [cond_true, srtB_iff (l := b :: r)]
   constructor
   ·intro g
    refine ⟨?_, g⟩
    intro x hx
    rcases List.mem_cons.1 hx with rfl | hx
    ·exact h
    ·exact ltC_trans h ((srt_cons.1 g).1 x hx)
   ·exact fun g => g.2
theorem srt_ext : ∀ {a b : List Cl}, Srt a → Srt b → (∀ x, x ∈ a ↔ x ∈ b) → a = b
 | [], [], _, _, _ => rfl
 | [], b :: s, _, _, h => absurd ((h b).2 (List.mem_cons_self ..)) (by simp)
 | a :: r, [], _, _, h => absurd ((h a).1 (List.mem_cons_self ..)) (by simp)
 | a :: r, b :: s, ha, hb, h => by
  obtain ⟨a1, a2⟩ := srt_cons.1 ha
  obtain ⟨b1, b2⟩ := srt_cons.1 hb
  have e : a = b := by
   rcases List.mem_cons.1 ((h a).1 (List.mem_cons_self ..)) with e | m
   ·exact e
   ·rcases List.mem_cons.1 ((h b).2 (List.mem_cons_self ..)) with e | m'
    ·exact e.symm
    ·have h1 := b1 a m
     have h2 := a1 b m'
     have := ltC_trans h1 h2
     rw [ltC_irr] at this
     cases this
  subst e
  have : r = s := srt_ext a2 b2 fun x => by
   have hx := h x
   simp only [List.mem_cons] at hx
   constructor
   ·intro m
    rcases hx.1 (.inr m) with rfl | m'
    ·have := a1 _ m
     rw [ltC_irr] at this; cases this
    ·exact m'
   ·intro m
    rcases hx.2 (.inr m) with rfl | m'
    ·have := b1 _ m
     rw [ltC_irr] at this; cases this
    ·exact m'
  rw [this]
/-! ### Add, Of -/
theorem insP_srt (c : Cl) : ∀ {l : List Cl}, Srt l → c ∉ l → anyG c l = true → Srt (insP c l) ∧ ∀ x, x ∈ insP c l ↔ x = c ∨ x ∈ l
 | [], _, _, h => by cases h
 | a :: r, hs, hc, h => by
  obtain ⟨s1, s2⟩ := srt_cons.1 hs
  simp only [insP]
  simp only [anyG] at h
  cases g : ltC c a with
  | true =>
   rw [cond_true]
   refine ⟨srt_cons.2 ⟨fun x hx => ?_, hs⟩, fun x => List.mem_cons⟩
   rcases List.mem_cons.1 hx with rfl | hx
   ·exact g
   ·exact ltC_trans g (s1 x hx)
  | false =>
   rw [g, cond_false] at h
   rw [cond_false]
   simp only [List.mem_cons, not_or] at hc
   obtain ⟨i1, i2⟩ := insP_srt c s2 hc.2 h
   refine ⟨srt_cons.2 ⟨fun x hx => ?_, i1⟩, fun x => ?_⟩
   ·rcases (i2 x).1 hx with rfl | hx
    ·cases k : ltC a x with
     | true => rfl
     | false => exact absurd (ltC_tri g k) hc.1
    ·exact s1 x hx
   ·rw [List.mem_cons, i2, List.mem_cons]
    constructor
    ·rintro (rfl | rfl | h)
     ·exact .inr (.inl rfl)
     ·exact .inl rfl
     ·exact .inr (.inr h)
    ·rintro (rfl | rfl | h)
     ·exact .inr (.inl rfl)
     ·exact .inl rfl
     ·exact .inr (.inr h)
theorem anyG_no {c : Cl} : ∀ {l : List Cl}, anyG c l = false → ∀ x ∈ l, ltC c x = false
 | [], _, x, hx => by simp at hx
 | a :: r, h, x, hx => by
  simp only [anyG] at h
  cases g : ltC c a with
  | true => rw [g] at h; cases h
  | false =>
   rw [g, cond_false] at h
   rcases List.mem_cons.1 hx with rfl | hx
   ·exact g
   ·exact anyG_no h x hx
theorem addL_srt {l : List Cl} (c : Cl) (hs : Srt l) : Srt (addL l c) ∧ ∀ x, x ∈ addL l c ↔ x ∈ l ∨ x = c := by
 unfold addL insL
 cases h : hasL l c with
 | true =>
  refine ⟨hs, fun x => ⟨.inl, ?_⟩⟩
  rintro (h' | rfl)
  ·exact h'
  ·exact hasL_iff.1 h
 | false =>
  have hc := hasL_no.1 h
  rw [cond_false]
  cases g : anyG c l with
  | true =>
   obtain ⟨i1, i2⟩ := insP_srt c hs hc g
   rw [cond_true]
   exact ⟨i1, fun x => by rw [i2]; exact Or.comm⟩
  | false =>
   rw [cond_false]
   refine ⟨List.pairwise_append.2 ⟨hs, by simp, fun x hx y hy => ?_⟩, fun x => by simp⟩
   rw [List.mem_singleton] at hy
   subst hy
   have k := anyG_no g x hx
   cases k' : ltC x y with
   | true => rfl
   | false => exact absurd (ltC_tri k k' ▸ hx) hc
theorem ofL_srt (l : List Cl) : Srt (ofL l) ∧ ∀ x, x ∈ ofL l ↔ x ∈ l := by
 suffices ∀ (l a : List Cl), Srt a → Srt (l.foldl addL a) ∧ ∀ x, x ∈ l.foldl addL a ↔ x ∈ a ∨ x ∈ l by
  have := this l [] (by simp [Srt])
  exact ⟨this.1, fun x => by simp [ofL, this.2 x]⟩
 intro l
 induction l with
 | nil => intro a ha; exact ⟨ha, fun x => by simp⟩
 | cons c l ih =>
  intro a ha
  obtain ⟨i1, i2⟩ := addL_srt c ha
  obtain ⟨j1, j2⟩ := ih _ i1
  refine ⟨j1, fun x => ?_⟩
  rw [List.foldl_cons, j2, i2, List.mem_cons, or_assoc]
/-! ### Merging -/
theorem mrg_mem (f : Nat) : ∀ (n : Nat) {a b : List Cl}, Srt a → Srt b → a.length + b.length ≤ n →
  Srt (mrgF f n a b) ∧ ∀ x, x ∈ mrgF f n a b ↔ (x ∈ a ∨ x ∈ b) ∧ kpF f (decide (x ∈ a)) (decide (x ∈ b)) = true
 | 0, a, b, ha, hb, h => by
  have e1 : a = [] := List.eq_nil_of_length_eq_zero (by omega)
  have e2 : b = [] := List.eq_nil_of_length_eq_zero (by omega)
  subst e1 e2
  exact ⟨by simp [mrgF, Srt], fun x => by simp [mrgF]⟩
 | n + 1, [], [], _, _, _ => ⟨by simp [mrgF, Srt], fun x => by simp [mrgF]⟩
 | n + 1, [], b :: s, ha, hb, h => by
  obtain ⟨b1, b2⟩ := srt_cons.1 hb
  obtain ⟨i1, i2⟩ := mrg_mem f n ha b2 (by simp at h ⊢; omega)
  have nb : b ∉ s := fun m => by have := b1 b m; rw [ltC_irr] at this; cases this
  simp only [mrgF]
  constructor
  ·cases kpF f false true with
   | false => exact i1
   | true =>
    refine srt_cons.2 ⟨fun x hx => ?_, i1⟩
    have := ((i2 x).1 hx).1
    simp at this
    exact b1 x this
  ·intro x
   rw [List.mem_append, i2]
   by_cases e : x = b
   ·subst e
    cases hk : kpF f false true <;> simp [addK, hk, nb]
   ·cases hk : kpF f false true <;> simp [addK, e]
 | n + 1, a :: r, [], ha, hb, h => by
  obtain ⟨b1, b2⟩ := srt_cons.1 ha
  obtain ⟨i1, i2⟩ := mrg_mem f n b2 hb (by simp at h ⊢; omega)
  have nb : a ∉ r := fun m => by have := b1 a m; rw [ltC_irr] at this; cases this
  simp only [mrgF]
  constructor
  ·cases kpF f true false with
   | false => exact i1
   | true =>
    refine srt_cons.2 ⟨fun x hx => ?_, i1⟩
    have := ((i2 x).1 hx).1
    simp at this
    exact b1 x this
  ·intro x
   rw [List.mem_append, i2]
   by_cases e : x = a
   ·subst e
    cases hk : kpF f true false <;> simp [addK, hk, nb]
   ·cases hk : kpF f true false <;> simp [addK, e]
 | n + 1, a :: r, b :: s, ha, hb, h => by
  obtain ⟨a1, a2⟩ := srt_cons.1 ha
  obtain ⟨b1, b2⟩ := srt_cons.1 hb
  have na : a ∉ r := fun m => by have := a1 a m; rw [ltC_irr] at this; cases this
  have nb : b ∉ s := fun m => by have := b1 b m; rw [ltC_irr] at this; cases this
  simp only [List.length_cons] at h
  simp only [mrgF]
  cases h1 : ltC a b with
  | true =>
   obtain ⟨i1, i2⟩ := mrg_mem f n a2 hb (by simp; omega)
   have nab : a ∉ b :: s := fun m => by
    rcases List.mem_cons.1 m with e | m
    ·rw [e, ltC_irr] at h1; cases h1
    ·have := ltC_trans h1 (b1 a m); rw [ltC_irr] at this; cases this
   rw [cond_true]
   constructor
   ·cases kpF f true false with
    | false => exact i1
    | true =>
     refine srt_cons.2 ⟨fun x hx => ?_, i1⟩
     rcases ((i2 x).1 hx).1 with m | m
     ·exact a1 x m
     ·rcases List.mem_cons.1 m with rfl | m
      ·exact h1
      ·exact ltC_trans h1 (b1 x m)
   ·intro x
    rw [List.mem_append, i2]
    by_cases e : x = a
    ·subst e
     cases hk : kpF f true false <;> simp [addK, hk, na, nab]
    ·cases hk : kpF f true false <;> simp [addK, e]
  | false =>
   rw [cond_false]
   cases h2 : ltC b a with
   | true =>
    obtain ⟨i1, i2⟩ := mrg_mem f n ha b2 (by simp; omega)
    have nba : b ∉ a :: r := fun m => by
     rcases List.mem_cons.1 m with e | m
     ·rw [e, ltC_irr] at h2; cases h2
     ·have := ltC_trans h2 (a1 b m); rw [ltC_irr] at this; cases this
    rw [cond_true]
    constructor
    ·cases kpF f false true with
     | false => exact i1
     | true =>
      refine srt_cons.2 ⟨fun x hx => ?_, i1⟩
      rcases ((i2 x).1 hx).1 with m | m
      ·rcases List.mem_cons.1 m with rfl | m
       ·exact h2
       ·exact ltC_trans h2 (a1 x m)
      ·exact b1 x m
    ·intro x
     rw [List.mem_append, i2]
     by_cases e : x = b
     ·subst e
      cases hk : kpF f false true <;> simp [addK, hk, nb, nba]
     ·cases hk : kpF f false true <;> simp [addK, e]
   | false =>
    have e0 := ltC_tri h1 h2
    subst e0
    obtain ⟨i1, i2⟩ := mrg_mem f n a2 b2 (by omega)
    rw [cond_false]
    constructor
    ·cases kpF f true true with
     | false => exact i1
     | true =>
      refine srt_cons.2 ⟨fun x hx => ?_, i1⟩
      rcases ((i2 x).1 hx).1 with m | m
      ·exact a1 x m
      ·exact b1 x m
    ·intro x
     rw [List.mem_append, i2]
     by_cases e : x = a
     ·subst e
      cases hk : kpF f true true <;> simp [addK, hk, na, nb]
     ·cases hk : kpF f true true <;> simp [addK, e]
theorem mrg_srt (f : Nat) {a b : List Cl} (ha : Srt a) (hb : Srt b) : Srt (mrg f a b) := (mrg_mem f _ ha hb (Nat.le_refl _)).1
theorem mem_un {a b : List Cl} (ha : Srt a) (hb : Srt b) {x : Cl} : x ∈ mrg 89 a b ↔ x ∈ a ∨ x ∈ b := by
 have := (mrg_mem 89 _ ha hb (Nat.le_refl _)).2 x
 rw [show mrgF 89 (a.length + b.length) a b = mrg 89 a b from rfl] at this
 simpa [kpF] using this
theorem mem_in {a b : List Cl} (ha : Srt a) (hb : Srt b) {x : Cl} : x ∈ mrg 90 a b ↔ x ∈ a ∧ x ∈ b := by
 have := (mrg_mem 90 _ ha hb (Nat.le_refl _)).2 x
 rw [show mrgF 90 (a.length + b.length) a b = mrg 90 a b from rfl] at this
 rw [this]
 simp [kpF]
 exact fun h _ => .inl h
theorem mem_mi {a b : List Cl} (ha : Srt a) (hb : Srt b) {x : Cl} : x ∈ mrg 91 a b ↔ x ∈ a ∧ x ∉ b := by
 have := (mrg_mem 91 _ ha hb (Nat.le_refl _)).2 x
 rw [show mrgF 91 (a.length + b.length) a b = mrg 91 a b from rfl] at this
 rw [this]
 simp [kpF]
 exact fun h _ => .inl h
end Go.Proofs.YtmnaghfndigfkaaDoor.X
