/-
 The contracts of union, common cells, difference; sets of plain data are valid.
-/
import Derived.Test.YtmnaghfndigfkaaDoorPZ
set_option maxRecDepth 1000000
set_option linter.unusedVariables false
set_option linter.unusedSimpArgs false
namespace Go.Proofs.YtmnaghfndigfkaaDoor.X
open Go Go.Ab

theorem ct88 : CtOk Tryd.prog G 88 e88 := by
 intro args r h hp
 unfold e88 at h
 split at h
 case h_2 => cases h
 rename_i a n _ b m _ f
 rw [cond_eq_ite] at h
 split at h
 case isFalse => cases h
 rename_i hf
 cases h
 obtain ⟨⟨h1, h2, hz⟩, ⟨h3, h4, hy⟩, ka, kb, hm⟩ := hp
 generalize unK a = a at *
 generalize unK b = b at *
 subst h1 h2 h3 h4
 refine caps3 ?_
 simp only [Bool.or_eq_true] at hf
 rcases hf with e | e | e
 ·have e := Nat.eq_of_beq_eq_true e
  subst e
  exact sp88_89 a b ka kb hm
 ·have e := Nat.eq_of_beq_eq_true e
  subst e
  exact sp88_90 a b ka kb hm
 ·have e := Nat.eq_of_beq_eq_true e
  subst e
  exact sp88_91 a b ka kb hm
theorem TC8ok : TabOk Tryd.prog G TC8 := tabL_ok noCh_ok ⟨ct88, trivial⟩
theorem ct32 : CtOk Tryd.prog G 32 (eMg 89) := by
 intro args r h hp
 unfold eMg at h
 split at h <;> cases h
 rename_i a n _ b m _
 obtain ⟨⟨h1, h2, hz⟩, ⟨h3, h4, hy⟩, ka, kb, hm⟩ := hp
 generalize unK a = a at *
 generalize unK b = b at *
 subst h1 h2 h3 h4
 refine caps2 (SpecP.caps (fnP_spec hcm hmx TC8ok ok32 rfl (ob_o32 a b) ?_ : SpecP Tryd.prog G 32 [cls a, cls b] _ []))
 simp only [unK_flat, and_true]
 exact ⟨okL_flat hz, okL_flat hy, ka, kb, hm⟩
theorem ct33 : CtOk Tryd.prog G 33 (eMg 90) := by
 intro args r h hp
 unfold eMg at h
 split at h <;> cases h
 rename_i a n _ b m _
 obtain ⟨⟨h1, h2, hz⟩, ⟨h3, h4, hy⟩, ka, kb, hm⟩ := hp
 generalize unK a = a at *
 generalize unK b = b at *
 subst h1 h2 h3 h4
 refine caps2 (SpecP.caps (fnP_spec hcm hmx TC8ok ok33 rfl (ob_o33 a b) ?_ : SpecP Tryd.prog G 33 [cls a, cls b] _ []))
 simp only [unK_flat, and_true]
 exact ⟨okL_flat hz, okL_flat hy, ka, kb, hm⟩
theorem ct34 : CtOk Tryd.prog G 34 (eMg 91) := by
 intro args r h hp
 unfold eMg at h
 split at h <;> cases h
 rename_i a n _ b m _
 obtain ⟨⟨h1, h2, hz⟩, ⟨h3, h4, hy⟩, ka, kb, hm⟩ := hp
 generalize unK a = a at *
 generalize unK b = b at *
 subst h1 h2 h3 h4
 refine caps2 (SpecP.caps (fnP_spec hcm hmx TC8ok ok34 rfl (ob_o34 a b) ?_ : SpecP Tryd.prog G 34 [cls a, cls b] _ []))
 simp only [unK_flat, and_true]
 exact ⟨okL_flat hz, okL_flat hy, ka, kb, hm⟩
/-- An ascending list of at most n valid cells. -/
def okM (n : Nat) (l : List Cl) : Prop := Srt l ∧ (∀ x ∈ l, vldC x = true ∧ 0 ≤ x.2.2) ∧ l.length ≤ n
theorem badL_no : ∀ {l : List Cl}, (∀ x ∈ l, vldC x = true) → badL l = false
 | [], _ => rfl
 | c :: r, h => by
  simp only [badL]
  rw [h c (List.mem_cons_self ..)]
  exact badL_no fun x hx => h x (List.mem_cons_of_mem _ hx)
theorem okM_S {n : Nat} {l : List Cl} (h : okM n l) (hn : n ≤ 1024) : okS l := by
 obtain ⟨h1, h2, h3⟩ := h
 refine ⟨fun x hx => ⟨(h2 x hx).2, ?_⟩, ?_⟩
 ·have := (vldC_iff.1 (h2 x hx).1).2.2.2.2
  omega
 ·unfold chkI
  rw [decide_eq_false (by omega), badL_no (fun x hx => (h2 x hx).1), srtB_iff.2 h1]; rfl
theorem okM_mrg (f : Nat) {n m : Nat} {a b : List Cl} (ha : okM n a) (hb : okM m b) : okM (n + m) (mrg f a b) := by
 obtain ⟨a1, a2, a3⟩ := ha
 obtain ⟨b1, b2, b3⟩ := hb
 obtain ⟨i1, i2⟩ := mrg_mem f _ a1 b1 (Nat.le_refl _)
 refine ⟨i1, fun x hx => ?_, ?_⟩
 ·rcases ((i2 x).1 hx).1 with h | h
  ·exact a2 x h
  ·exact b2 x h
 ·have := mrg_len f (a.length + b.length) a b
  unfold mrg; omega
theorem okM_sOf {l : List Cl} (h : rawP l) : okM 40 (sOf l) := by
 obtain ⟨i1, i2⟩ := ofL_srt (raw40 l)
 refine ⟨i1, fun x hx => ?_, ?_⟩
 ·have hx := (i2 x).1 hx
  obtain ⟨c, hc, rfl⟩ := List.mem_map.1 hx
  obtain ⟨g1, g2, g3, g4⟩ := h c (List.mem_of_mem_take hc)
  unfold i8P at g1 g2
  have e : c.2.2.tmod 4 = c.2.2 % 4 := Int.tmod_eq_emod_of_nonneg g3
  unfold cel
  rw [vldC_iff]
  simp only
  rw [e]
  omega
 ·have := ofL_len (raw40 l)
  have e : (raw40 l).length ≤ 40 := by unfold raw40; rw [List.length_map, List.length_take]; omega
  unfold sOf; omega
end Go.Proofs.YtmnaghfndigfkaaDoor.X
