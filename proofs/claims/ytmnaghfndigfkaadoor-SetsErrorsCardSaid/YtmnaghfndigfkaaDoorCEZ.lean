/-
 The contracts of union, common cells, difference; sets of plain data are valid.
-/
import Derived.Test.YtmnaghfndigfkaaDoorPZ
set_option maxRecDepth 1000000
set_option linter.unusedVariables false
set_option linter.unusedSimpArgs false
namespace Go.Proofs.YtmnaghfndigfkaaDoor.X
open Go Go.Ab

theorem ct88 : CtOk Tryd.prog G 88 e88 := by
 intro args r h hp
 unfold e88 at h
 split at h
 case h_2 => cases h
 rename_i a n _ b m _ f
 rw [cond_eq_ite] at h
 split at h
 case isFalse => cases h
 rename_i hf
 cases h
 obtain ⟨⟨h1, h2, hz⟩, ⟨h3, h4, hy⟩, ka, kb, hm⟩ := hp
 generalize unK a = a at *
 generalize unK b = b at *
 subst h1 h2 h3 h4
 refine caps3 ?_
 simp only [Bool.or_eq_true] at hf
 rcases hf with e | e | e
 ·have e := Nat.eq_of_beq_eq_true e
  subst e
  exact sp88_89 a b ka kb hm
 ·have e := Nat.eq_of_beq_eq_true e
  subst e
  exact sp88_90 a b ka kb hm
 ·have e := Nat.eq_of_beq_eq_true e
  subst e
  exact sp88_91 a b ka kb hm
theorem TC8ok : TabOk Tryd.prog G TC8 := tabL_ok noCh_ok ⟨ct88, trivial⟩
theorem ct32 : CtOk Tryd.prog G 32 (eMg 89) := by
 intro args r h hp
 unfold eMg at h
 split at h <;> cases h
 rename_i a n _ b m _
 obtain ⟨⟨h1, h2, hz⟩, ⟨h3, h4, hy⟩, ka, kb, hm⟩ := hp
 generalize unK a = a at *
 generalize unK b = b at *
 subst h1 h2 h3 h4
 refine caps2 (SpecP.caps (fnP_spec hcm hmx TC8ok ok32 rfl (ob_o32 a b) ?_ : SpecP Tryd.prog G 32 [cls a, cls b] _ []))
 simp only [unK_flat, and_true]
 exact ⟨okL_flat hz, okL_flat hy, ka, kb, hm⟩
theorem ct33 : CtOk Tryd.prog G 33 (eMg 90) := by
 intro args r h hp
 unfold eMg at h
 split at h <;> cases h
 rename_i a n _ b m _
 obtain ⟨⟨h1, h2, hz⟩, ⟨h3, h4, hy⟩, ka, kb, hm⟩ := hp
 generalize unK a = a at *
 generalize unK b = b at *
 subst h1 h2 h3 h4
 refine caps2 (SpecP.caps (fnP_spec hcm hmx TC8ok ok33 rfl (ob_o33 a b) ?_ : SpecP Tryd.prog G 33 [cls a, cls b] _ []))
 simp only [unK_flat, and_true]
 exact ⟨okL_flat hz, okL_flat hy, ka, kb, hm⟩
theorem ct34 : CtOk Tryd.prog G 34 (eMg 91) := by
 intro args r h hp
 unfold eMg at h
 split at h <;> cases h
 rename_i a n _ b m _
 obtain ⟨⟨h1, h2, hz⟩, ⟨h3, h4, hy⟩, ka, kb, hm⟩ := hp
 generalize unK a = a at *
 generalize unK b = b at *
 subst h1 h2 h3 h4
 refine caps2 (SpecP.caps (fnP_spec hcm hmx TC8ok ok34 rfl (ob_o34 a b) ?_ : SpecP Tryd.prog G 34 [cls a, cls b] _ []))
 simp only [unK_flat, and_true]
 exact ⟨okL_flat hz, okL_flat hy, ka, kb, hm⟩
end Go.Proofs.YtmnaghfndigfkaaDoor.X
