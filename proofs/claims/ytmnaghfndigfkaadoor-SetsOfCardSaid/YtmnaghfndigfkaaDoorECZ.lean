/-
 Of: its contract.
-/
import Derived.Test.YtmnaghfndigfkaaDoorOYbZ
import Derived.Test.YtmnaghfndigfkaaDoorEBZ
set_option maxRecDepth 1000000
set_option linter.unusedVariables false
set_option linter.unusedSimpArgs false
namespace Go.Proofs.YtmnaghfndigfkaaDoor.X
open Go Go.Ab

theorem ct162z : CtOk Tryd.prog G 162 e126z := by
 intro args r h hp
 unfold e126z at h
 split at h <;> cases h
 cases hp
 exact fnP_spec hcm hmx T0ok ok162 rfl ob_o162z ⟨rfl, trivial⟩
theorem TZ126ok : TabOk Tryd.prog G TZ126 := tabL_ok noCh_ok ⟨ct162z, trivial⟩
theorem ct126z : CtOk Tryd.prog G 126 e126z := by
 intro args r h hp
 unfold e126z at h
 split at h <;> cases h
 cases hp
 exact fnP_spec hcm hmx TZ126ok ok126 rfl ob_o126z (by simp [iI])
theorem ct167z : CtOk Tryd.prog G 167 e167z := by
 intro args r h hp
 unfold e167z at h
 split at h <;> cases h
 rename_i g
 obtain ⟨rfl, rfl, rfl, rfl⟩ := hp
 exact (fnP_spec hcm hmx T0ok ok167 rfl (ob_o167z g) trivial : SpecP Tryd.prog G 167 [.imm (.vals []) 0 none, _, _, _] _ []).caps
theorem TZ133ok : TabOk Tryd.prog G TZ133 := tabL_ok noCh_ok ⟨ct167z, trivial⟩
theorem ct133z : CtOk Tryd.prog G 133 e133z := by
 intro args r h hp
 unfold e133z at h
 split at h <;> cases h
 rename_i g
 obtain ⟨rfl, rfl, rfl, rfl, rfl⟩ := hp
 exact (fnP_spec hcm hmx TZ133ok ok133 rfl (ob_o133z g) (by simp [iI]) : SpecP Tryd.prog G 133 [.imm (.vals []) 0 none, _, _, _, _] _ []).caps
theorem TZ94ok : TabOk Tryd.prog G TZ94 := tabL_ok noCh_ok ⟨ct126z, ct133z, trivial⟩
theorem ct94z : CtOk Tryd.prog G 94 eSrtz := by
 intro args r h hp
 unfold eSrtz at h
 split at h <;> cases h
 rename_i g
 obtain ⟨rfl, rfl⟩ := hp
 exact (fnP_spec hcm hmx TZ94ok ok94 rfl (ob_o94z g) (by simp [iI]) : SpecP Tryd.prog G 94 [.imm (.vals []) 0 none, _] _ []).caps
theorem ct117z : CtOk Tryd.prog G 117 eCptz := by
 intro args r h hp
 unfold eCptz at h
 split at h <;> cases h
 obtain ⟨rfl, rfl⟩ := hp
 exact (fnP_spec hcm hmx T0ok ok117 rfl ob_o117z (by simp) : SpecP Tryd.prog G 117 [.imm (.vals []) 0 none] _ []).caps
theorem ct116z : CtOk Tryd.prog G 116 e116z := by
 intro args r h hp
 unfold e116z at h
 split at h <;> cases h
 obtain ⟨rfl, rfl⟩ := hp
 exact (fnP_spec hcm hmx T0ok ok116 rfl ob_o116z (by simp) : SpecP Tryd.prog G 116 [.imm (.vals []) 0 none] _ []).caps
theorem TZ59zok : TabOk Tryd.prog G TZ59z := tabL_ok noCh_ok ⟨ct115, ct116z, ct94z, ct117z, ct99, trivial⟩
theorem ch59ok (d : List Cl) : ChOk Tryd.prog G (ch59 d) := by
 intro h cv args r hr hp
 unfold ch59 at hr
 split at hr
 ·rw [cond_eq_ite] at hr
  split at hr
  ·rename_i hc
   simp only [Bool.and_eq_true] at hc
   cases Nat.eq_of_beq_eq_true hc.1
   cases Nat.eq_of_beq_eq_true hc.2.1
   cases Nat.eq_of_beq_eq_true hc.2.2
   cases hr
   obtain ⟨rfl, rfl, hz, hq⟩ := hp
   exact sp94 (by omega) hq
  ·cases hr
 ·rw [cond_eq_ite] at hr
  split at hr
  ·rename_i hc
   simp only [Bool.and_eq_true] at hc
   cases Nat.eq_of_beq_eq_true hc.1
   cases Nat.eq_of_beq_eq_true hc.2
   cases hr
   obtain ⟨rfl, rfl, hz⟩ := hp
   exact sp117 (srtQ d) hz
  ·cases hr
 ·cases hr
theorem TZ59ok (d : List Cl) : TabOk Tryd.prog G (TZ59 d) := tabL_ok (ch59ok d) ⟨ct115, ct116, ct99, trivial⟩
theorem ct59 : CtOk Tryd.prog G 59 e59 := by
 intro args r h hp
 unfold e59 at h
 split at h <;> cases h
 obtain ⟨⟨h1, h2, hz⟩, hq, h3⟩ := hp
 generalize unK _ = l at *
 subst h1 h2
 match l, hz, hq, h3 with
 | [], hz, hq, h3 => exact (fnP_spec hcm hmx TZ59zok ok59 rfl ob_o59z (by simp [iI, okL, flatK, unK]) : SpecP Tryd.prog G 59 [.imm (.vals []) 0 none] _ []).caps
 | a :: r, hz, hq, h3 =>
  generalize hl : a :: r = l at *
  have hp : 0 < l.length := by rw [← hl, List.length_cons]; omega
  clear hl
  refine (fnP_spec hcm hmx (TZ59ok l) ok59 rfl (ob_o59 l) ?_ : SpecP Tryd.prog G 59 [cls l] _ []).caps
  simp only [unK_flat, ltb_no, and_true, true_and, size_vals, flatK_len]
  have hle := cptL_len (srtQ l)
  rw [srtQ_len] at hle
  refine ⟨okL_flat hz, fun hb => ?_, fun hb => ?_⟩
  ·have e : ofX l = [] := by unfold ofX; rw [hb]; rfl
   rw [e, hb]; exact ⟨rfl, rfl, rfl, rfl⟩
  ·have e : ofX l = ofL l := by unfold ofX; rw [hb]; rfl
   have ec : cptL (srtQ l) = ofL l := cptQ_of hq
   have el : List.take ((cptL (srtQ l)).length * 3) (List.drop 0 (flatK (cpR (srtQ l)))) = flatK (ofL l) := by
    rw [List.drop_zero, ← flatK_take]
    unfold cpR
    rw [List.take_append_of_le_length (Nat.le_refl _), List.take_length, ec]
   rw [el, e, hb]
   rw [srtQ_len]
   rw [ec] at hle ⊢
   exact ⟨⟨okL_flat hz, hp⟩, ⟨hz, hq⟩, ⟨rfl, hz⟩, by omega, okL_flat (by omega), rfl, rfl, rfl, rfl⟩
end Go.Proofs.YtmnaghfndigfkaaDoor.X
