/-
 The contracts of the check of sets.
-/
import Derived.Test.YtmnaghfndigfkaaDoorCAZ
import Derived.Test.YtmnaghfndigfkaaDoorOBZ
set_option maxRecDepth 1000000
set_option linter.unusedVariables false
set_option linter.unusedSimpArgs false
namespace Go.Proofs.YtmnaghfndigfkaaDoor.X
open Go Go.Ab

theorem TC1ok : TabOk Tryd.prog G TC1 := tabL_ok noCh_ok ⟨ct86, trivial⟩
theorem ct149 : CtOk Tryd.prog G 149 e149 := by
 intro args r h hp
 unfold e149 at h
 split at h <;> cases h
 rename_i x y q
 refine fnP_spec hcm hmx TC1ok ok149 rfl (ob_o149 _ _ _) ⟨?_, trivial⟩
 cases vldC (x, y, q) <;> rfl
theorem TC2ok : TabOk Tryd.prog G TC2 := tabL_ok noCh_ok ⟨ct149, trivial⟩
theorem ct183 : CtOk Tryd.prog G 183 e183 := by
 intro args r h hp
 unfold e183 at h
 split at h
 case h_2 => cases h
 rename_i a n _ f
 rw [cond_eq_ite] at h
 split at h
 case isFalse => cases h
 rename_i hf
 cases h
 have hf := Nat.eq_of_beq_eq_true hf
 subst hf
 obtain ⟨h1, h2, hz⟩ := hp
 generalize unK a = l at *
 subst h1 h2
 refine (fnP_spec hcm hmx TC2ok ok183 rfl (ob_o183 l) ?_ : SpecP Tryd.prog G 183 [cls l, _] _ []).caps
 simp only [ltb_iff, ltb_no, leb_iff, leb_no, len'_iff, ltn_iff, inR_i64, and_true, true_and, size_vals, iI, Bool.not_eq_true', Bool.not_eq_false']
 refine ⟨⟨0, by simp, by omega, rfl⟩, ?_⟩
 rintro ⟨i⟩ ⟨n, hi, hn, he⟩
 simp only at hi he ⊢
 subst hi
 simp only [Int.toNat_natCast]
 refine ⟨fun hlt => ?_, fun hge => ?_⟩
 ·have g1 : n < l.length := by omega
  obtain ⟨a0, a1, a2⟩ := kget g1
  rw [drop_at g1] at he
  simp only [idxW] at he
  refine ⟨by omega, by omega, by rw [flatK_len]; omega, a0, a1, a2, fun hq => ?_, fun hq => ⟨by omega, ⟨n + 1, by omega, by omega, ?_⟩, by omega⟩⟩
  ·rw [hq] at he; exact he
  ·rw [hq] at he
   have e : ((n : Int) + 1) = ((n + 1 : Nat) : Int) := by omega
   rw [← he, e]; rfl
 ·rw [List.drop_eq_nil_of_le (by omega)] at he
  exact he
theorem idxW_bad : ∀ (l : List Cl) (i : Int), 0 ≤ i → leb 0 (idxW l i) = badL l
 | [], i, h => rfl
 | c :: r, i, h => by
  simp only [idxW, badL]
  cases vldC c with
  | true => exact idxW_bad r (i + 1) (by omega)
  | false => exact leb_iff.2 h
theorem TC3ok : TabOk Tryd.prog G TC3 := tabL_ok noCh_ok ⟨ct183, trivial⟩
theorem ct148 : CtOk Tryd.prog G 148 e148 := by
 intro args r h hp
 unfold e148 at h
 split at h
 case h_2 => cases h
 rename_i a n _ f
 rw [cond_eq_ite] at h
 split at h
 case isFalse => cases h
 rename_i hf
 cases h
 have hf := Nat.eq_of_beq_eq_true hf
 subst hf
 obtain ⟨h1, h2, hz⟩ := hp
 generalize unK a = l at *
 subst h1 h2
 refine (fnP_spec hcm hmx TC3ok ok148 rfl (ob_o148 l) ⟨okL_flat hz, ?_, trivial⟩ : SpecP Tryd.prog G 148 [cls l, _] _ []).caps
 rw [unK_flat]; exact idxW_bad l 0 (by omega)
theorem TC4ok : TabOk Tryd.prog G TC4 := tabL_ok noCh_ok ⟨ct148, trivial⟩
theorem ct115 : CtOk Tryd.prog G 115 e115 := by
 intro args r h hp
 unfold e115 at h
 split at h <;> cases h
 obtain ⟨h1, h2, hz⟩ := hp
 generalize unK _ = l at *
 subst h1 h2
 refine (fnP_spec hcm hmx TC4ok ok115 rfl (ob_o115 l) ⟨okL_flat hz, by rw [unK_flat], trivial⟩ : SpecP Tryd.prog G 115 [cls l] _ []).caps
theorem cmpI_neg {a b : Int} : cmpI a b < 0 ↔ a < b := by unfold cmpI; split <;> (try split) <;> omega
theorem cmpI_eq {a b : Int} : cmpI a b = 0 ↔ a = b := by unfold cmpI; split <;> (try split) <;> omega
theorem cmpC_neg {a b : Cl} : cmpC a b < 0 ↔ ltC a b = true := by
 rw [ltC_iff]
 unfold cmpC ord3
 split
 ·rename_i h
  have : a.2.1 ≠ b.2.1 := fun e => h (cmpI_eq.2 e)
  rw [cmpI_neg]; omega
 ·rename_i h
  have h := cmpI_eq.1 (by omega : cmpI a.2.1 b.2.1 = 0)
  split
  ·rename_i h1
   have : a.1 ≠ b.1 := fun e => h1 (cmpI_eq.2 e)
   rw [cmpI_neg]; omega
  ·rename_i h1
   have h1 := cmpI_eq.1 (by omega : cmpI a.1 b.1 = 0)
   rw [cmpI_neg]; omega
theorem TC5ok : TabOk Tryd.prog G TC5 := tabL_ok noCh_ok ⟨ct115, ct79, trivial⟩
theorem okQ_at {l : List Cl} (h : okQ l) {n : Nat} (g : n < l.length) : 0 ≤ kQ l n ∧ kQ l n ≤ 255 := by
 have := h _ (List.getElem_mem g)
 rw [kAt g] at this
 exact this
theorem ct61 : CtOk Tryd.prog G 61 e61 := by
 intro args r h hp
 unfold e61 at h
 split at h <;> cases h
 obtain ⟨⟨h1, h2, hz⟩, hq0⟩ := hp
 generalize unK _ = l at *
 subst h1 h2
 refine (fnP_spec hcm hmx TC5ok ok61 rfl (ob_o61 l) ?_ : SpecP Tryd.prog G 61 [cls l] _ []).caps
 rw [unK_flat]
 simp only [ltb_iff, ltb_no, leb_iff, leb_no, len'_iff, ltn_iff, inR_i64, and_true, true_and, size_vals, iI]
 refine ⟨fun h => ?_, fun h0 => ⟨okL_flat hz, fun hb => ?_, fun hb => ⟨⟨0, by omega, by omega, rfl⟩, ?_⟩⟩⟩
 ·unfold chkI; rw [decide_eq_true (by omega)]; rfl
 ·unfold chkI; rw [decide_eq_false (by omega), hb]; rfl
 have hc : chkI l = bI (srtB l) 0 6 := by unfold chkI; rw [decide_eq_false (by omega), hb]; rfl
 rintro ⟨i⟩ ⟨n, hi, hn, he⟩
 simp only at hi he ⊢
 subst hi
 rw [show (((n + 1 : Nat) : Int) - 1) = (n : Int) by omega]
 simp only [Int.toNat_natCast]
 refine ⟨fun hlt => ?_, fun hge => ?_⟩
 ·have g1 : n < l.length := by omega
  have g2 : n + 1 < l.length := by omega
  obtain ⟨a0, a1, a2⟩ := kget g1
  obtain ⟨b0, b1, b2⟩ := kget g2
  obtain ⟨p1, p2⟩ := okQ_at hq0 g1
  obtain ⟨p3, p4⟩ := okQ_at hq0 g2
  rw [drop_at g1, drop_at g2] at he
  simp only [srtB] at he
  rw [← drop_at g2] at he
  refine ⟨by omega, by omega, by omega, by rw [flatK_len]; omega, a0, a1, a2, by omega, by omega, by rw [flatK_len]; omega, b0, b1, b2, ⟨p1, p2, p3, p4⟩, fun hq => ?_, fun hq => ⟨by omega, ⟨n + 1, by omega, by omega, ?_⟩, by omega⟩⟩
  ·have : ltC (kX l n, kY l n, kQ l n) (kX l ((n + 1 : Nat) : Int), kY l ((n + 1 : Nat) : Int), kQ l ((n + 1 : Nat) : Int)) = false := by
    cases hh : ltC (kX l n, kY l n, kQ l n) (kX l ((n + 1 : Nat) : Int), kY l ((n + 1 : Nat) : Int), kQ l ((n + 1 : Nat) : Int)) with
    | true => have := cmpC_neg.2 hh; omega
    | false => rfl
   rw [this] at he
   rw [hc, ← he]; rfl
  ·rw [cmpC_neg.1 (by omega)] at he
   exact he
 ·have : srtB (l.drop n) = true := by
   rcases Nat.lt_or_ge n l.length with g | g
   ·rw [drop_at g, List.drop_eq_nil_of_le (by omega)]; rfl
   ·rw [List.drop_eq_nil_of_le (by omega)]; rfl
  rw [this] at he
  rw [hc, ← he]; rfl
end Go.Proofs.YtmnaghfndigfkaaDoor.X
