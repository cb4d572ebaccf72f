/-
  The laws on meeting, and on lines through a point.
-/
import Derived.Test.YtpkmnabefnhcfaaDoorGC2Z
set_option maxRecDepth 1000000
set_option linter.unusedVariables false
set_option linter.unusedSimpArgs false
namespace Go.Proofs.YtpkmnabefnhcfaaDoor.X
open Go Go.Ab

theorem bn_lt {k j : Int} (h : decide (j < k) = true) : j < k := by simpa using h
theorem mt_law {k c j d : Int} (h : vl k c = true) (h2 : vl j d = true) (hne : k ≠ j) :
    mtE k c j d = 0 ∧ mtE j d k c = 0 ∧ mtRX j d k c = mtRX k c j d ∧ mtRY j d k c = mtRY k c j d ∧ sm (mtRX k c j d) ∧ sm (mtRY k c j d) ∧
    acr k (mtRX k c j d) (mtRY k c j d) = 2 * c ∧ acr j (mtRX k c j d) (mtRY k c j d) = 2 * d ∧ inR .i64 (mtRX k c j d + mtRY k c j d) = true ∧ (mtRX k c j d + mtRY k c j d).tmod 2 = 0 := by
  obtain ⟨e1, e2, e3⟩ := mt_ok (k := k) (c := c) (j := j) (d := d) (by simp [h, h2]) hne
  obtain ⟨s1, s2, s3⟩ := mt_sym k c j d
  obtain ⟨hk, hc⟩ := vl_k h
  obtain ⟨hj, hd⟩ := vl_k h2
  rw [s1, s2, s3, e1, e2, e3]
  refine ⟨rfl, rfl, rfl, rfl, ?_⟩
  have ht := td2 (mtX k c j d + mtY k c j d)
  simp only [inR_i64]
  have hc' := vl_c h
  have hd' := vl_c h2
  unfold sm at hc hd ⊢
  clear e1 e2 e3 s1 s2 s3 h h2
  rcases hk with rfl | rfl | rfl | rfl <;> rcases hj with rfl | rfl | rfl | rfl <;> first | omega | (simp [mtX, mtY, m2X, m2Y, acr, crA, crB] at ht ⊢; omega)
theorem law6 (k c j d : Int) : SpecP Tryd.prog G 6 [lnV k c, lnV j d] (.bool true) [] := by
  refine fnP_spec hcm hmx TDok ok6 rfl (ob_o6 k c j d) ?_
  simp only [bI10, Bool.not_eq_true', Bool.not_eq_false', Bool.and_eq_true, beq_iff_eq]
  refine ⟨fun h => ?_, fun h => ⟨fun h2 => ?_, fun h2 => ⟨fun h3 => ?_, fun h3 => ?_⟩⟩⟩
  · obtain ⟨e1, e2, e3⟩ := mt_bad (k := k) (c := c) (j := j) (d := d) (by simp [h])
    simp [e1, e2, e3]
  · obtain ⟨e1, e2, e3⟩ := mt_bad (k := k) (c := c) (j := j) (d := d) (by simp [h2])
    simp [e1, e2, e3]
  · obtain ⟨e1, e2, e3⟩ := mt_par (k := k) (c := c) (j := j) (d := d) (by simp [h, h2]) h3
    simp [e1, e2, e3]
  · have hne : k ≠ j := by simpa using h3
    obtain ⟨g1, g2, g3, g4, g5, g6, g7, g8, g9, g10⟩ := mt_law h h2 hne
    simp only [g1, g2, g3, g4, g5, g6, g7, g8, g9, g10, h, h2, Int.sub_self, and_self]
theorem many_bound (x y : Int) : ∀ n, 0 ≤ manyF x y n ∧ manyF x y n ≤ n
  | 0 => by simp [manyF]
  | n + 1 => by
    have := many_bound x y n
    simp only [manyF]
    split
    · omega
    · split <;> omega
theorem td2' (a : Int) : a.tmod 2 = 0 ∨ a.tmod 2 = 1 ∨ a.tmod 2 = -1 := by have := td2 a; omega
theorem cr_acr {k : Int} (x y : Int) (hk : k = 1 ∨ k = 2 ∨ k = 3 ∨ k = 4) : crA k * x + crB k * y = acr k x y ∧ (crA k * x = 0 ∨ crA k * x = x ∨ crA k * x = -x) ∧ (crB k * y = 0 ∨ crB k * y = y) := by
  rcases hk with rfl | rfl | rfl | rfl <;> simp [crA, crB, acr] <;> omega
theorem th_7 {k x y : Int} (hk : 1 ≤ k ∧ k ≤ 4) (hi : ins x y = true) : (thE k x y = 7 ↔ (acr k x y).tmod 2 ≠ 0) := by
  simp only [thE, decide_eq_true hk, hi, Bool.and_self, bI, cond_true]
  by_cases hm : (acr k x y).tmod 2 = 0
  · simp only [hm, beq_self_eq_true, cond_true]
    cases vl k ((acr k x y).tdiv 2) <;> simp
  · simp only [beq_eq_false_iff_ne.2 hm, cond_false]; simp [hm]
theorem many4 {x y : Int} (hi : ins x y = true) : manyF x y 5 = thrN x y := by
  have h1 := th_7 (k := 1) (by omega) hi
  have h2 := th_7 (k := 2) (by omega) hi
  have h3 := th_7 (k := 3) (by omega) hi
  have h4 := th_7 (k := 4) (by omega) hi
  simp only [acr] at h1 h2 h3 h4
  have hx := td2 x
  have hy := td2 y
  have hp := td2 (x + y)
  have hm := td2 (y - x)
  simp only [manyF, thrN]
  simp at h1 h2 h3 h4 ⊢
  simp only [h1, h2, h3, h4]
  clear h1 h2 h3 h4
  have e3 : (x + y).tmod 2 = 0 ↔ (x.tmod 2 = 0 ↔ y.tmod 2 = 0) := by omega
  have e4 : (y - x).tmod 2 = 0 ↔ (x.tmod 2 = 0 ↔ y.tmod 2 = 0) := by omega
  by_cases a : x.tmod 2 = 0 <;> by_cases b : y.tmod 2 = 0 <;> simp [a, b, e3, e4]
theorem want_ok {k x y : Int} (hk : 1 ≤ k ∧ k ≤ 4) (hi : ins x y = true) : thE k x y = wantE k x y := by
  have ht := td2 (acr k x y)
  simp only [thE, decide_eq_true hk, hi, Bool.and_self, bI, cond_true, wantE]
  by_cases hm : (acr k x y).tmod 2 = 0
  · simp only [hm, beq_self_eq_true, cond_true, if_true]
    by_cases h : acr k x y < -8192 ∨ 8192 < acr k x y
    · rw [if_pos h]
      have : vl k ((acr k x y).tdiv 2) = false := by rw [vl_no]; omega
      rw [this]; rfl
    · rw [if_neg h]
      have : vl k ((acr k x y).tdiv 2) = true := by rw [vl_iff]; omega
      rw [this]; rfl
  · simp only [beq_eq_false_iff_ne.2 hm, cond_false, if_neg hm]
theorem law7 (k x y : Int) : SpecP Tryd.prog G 7 [.int .u8 k, ptV x y] (.bool true) [] := by
  refine fnP_spec hcm hmx TDok ok7 rfl (ob_o7 k x y) ?_
  simp only [bI10, Bool.not_eq_true', Bool.not_eq_false', Bool.and_eq_true, beq_iff_eq, bne_iff_ne, ltb_iff, ltb_no, leb_iff, leb_no, inR_i64, inR_u8, iI, ne_eq, true_and, and_true, bne_eq_false_iff_eq, beq_eq_false_iff_ne, implies_true, and_self]
  have z : ∀ e : Int, thE k x y = e → e ≠ 0 → thK k x y = 0 ∧ thC k x y = 0 := fun e h he => by simp only [thK, thC, h, beq_eq_false_iff_ne.2 he, bI]; exact ⟨rfl, rfl⟩
  have bad : ¬ (1 ≤ k ∧ k ≤ 4) ∨ ins x y = false → thE k x y = 1 ∧ thK k x y = 0 ∧ thC k x y = 0 := fun h => by
    have he : thE k x y = 1 := by
      rcases h with h | h
      · simp only [thE, decide_eq_false h]; rfl
      · simp only [thE, h, Bool.and_false]; rfl
    exact ⟨he, z 1 he (by decide)⟩
  refine ⟨fun h => bad (.inl (by omega)), fun h1 => ⟨fun h => bad (.inl (by omega)), fun h2 => ⟨fun h => bad (.inr h), fun hi => ?_⟩⟩⟩
  have hk : 1 ≤ k ∧ k ≤ 4 := by omega
  obtain ⟨ha, hax, hay⟩ := cr_acr (k := k) x y (by omega)
  have hb := ac_bound (k := k) hi
  have hi' := ins_iff.1 hi
  obtain ⟨hsx, hsy⟩ := ins_sm hi
  have hwant := want_ok hk hi
  simp only [ha]
  refine ⟨by omega, by omega, by omega, ?_, ?_⟩
  · refine ⟨fun h => ?_, fun h => ⟨fun h3 => ?_, fun h3 => ?_⟩⟩
    · rw [decide_eq_true h]; rfl
    · rw [decide_eq_true h3, Bool.or_true]; rfl
    · rw [decide_eq_false (by omega), decide_eq_false (by omega)]; rfl
  rintro ⟨v⟩ rfl
  refine ⟨?_, ?_⟩
  · refine ⟨fun h => ?_, fun h => ?_⟩
    · simp [wantE, h]
    · have h0 : (acr k x y).tmod 2 = 0 := by simpa using h
      simp only [wantE, h0, if_true, bI]
      by_cases hw : acr k x y < -8192 ∨ 8192 < acr k x y
      · have : (decide (acr k x y < -8192) || decide (8192 < acr k x y)) = true := by simpa using hw
        rw [this, if_pos hw]; rfl
      · have : (decide (acr k x y < -8192) || decide (8192 < acr k x y)) = false := by simp; omega
        rw [this, if_neg hw]; rfl
  rintro ⟨w⟩ hw
  simp only at hw
  subst hw
  refine ⟨⟨fun h => absurd hwant h, fun _ => fun h => ?_⟩, ?_⟩
  · obtain ⟨z1, z2⟩ := z _ hwant h
    simp [z1, z2]
  rintro - -
  refine ⟨⟨1, by omega, by omega, by omega, by omega, by simp [manyF]⟩, ?_⟩
  rintro ⟨q, m⟩ ⟨n, rfl, h1, h5, h0, hm, rfl⟩
  have hmb := many_bound x y n
  simp only
  refine ⟨fun hl => ⟨fun h => ?_, fun h => ?_⟩, fun hl => ?_⟩
  · have e : manyF x y (n + 1) = manyF x y n + 1 := by simp only [manyF]; rw [if_neg (by omega), if_neg h]
    refine ⟨by omega, by omega, ⟨n + 1, by omega, by omega, by omega, by omega, by omega, e.symm⟩, by omega⟩
  · have e : manyF x y (n + 1) = manyF x y n := by simp only [manyF]; rw [if_neg (by omega), if_pos h]; omega
    refine ⟨by omega, ⟨n + 1, by omega, by omega, by omega, by omega, by omega, e.symm⟩, by omega⟩
  · have hn : n = 5 := by omega
    subst hn
    refine ⟨?_, ?_⟩
    · simp only [thrN]
      refine ⟨fun a => ⟨fun b => ?_, fun b => ⟨fun c => ?_, fun c => ?_⟩⟩, fun a => ⟨fun c => ⟨fun b => ?_, fun b => ?_⟩, fun c => ?_⟩⟩ <;> grind
    · rintro ⟨t⟩ rfl
      refine ⟨many4 hi, fun h => ?_⟩
      have e0 : thE k x y = 0 := by rw [hwant]; simpa using h
      have hm0 : (acr k x y).tmod 2 = 0 := by
        by_cases hmm : (acr k x y).tmod 2 = 0
        · exact hmm
        · rw [(th_7 hk hi).2 hmm] at e0; cases e0
      have hv : vl k ((acr k x y).tdiv 2) = true := by
        cases hv : vl k ((acr k x y).tdiv 2)
        · have ht := td2 (acr k x y)
          simp [thE, hk, hi, hm0, hv, bI] at e0
        · rfl
      have zK : thK k x y = k ∧ thC k x y = (acr k x y).tdiv 2 := by simp [thK, thC, e0, bI]
      have ht := td2 (acr k x y)
      rw [zK.1, zK.2]
      refine ⟨⟨hv, hsx, hsy⟩, ?_, ?_⟩
      · intro _; trivial
      · intro h; omega
end Go.Proofs.YtpkmnabefnhcfaaDoor.X
