/-
  The laws on sides and mirror images, in the new layer.
-/
import Derived.Test.YtpkmnabefnhcfaaDoorKO1Z
set_option maxRecDepth 1000000
set_option linter.unusedVariables false
set_option linter.unusedSimpArgs false
namespace Go.Proofs.YtpkmnabefnhcfaaDoor.X
open Go Go.Ab

theorem sp37 (x y : Int) (hx : sm x) (hy : sm y) : SpecP Tryd.prog G 37 [ptV x y] (.int .i64 x) [] := by
  refine fnP_spec hcm hmx TAok ok37 rfl (ob_o37 x y) ?_
  simp [acr, hx, hy]
theorem sp40 (x y : Int) (hx : sm x) (hy : sm y) : SpecP Tryd.prog G 40 [ptV x y] (.int .i64 y) [] := by
  refine fnP_spec hcm hmx TAok ok40 rfl (ob_o40 x y) ?_
  simp [acr, hx, hy]
theorem sp43 (x y : Int) (hx : sm x) (hy : sm y) : SpecP Tryd.prog G 43 [ptV x y] (.int .i64 (x + y)) [] := by
  refine fnP_spec hcm hmx TAok ok43 rfl (ob_o43 x y) ?_
  simp [acr, hx, hy]
theorem sp46 (x y : Int) (hx : sm x) (hy : sm y) : SpecP Tryd.prog G 46 [ptV x y] (.int .i64 (y - x)) [] := by
  refine fnP_spec hcm hmx TAok ok46 rfl (ob_o46 x y) ?_
  simp [acr, hx, hy]
theorem ct37 : CtOk Tryd.prog G 37 e37 := by
  intro args r h hp
  unfold e37 at h
  split at h <;> cases h
  obtain ⟨h0, h1⟩ := hp
  first | exact sp37 _ h0 h1 | exact sp37 _ _ h0 h1 | exact sp37 _ _ _ h0 h1 | exact sp37 _ _ _ _ h0 h1
theorem ct40 : CtOk Tryd.prog G 40 e40 := by
  intro args r h hp
  unfold e40 at h
  split at h <;> cases h
  obtain ⟨h0, h1⟩ := hp
  first | exact sp40 _ h0 h1 | exact sp40 _ _ h0 h1 | exact sp40 _ _ _ h0 h1 | exact sp40 _ _ _ _ h0 h1
theorem ct43 : CtOk Tryd.prog G 43 e43 := by
  intro args r h hp
  unfold e43 at h
  split at h <;> cases h
  obtain ⟨h0, h1⟩ := hp
  first | exact sp43 _ h0 h1 | exact sp43 _ _ h0 h1 | exact sp43 _ _ _ h0 h1 | exact sp43 _ _ _ _ h0 h1
theorem ct46 : CtOk Tryd.prog G 46 e46 := by
  intro args r h hp
  unfold e46 at h
  split at h <;> cases h
  obtain ⟨h0, h1⟩ := hp
  first | exact sp46 _ h0 h1 | exact sp46 _ _ h0 h1 | exact sp46 _ _ _ h0 h1 | exact sp46 _ _ _ _ h0 h1
theorem ct11t : CtOk Tryd.prog G 11 e11t := by
  intro args r h hp
  unfold e11t at h
  split at h <;> cases h
  rename_i k c
  have h := sp11 k c; rw [show vl k c = true from hp] at h; exact h
theorem ct11f : CtOk Tryd.prog G 11 e11f := by
  intro args r h hp
  unfold e11f at h
  split at h <;> cases h
  rename_i k c
  have h := sp11 k c; rw [show vl k c = false from hp] at h; exact h
theorem ct13t : CtOk Tryd.prog G 13 e13t := by
  intro args r h hp
  unfold e13t at h
  split at h <;> cases h
  rename_i k c
  have h := sp13 k c; rw [show vl k c = true from hp] at h; exact h
theorem ct13f : CtOk Tryd.prog G 13 e13f := by
  intro args r h hp
  unfold e13f at h
  split at h <;> cases h
  rename_i k c
  have h := sp13 k c; rw [show vl k c = false from hp] at h; exact h
theorem ct12t : CtOk Tryd.prog G 12 e12t := by
  intro args r h hp
  unfold e12t at h
  split at h <;> cases h
  rename_i x y
  have h := sp12 x y; rw [show ins x y = true from hp] at h; exact h
theorem ct12f : CtOk Tryd.prog G 12 e12f := by
  intro args r h hp
  unfold e12f at h
  split at h <;> cases h
  rename_i x y
  have h := sp12 x y; rw [show ins x y = false from hp] at h; exact h
theorem ct14t : CtOk Tryd.prog G 14 e14t := by
  intro args r h hp
  unfold e14t at h
  split at h <;> cases h
  rename_i x y
  have h := sp14 x y; rw [show ins x y = true from hp] at h; exact h
theorem ct14f : CtOk Tryd.prog G 14 e14f := by
  intro args r h hp
  unfold e14f at h
  split at h <;> cases h
  rename_i x y
  have h := sp14 x y; rw [show ins x y = false from hp] at h; exact h
theorem TK0ok : TabOk Tryd.prog G TK0 := tabL_ok noCh_ok ⟨ct37, ct40, ct43, ct46, ct11, ct12, ct13, ct14, ct20, ct26, ct30, ct31, ct32, ct38, ct41, ct44, ct47, trivial⟩
theorem sp15 (k c x y : Int) : SpecP Tryd.prog G 15 [lnV k c, ptV x y] (.int .i64 (sideI k c x y)) [] := by
  by_cases h : vl k c = true ∧ ins x y = true
  · obtain ⟨hv, hi⟩ := h
    obtain ⟨hk, hc⟩ := vl_k hv
    obtain ⟨hx, hy⟩ := ins_sm hi
    have hs : sideI k c x y = if acr k x y - 2 * c < 0 then -1 else if 0 < acr k x y - 2 * c then 1 else 0 := by simp [sideI, hv, hi]
    have hx' := hx; have hy' := hy; have hc' := hc
    unfold sm at hx' hy' hc'
    rcases hk with rfl | rfl | rfl | rfl
    · refine fnP_spec hcm hmx TK0ok ok15 rfl (ob_o15k1 c x y) ?_
      simp only [hs, hv, hi, hx, hy, bI_t, acr, ltb_iff, ltb_no, inR_i64, bne_self_eq_false, Bool.false_eq_true, false_implies, true_implies, true_and, and_true]
      grind
    · refine fnP_spec hcm hmx TK0ok ok15 rfl (ob_o15k2 c x y) ?_
      simp only [hs, hv, hi, hx, hy, bI_t, acr, ltb_iff, ltb_no, inR_i64, bne_self_eq_false, Bool.false_eq_true, false_implies, true_implies, true_and, and_true]
      grind
    · refine fnP_spec hcm hmx TK0ok ok15 rfl (ob_o15k3 c x y) ?_
      simp only [hs, hv, hi, hx, hy, bI_t, acr, ltb_iff, ltb_no, inR_i64, bne_self_eq_false, Bool.false_eq_true, false_implies, true_implies, true_and, and_true]
      grind
    · refine fnP_spec hcm hmx TK0ok ok15 rfl (ob_o15k4 c x y) ?_
      simp only [hs, hv, hi, hx, hy, bI_t, acr, ltb_iff, ltb_no, inR_i64, bne_self_eq_false, Bool.false_eq_true, false_implies, true_implies, true_and, and_true]
      grind
  · have hs : sideI k c x y = 0 := by
      unfold sideI; rw [if_neg]; simpa using h
    rw [hs]
    refine fnP_spec hcm hmx TK0ok ok15 rfl (ob_o15f k c x y) ?_
    cases hv : vl k c <;> cases hi : ins x y <;> simp_all [bI]
theorem ct15 : CtOk Tryd.prog G 15 e15 := by
  intro args r h hp
  unfold e15 at h
  split at h <;> cases h
  exact sp15 _ _ _ _
theorem ct15z : CtOk Tryd.prog G 15 e15z := by
  intro args r h hp
  unfold e15z at h
  split at h <;> cases h
  rename_i k c x y
  have h := sp15 k c x y
  have h' : sideI k c x y = 0 := by
    unfold sideI; rw [if_neg]; rw [show (vl k c && ins x y) = false from hp]; decide
  rw [h'] at h; exact h
theorem TKttok : TabOk Tryd.prog G TKtt := tabL_ok noCh_ok ⟨ct11t, ct13t, ct12t, ct14t, ct15, tlBok⟩
theorem TKtfok : TabOk Tryd.prog G TKtf := tabL_ok noCh_ok ⟨ct11t, ct13t, ct12f, ct14f, ct15z, tlBok⟩
theorem TKftok : TabOk Tryd.prog G TKft := tabL_ok noCh_ok ⟨ct11f, ct13f, ct12t, ct14t, ct15z, tlBok⟩
theorem TKffok : TabOk Tryd.prog G TKff := tabL_ok noCh_ok ⟨ct11f, ct13f, ct12f, ct14f, ct15z, tlBok⟩
theorem TRfok : TabOk Tryd.prog G TRf := tabL_ok noCh_ok ⟨ct11f, ct19, tlBok⟩
theorem TRtok : TabOk Tryd.prog G TRt := tabL_ok noCh_ok ⟨ct11t, ct19, tlBok⟩
theorem rf_far {k c x y : Int} (hk : k = 1 ∨ k = 2 ∨ k = 3 ∨ k = 4) : acr k (rfX k c x y) (rfY k c x y) - 2 * c = - (acr k x y - 2 * c) := by
  rcases hk with rfl | rfl | rfl | rfl <;> simp [acr, rfX, rfY] <;> omega
/-- Law 3. -/
theorem sp3 (k c x y : Int) : SpecP Tryd.prog G 3 [lnV k c, ptV x y] (.bool true) [] := by
  cases hv : vl k c <;> cases hi : ins x y
  · refine fnP_spec hcm hmx TKffok ok3 rfl (ob_o3ff k c x y) ?_
    simp [hv, hi]
  · refine fnP_spec hcm hmx TKftok ok3 rfl (ob_o3ft k c x y) ?_
    simp [hv, hi]
  · refine fnP_spec hcm hmx TKtfok ok3 rfl (ob_o3tf k c x y) ?_
    simp [hv, hi]
  · refine fnP_spec hcm hmx TKttok ok3 rfl (ob_o3tt k c x y) ?_
    obtain ⟨hk, hc⟩ := vl_k hv
    obtain ⟨hx, hy⟩ := ins_sm hi
    have hs : sideI k c x y = if acr k x y - 2 * c < 0 then -1 else if 0 < acr k x y - 2 * c then 1 else 0 := by simp [sideI, hv, hi]
    have hq : rfE k c x y = 0 → sideI k c (rfPX k c x y) (rfPY k c x y) = - sideI k c x y := by
      intro he
      have hj : ins (rfX k c x y) (rfY k c x y) = true := by
        simp only [rfE, hv, hi, bI] at he
        cases h : ins (rfX k c x y) (rfY k c x y) with
        | true => rfl
        | false => rw [h] at he; simp at he
      have e := rf_far (c := c) (x := x) (y := y) hk
      simp only [rfPX, rfPY, rfOk, hv, hi, hj, bI, sideI, Bool.and_self, cond_true, if_true]
      grind
    generalize sideI k c (rfPX k c x y) (rfPY k c x y) = s2 at *
    generalize sideI k c x y = s1 at *
    generalize rfE k c x y = e at *
    generalize acr k x y - 2 * c = a at *
    simp only [hv, hi, hx, hy, ltb_iff, ltb_no, beq_iff_eq, beq_eq_false_iff_ne, bne_iff_ne, bne_eq_false_iff_eq, true_and, and_true]
    grind
/-- Law 4. -/
theorem sp4 (k c x y : Int) : SpecP Tryd.prog G 4 [lnV k c, ptV x y] (.bool true) [] := by
  cases hv : vl k c
  · refine fnP_spec hcm hmx TRfok ok4 rfl (ob_o4f k c x y) ?_
    simp [hv, rfE, rfPX, rfPY, rfOk, bI]
  · refine fnP_spec hcm hmx TRtok ok4 rfl (ob_o4t k c x y) ?_
    obtain ⟨hk, hc⟩ := vl_k hv
    cases hi : ins x y
    · simp [hv, hi, rfE, rfPX, rfPY, rfOk, bI]
    · obtain ⟨hx, hy⟩ := ins_sm hi
      cases hj : ins (rfX k c x y) (rfY k c x y)
      · simp [hv, hi, hj, hx, hy, rfE, rfPX, rfPY, rfOk, bI]
      · obtain ⟨hqx, hqy⟩ := ins_sm hj
        have hx2 : rfX k c (rfX k c x y) (rfY k c x y) = x := by
          rcases hk with rfl | rfl | rfl | rfl <;> simp [rfX, rfY] <;> omega
        have hy2 : rfY k c (rfX k c x y) (rfY k c x y) = y := by
          rcases hk with rfl | rfl | rfl | rfl <;> simp [rfX, rfY] <;> omega
        have hf := rf_far (c := c) (x := x) (y := y) hk
        have h1 : rfE k c x y = 0 := by simp [rfE, hv, hi, hj, bI]
        have h2 : rfPX k c x y = rfX k c x y := by simp [rfPX, rfOk, hv, hi, hj, bI]
        have h3 : rfPY k c x y = rfY k c x y := by simp [rfPY, rfOk, hv, hi, hj, bI]
        have h4 : rfE k c (rfX k c x y) (rfY k c x y) = 0 := by simp [rfE, hv, hi, hj, hx2, hy2, bI]
        have h5 : rfPX k c (rfX k c x y) (rfY k c x y) = x := by simp [rfPX, rfOk, hv, hi, hj, hx2, hy2, bI]
        have h6 : rfPY k c (rfX k c x y) (rfY k c x y) = y := by simp [rfPY, rfOk, hv, hi, hj, hx2, hy2, bI]
        have hx' := hx; have hy' := hy; have hc' := hc; have hqx' := hqx; have hqy' := hqy
        unfold sm at hx' hy' hc' hqx' hqy'
        have hcr : crB k * (rfX k c x y - x) = crA k * (rfY k c x y - y) := by
          rcases hk with rfl | rfl | rfl | rfl <;> simp [crA, crB, rfX, rfY] <;> omega
        have hb : inR .i64 (crB k * (rfX k c x y - x)) = true := by
          rw [inR_i64]; rcases hk with rfl | rfl | rfl | rfl <;> simp only [crB] <;> simp <;> omega
        have hsx : inR .i64 (rfX k c x y - x) = true := by rw [inR_i64]; omega
        have hsy : inR .i64 (rfY k c x y - y) = true := by rw [inR_i64]; omega
        have ha : acr k x y - 2 * c ≥ -100000000000 ∧ acr k x y - 2 * c ≤ 100000000000 := by
          rcases hk with rfl | rfl | rfl | rfl <;> simp [acr] <;> omega
        have hn : inR .i64 (-(acr k x y - 2 * c)) = true := by rw [inR_i64]; omega
        simp only [h1, h2, h3, h4, h5, h6, hv, hi, hj, hx, hy, hqx, hqy, hf, hb, ← hcr, hsx, hsy, hn, bI_t, beq_self_eq_true, Bool.and_self, true_and, and_true, bne_self_eq_false]
        simp
        omega
theorem ct3 : CtOk Tryd.prog G 3 e3 := by
  intro args r h hp
  unfold e3 at h
  split at h <;> cases h
  first | exact sp3 | exact sp3 _ | exact sp3 _ _ | exact sp3 _ _ _ | exact sp3 _ _ _ _ | exact sp3 _ _ _ _ _
theorem ct4 : CtOk Tryd.prog G 4 e4 := by
  intro args r h hp
  unfold e4 at h
  split at h <;> cases h
  first | exact sp4 | exact sp4 _ | exact sp4 _ _ | exact sp4 _ _ _ | exact sp4 _ _ _ _ | exact sp4 _ _ _ _ _
end Go.Proofs.YtpkmnabefnhcfaaDoor.X
