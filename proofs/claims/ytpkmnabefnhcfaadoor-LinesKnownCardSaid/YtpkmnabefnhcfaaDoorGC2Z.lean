/-
  The contracts of Reflect's and Image's references, Meet, Through; the laws on meeting, and on lines through a point.
-/
import Derived.Test.YtpkmnabefnhcfaaDoorGO2Z
import Derived.Test.YtpkmnabefnhcfaaDoorGC1Z
import Derived.Test.YtpkmnabefnhcfaaDoorGLZ
set_option maxRecDepth 1000000
set_option linter.unusedVariables false
set_option linter.unusedSimpArgs false
namespace Go.Proofs.YtpkmnabefnhcfaaDoor.X
open Go Go.Ab

theorem ct16 : CtOk Tryd.prog G 16 e16 := by
  intro args r h hp
  unfold e16 at h
  split at h <;> cases h
  first | exact sp16 | exact sp16 _ | exact sp16 _ _ | exact sp16 _ _ _ | exact sp16 _ _ _ _ | exact sp16 _ _ _ _ _
theorem sp39 (c j d : Int) (hc : sm c) (hd : sm d) (h1 : 1 ≤ j) (h4 : j ≤ 4) : SpecP Tryd.prog G 39 [.int .i64 c, lnV j d] (lnV (imK 1 c j d) (imC 1 c j d)) [] := by
  unfold sm at hc hd
  have hj : j = 1 ∨ j = 2 ∨ j = 3 ∨ j = 4 := by omega
  rcases hj with rfl | rfl | rfl | rfl
  · refine fnP_spec hcm hmx T0ok ok39 rfl (ob_o39j1 c d) ?_; simp [imK, imC]; omega
  · refine fnP_spec hcm hmx T0ok ok39 rfl (ob_o39j2 c d) ?_; simp [imK, imC]; omega
  · refine fnP_spec hcm hmx T0ok ok39 rfl (ob_o39j3 c d) ?_; simp [imK, imC]; omega
  · refine fnP_spec hcm hmx T0ok ok39 rfl (ob_o39j4 c d) ?_; simp [imK, imC]; omega
theorem sp42 (c j d : Int) (hc : sm c) (hd : sm d) (h1 : 1 ≤ j) (h4 : j ≤ 4) : SpecP Tryd.prog G 42 [.int .i64 c, lnV j d] (lnV (imK 2 c j d) (imC 2 c j d)) [] := by
  unfold sm at hc hd
  have hj : j = 1 ∨ j = 2 ∨ j = 3 ∨ j = 4 := by omega
  rcases hj with rfl | rfl | rfl | rfl
  · refine fnP_spec hcm hmx T0ok ok42 rfl (ob_o42j1 c d) ?_; simp [imK, imC]; omega
  · refine fnP_spec hcm hmx T0ok ok42 rfl (ob_o42j2 c d) ?_; simp [imK, imC]; omega
  · refine fnP_spec hcm hmx T0ok ok42 rfl (ob_o42j3 c d) ?_; simp [imK, imC]; omega
  · refine fnP_spec hcm hmx T0ok ok42 rfl (ob_o42j4 c d) ?_; simp [imK, imC]; omega
theorem sp45 (c j d : Int) (hc : sm c) (hd : sm d) (h1 : 1 ≤ j) (h4 : j ≤ 4) : SpecP Tryd.prog G 45 [.int .i64 c, lnV j d, .iptr (.ints .u8 twins)] (lnV (imK 3 c j d) (imC 3 c j d)) [] := by
  unfold sm at hc hd
  have hj : j = 1 ∨ j = 2 ∨ j = 3 ∨ j = 4 := by omega
  rcases hj with rfl | rfl | rfl | rfl
  · refine fnP_spec hcm hmx T0ok ok45 rfl (ob_o45j1 c d) ?_; simp [imK, imC]; omega
  · refine fnP_spec hcm hmx T0ok ok45 rfl (ob_o45j2 c d) ?_; simp [imK, imC]; omega
  · refine fnP_spec hcm hmx T0ok ok45 rfl (ob_o45j3 c d) ?_; simp [imK, imC]; omega
  · refine fnP_spec hcm hmx T0ok ok45 rfl (ob_o45j4 c d) ?_; simp [imK, imC]; omega
theorem sp48 (c j d : Int) (hc : sm c) (hd : sm d) (h1 : 1 ≤ j) (h4 : j ≤ 4) : SpecP Tryd.prog G 48 [.int .i64 c, lnV j d, .iptr (.ints .u8 twins)] (lnV (imK 4 c j d) (imC 4 c j d)) [] := by
  unfold sm at hc hd
  have hj : j = 1 ∨ j = 2 ∨ j = 3 ∨ j = 4 := by omega
  rcases hj with rfl | rfl | rfl | rfl
  · refine fnP_spec hcm hmx T0ok ok48 rfl (ob_o48j1 c d) ?_; simp [imK, imC]; omega
  · refine fnP_spec hcm hmx T0ok ok48 rfl (ob_o48j2 c d) ?_; simp [imK, imC]; omega
  · refine fnP_spec hcm hmx T0ok ok48 rfl (ob_o48j3 c d) ?_; simp [imK, imC]; omega
  · refine fnP_spec hcm hmx T0ok ok48 rfl (ob_o48j4 c d) ?_; simp [imK, imC]; omega
theorem ctIm {f : Nat} {k : Int} (h : ∀ c j d : Int, sm c → sm d → 1 ≤ j → j ≤ 4 → SpecP Tryd.prog G f [.int .i64 c, lnV j d] (lnV (imK k c j d) (imC k c j d)) []) : CtOk Tryd.prog G f (eIm k) := by
  intro args r h' hp
  unfold eIm at h'
  split at h' <;> cases h'
  obtain ⟨h1, h2, h3, h4⟩ := hp
  exact h _ _ _ h1 h2 h3 h4
theorem ctImP {f : Nat} {k : Int} (h : ∀ c j d : Int, sm c → sm d → 1 ≤ j → j ≤ 4 → SpecP Tryd.prog G f [.int .i64 c, lnV j d, .iptr (.ints .u8 twins)] (lnV (imK k c j d) (imC k c j d)) []) : CtOk Tryd.prog G f (eImP k) := by
  intro args r h' hp
  unfold eImP at h'
  split at h'
  · rename_i t
    rw [cond_eq_ite] at h'
    split at h'
    · rename_i ht
      cases h'
      obtain ⟨h1, h2, h3, h4⟩ := hp
      rw [eqC_ok ht]
      exact h _ _ _ h1 h2 h3 h4
    · cases h'
  · cases h'
theorem ct25 : CtOk Tryd.prog G 25 e25 := by
  intro args r h hp
  unfold e25 at h
  split at h <;> cases h
  exact sp25 _ _ hp
theorem tlAok : CtsOk Tryd.prog G tlA := ⟨ct11, ct12, ct13, ct14, ct20, ct26, ct30, ct31, ct32, ct38, ct41, ct44, ct47, trivial⟩
theorem tlBok : CtsOk Tryd.prog G tlB := ⟨ct17, ct18, ct22, ct25, ct16, ctIm sp39, ctIm sp42, ctImP sp45, ctImP sp48, tlAok⟩
theorem TBok' : TabOk Tryd.prog G TB' := tabL_ok noCh_ok tlBok
theorem sp19 (k c x y : Int) (hv : vl k c = true) (hx : sm x) (hy : sm y) : SpecP Tryd.prog G 19 [lnV k c, ptV x y] (ptV (rfX k c x y) (rfY k c x y)) [] := by
  refine fnP_spec hcm hmx TBok' ok19 rfl (ob_o19 k c x y) ?_
  obtain ⟨hk, hc⟩ := vl_k hv
  simp only [hv, hx, hy, true_and]
  unfold sm at hc hx hy
  rcases hk with rfl | rfl | rfl | rfl <;> simp [acr, crA, crB, rfX, rfY] <;> omega
theorem sp21 (k c j d : Int) : SpecP Tryd.prog G 21 [lnV k c, lnV j d] (.tup [lnV (imRK k c j d) (imRC k c j d), .int .i64 (imE k c j d)]) [] := by
  by_cases hv : vl k c = true ∧ vl j d = true
  · obtain ⟨hv, hw⟩ := hv
    obtain ⟨hk, hc⟩ := vl_k hv
    have hd := (vl_k hw).2
    have hj : 1 ≤ j ∧ j ≤ 4 := by rw [vl_iff] at hw; omega
    rcases hk with rfl | rfl | rfl | rfl
    · refine fnP_spec hcm hmx TBok' ok21 rfl (ob_o21k1 c j d) ?_
      cases hz : vl (imK 1 c j d) (imC 1 c j d) <;> simp [bI01, hv, hw, hz, hc, hd, hj, imRK, imRC, imE, bI]
    · refine fnP_spec hcm hmx TBok' ok21 rfl (ob_o21k2 c j d) ?_
      cases hz : vl (imK 2 c j d) (imC 2 c j d) <;> simp [bI01, hv, hw, hz, hc, hd, hj, imRK, imRC, imE, bI]
    · refine fnP_spec hcm hmx TBok' ok21 rfl (ob_o21k3 c j d) ?_
      cases hz : vl (imK 3 c j d) (imC 3 c j d) <;> simp [bI01, hv, hw, hz, hc, hd, hj, imRK, imRC, imE, bI]
    · refine fnP_spec hcm hmx TBok' ok21 rfl (ob_o21k4 c j d) ?_
      cases hz : vl (imK 4 c j d) (imC 4 c j d) <;> simp [bI01, hv, hw, hz, hc, hd, hj, imRK, imRC, imE, bI]
  · have hn : (vl k c && vl j d) = false := by
      cases h1 : vl k c <;> cases h2 : vl j d <;> simp_all
    have he : (.tup [lnV (imRK k c j d) (imRC k c j d), .int .i64 (imE k c j d)] : AV) = .tup [lnV 0 0, .int .i64 1] := by
      simp [imRK, imRC, imE, hn, bI]
    rw [he]
    refine fnP_spec hcm hmx TBok' ok21 rfl (ob_o21f k c j d) ?_
    simp [bI01]
    intro h1
    cases h2 : vl j d
    · rfl
    · exact absurd ⟨h1, h2⟩ hv
theorem mt_bad {k c j d : Int} (h : (vl k c && vl j d) = false) : mtE k c j d = 1 ∧ mtRX k c j d = 0 ∧ mtRY k c j d = 0 := by
  have : mtE k c j d = 1 := by simp [mtE, h, bI]
  simp [mtRX, mtRY, this, bI]
theorem mt_par {k c j d : Int} (h : (vl k c && vl j d) = true) (hk : k = j) : mtE k c j d = 7 ∧ mtRX k c j d = 0 ∧ mtRY k c j d = 0 := by
  subst hk
  have : mtE k c k d = 7 := by simp [mtE, h, bI]
  simp [mtRX, mtRY, this, bI]
theorem mt_ok {k c j d : Int} (h : (vl k c && vl j d) = true) (hk : k ≠ j) : mtE k c j d = 0 ∧ mtRX k c j d = mtX k c j d ∧ mtRY k c j d = mtY k c j d := by
  have : mtE k c j d = 0 := by simp only [mtE, h, bI, beq_eq_false_iff_ne.2 hk]; rfl
  simp [mtRX, mtRY, this, bI]
theorem sp23a (k c j d : Int) (hkj : k ≤ j) : SpecP Tryd.prog G 23 [lnV k c, lnV j d] (.tup [ptV (mtRX k c j d) (mtRY k c j d), .int .i64 (mtE k c j d)]) [] := by
  refine fnP_spec hcm hmx TBok' ok23 rfl (ob_o23a k c j d) ?_
  simp only [bI01, Bool.not_eq_true', Bool.not_eq_false']
  refine ⟨fun h => ?_, fun h => ⟨fun h2 => ?_, fun h2 => ⟨fun h3 => ?_, fun h3 => ?_⟩⟩⟩
  · obtain ⟨e1, e2, e3⟩ := mt_bad (k := k) (c := c) (j := j) (d := d) (by simp [h])
    simp [e1, e2, e3]
  · obtain ⟨e1, e2, e3⟩ := mt_bad (k := k) (c := c) (j := j) (d := d) (by simp [h2])
    simp [e1, e2, e3]
  · obtain ⟨e1, e2, e3⟩ := mt_par (k := k) (c := c) (j := j) (d := d) (by simp [h, h2]) (by simpa using h3)
    simp [e1, e2, e3]
  · have hne : k ≠ j := by simpa using h3
    obtain ⟨e1, e2, e3⟩ := mt_ok (k := k) (c := c) (j := j) (d := d) (by simp [h, h2]) hne
    obtain ⟨hk, hc⟩ := vl_k h
    obtain ⟨hj, hd⟩ := vl_k h2
    rw [e1, e2, e3]
    unfold sm at hc hd
    clear e1 e2 e3 h h2 h3
    rcases hk with rfl | rfl | rfl | rfl <;> rcases hj with rfl | rfl | rfl | rfl <;> first | omega | (simp [mtX, mtY, m2X, m2Y]; omega)
theorem mt_sym (k c j d : Int) : mtE j d k c = mtE k c j d ∧ mtRX j d k c = mtRX k c j d ∧ mtRY j d k c = mtRY k c j d := by
  have h1 : mtE j d k c = mtE k c j d := by
    simp only [mtE]
    rw [Bool.and_comm (vl j d), Bool.beq_comm (a := j)]
  by_cases hkj : k = j
  · subst hkj
    refine ⟨h1, ?_, ?_⟩ <;> simp only [mtRX, mtRY, h1]
    · have h : (mtE k c k d == 0) = false := by
        simp only [mtE]
        cases hh : (vl k c && vl k d) <;> simp [bI]
      simp [h, bI]
    · have h : (mtE k c k d == 0) = false := by
        simp only [mtE]
        cases hh : (vl k c && vl k d) <;> simp [bI]
      simp [h, bI]
  · have hx : mtX j d k c = mtX k c j d ∧ mtY j d k c = mtY k c j d := by
      simp only [mtX, mtY]
      by_cases h : j < k
      · rw [if_pos h, if_pos h, if_neg (by omega), if_neg (by omega)]; exact ⟨rfl, rfl⟩
      · rw [if_neg h, if_neg h, if_pos (by omega), if_pos (by omega)]; exact ⟨rfl, rfl⟩
    exact ⟨h1, by simp only [mtRX, h1, hx.1], by simp only [mtRY, h1, hx.2]⟩
theorem ct23a : CtOk Tryd.prog G 23 e23a := by
  intro args r h hp
  unfold e23a at h
  split at h <;> cases h
  first | exact sp23a _ hp | exact sp23a _ _ hp | exact sp23a _ _ _ hp | exact sp23a _ _ _ _ hp
theorem TCok' : TabOk Tryd.prog G TC' := tabL_ok noCh_ok ⟨ct23a, tlBok⟩
theorem sp23 (k c j d : Int) : SpecP Tryd.prog G 23 [lnV k c, lnV j d] (.tup [ptV (mtRX k c j d) (mtRY k c j d), .int .i64 (mtE k c j d)]) [] := by
  by_cases hkj : k ≤ j
  · exact sp23a k c j d hkj
  · refine fnP_spec hcm hmx TCok' ok23 rfl (ob_o23 k c j d) ?_
    obtain ⟨s1, s2, s3⟩ := mt_sym k c j d
    simp only [bI01, Bool.not_eq_true', Bool.not_eq_false', s1, s2, s3]
    refine ⟨fun h => ?_, fun h => ⟨fun h2 => ?_, fun h2 => ⟨fun h3 => ?_, fun h3 => ?_⟩⟩⟩
    · obtain ⟨e1, e2, e3⟩ := mt_bad (k := k) (c := c) (j := j) (d := d) (by simp [h])
      simp [e1, e2, e3]
    · obtain ⟨e1, e2, e3⟩ := mt_bad (k := k) (c := c) (j := j) (d := d) (by simp [h2])
      simp [e1, e2, e3]
    · have : k = j := by simpa using h3
      omega
    · simp; omega
theorem td2 (a : Int) : 2 * a.tdiv 2 + a.tmod 2 = a ∧ -1 ≤ a.tmod 2 ∧ a.tmod 2 ≤ 1 ∧ (0 ≤ a → 0 ≤ a.tmod 2) ∧ (a ≤ 0 → a.tmod 2 ≤ 0) := by
  have h := Int.mul_tdiv_add_tmod a 2
  rcases Int.le_total 0 a with h0 | h0
  · have h1 := Int.tmod_nonneg 2 h0
    have h2 := Int.tmod_lt_of_pos a (b := 2) (by decide)
    refine ⟨h, by omega, by omega, fun _ => h1, fun _ => ?_⟩
    have : a = 0 := by omega
    subst this; decide
  · have h1 := Int.tmod_nonneg 2 (a := -a) (by omega)
    have h2 := Int.tmod_lt_of_pos (-a) (b := 2) (by decide)
    rw [Int.neg_tmod] at h1 h2
    refine ⟨h, by omega, by omega, fun _ => ?_, fun _ => by omega⟩
    have : a = 0 := by omega
    subst this; decide
theorem ac_bound {k x y : Int} (h : ins x y = true) : -131072 ≤ acr k x y ∧ acr k x y ≤ 131072 := by
  rw [ins_iff] at h
  unfold acr
  split
  · omega
  · split
    · omega
    · split <;> omega
theorem sp24 (k x y : Int) : SpecP Tryd.prog G 24 [.int .u8 k, ptV x y] (.tup [lnV (thK k x y) (thC k x y), .int .i64 (thE k x y)]) [] := by
  refine fnP_spec hcm hmx TBok' ok24 rfl (ob_o24 k x y) ?_
  simp only [bI01, Bool.not_eq_true', Bool.not_eq_false']
  have z : ∀ e : Int, thE k x y = e → e ≠ 0 → thK k x y = 0 ∧ thC k x y = 0 := fun e h he => by simp only [thK, thC, h, beq_eq_false_iff_ne.2 he, bI]; exact ⟨rfl, rfl⟩
  by_cases hk : 1 ≤ k ∧ k ≤ 4
  · cases hi : ins x y with
    | false =>
      have he : thE k x y = 1 := by simp [thE, hi, bI]
      obtain ⟨z1, z2⟩ := z 1 he (by decide)
      simp [he, z1, z2]
    | true =>
      obtain ⟨hx, hy⟩ := ins_sm hi
      have hb := ac_bound (k := k) hi
      have hq : -131072 ≤ (acr k x y).tdiv 2 ∧ (acr k x y).tdiv 2 ≤ 131072 := by have := td2 (acr k x y); omega
      by_cases hm : (acr k x y).tmod 2 = 0
      · cases hv : vl k ((acr k x y).tdiv 2) with
        | false =>
          have he : thE k x y = 3 := by simp [thE, hi, hk, hm, hv, bI]
          obtain ⟨z1, z2⟩ := z 3 he (by decide)
          simp [he, z1, z2, hx, hy, hm]; omega
        | true =>
          have he : thE k x y = 0 := by simp [thE, hi, hk, hm, hv, bI]
          have z1 : thK k x y = k ∧ thC k x y = (acr k x y).tdiv 2 := by simp [thK, thC, he, bI]
          simp [he, z1, hx, hy, hm]; omega
      · have he : thE k x y = 7 := by simp only [thE, hi, decide_eq_true hk, beq_eq_false_iff_ne.2 hm, bI]; rfl
        obtain ⟨z1, z2⟩ := z 7 he (by decide)
        simp [he, z1, z2, hx, hy, hm]; omega
  · have he : thE k x y = 1 := by
      have : decide (1 ≤ k ∧ k ≤ 4) = false := by simpa using hk
      simp [thE, this, bI]
    obtain ⟨z1, z2⟩ := z 1 he (by decide)
    simp [he, z1, z2]
    omega
theorem ct19 : CtOk Tryd.prog G 19 e19 := by
  intro args r h hp
  unfold e19 at h
  split at h <;> cases h
  obtain ⟨h0, h1, h2⟩ := hp
  first | exact sp19 _ h0 h1 h2 | exact sp19 _ _ h0 h1 h2 | exact sp19 _ _ _ h0 h1 h2 | exact sp19 _ _ _ _ h0 h1 h2
theorem ct21 : CtOk Tryd.prog G 21 e21 := by
  intro args r h hp
  unfold e21 at h
  split at h <;> cases h
  first | exact sp21 | exact sp21 _ | exact sp21 _ _ | exact sp21 _ _ _ | exact sp21 _ _ _ _ | exact sp21 _ _ _ _ _
theorem ct23 : CtOk Tryd.prog G 23 e23 := by
  intro args r h hp
  unfold e23 at h
  split at h <;> cases h
  first | exact sp23 | exact sp23 _ | exact sp23 _ _ | exact sp23 _ _ _ | exact sp23 _ _ _ _ | exact sp23 _ _ _ _ _
theorem ct24 : CtOk Tryd.prog G 24 e24 := by
  intro args r h hp
  unfold e24 at h
  split at h <;> cases h
  first | exact sp24 | exact sp24 _ | exact sp24 _ _ | exact sp24 _ _ _ | exact sp24 _ _ _ _ | exact sp24 _ _ _ _ _
theorem TDok : TabOk Tryd.prog G TD := tabL_ok noCh_ok ⟨ct19, ct21, ct23, ct24, tlBok⟩
end Go.Proofs.YtpkmnabefnhcfaaDoor.X
