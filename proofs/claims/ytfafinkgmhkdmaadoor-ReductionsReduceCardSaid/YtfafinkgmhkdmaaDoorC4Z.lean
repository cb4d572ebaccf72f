/-
  The contracts of the functions that reduce fans.
-/
import Derived.Test.YtfafinkgmhkdmaaDoorO4Z
import Derived.Test.YtfafinkgmhkdmaaDoorC3Z
set_option maxRecDepth 1000000
set_option linter.unusedVariables false
set_option linter.unusedSimpArgs false
namespace Go.Proofs.YtfafinkgmhkdmaaDoor.X
open Go Go.Ab

theorem len_v (k : List Int) : (vK k).length = k.length := by simp [vK]
theorem v_get {k : List Int} {j : Nat} (hj : j < k.length) : (vK k)[j]?.getD 0 = if k[j]?.getD 0 = 3 then 2 else k[j]?.getD 0 := by
  rw [vK, List.getElem?_map, List.getElem?_eq_getElem hj]; rfl
theorem v_step {k : List Int} {n : Nat} (h : n < k.length) : ((vK k).take n ++ k.drop n)[n]?.getD 0 = k[n]?.getD 0 ∧ ∀ v, v = (if k[n]?.getD 0 = 3 then 2 else k[n]?.getD 0) → ((vK k).take n ++ k.drop n).set n v = (vK k).take (n + 1) ++ k.drop (n + 1) := by
  have hl : ((vK k).take n).length = n := by rw [List.length_take, len_v]; omega
  have e1 : k.drop n = k[n]?.getD 0 :: k.drop (n + 1) := drop_step h
  refine ⟨?_, fun v hv => ?_⟩
  · rw [List.getElem?_append_right (by omega), hl, Nat.sub_self, e1]; rfl
  · have e2 : (vK k).take (n + 1) = (vK k).take n ++ [v] := by
      rw [List.take_add_one, hv, ← v_get h, List.getElem?_eq_getElem (by rw [len_v]; exact h)]; rfl
    rw [e1, e2, List.set_append_right _ _ (by omega), hl, Nat.sub_self, List.set_cons_zero, List.append_assoc]; rfl
theorem sp13 (c l : Int) (ks : List Int) (hk : okK ks) : SpecP Tryd.prog G 13 [fV c l ks] (.agg [immN .i64 (ofA c l ks), immN .u8 (vK (ofK c ks))]) [] := by
  refine fnP_spec hcm hmx TD1ok ok13 rfl (ob_o13 c l ks) ?_
  have hof := of_ok (c := c) (l := l) hk
  generalize ofK c ks = K at *
  simp only [ltb_iff, ltb_no, leb_iff, leb_no, ltn_iff, ltn_no, len'_iff, len'_no, inR_i64, inR_u8, inR_i32, size_ints, size_bools, size_vals, size_cells, getD_drop, List.getElem?_drop, beq_iff_eq, beq_eq_false_iff_ne, bne_iff_ne, bne_eq_false_iff_eq, ne_eq, Nat.zero_add, Nat.add_zero, Nat.mul_one, Int.toNat_natCast, and_true, true_and, List.length_drop, List.length_append, List.length_cons, List.length_nil, List.length_set, List.getD_eq_getElem?_getD, implies_true, iI, iL, Bool.not_eq_true', Bool.not_eq_false', Int.natCast_inj, len_v]
  refine ⟨hk, ⟨0, rfl, by omega, by simp⟩, ?_⟩
  rintro ⟨i, v⟩ ⟨n, rfl, hn, rfl⟩
  have hlen : ((vK K).take n ++ K.drop n).length = K.length := by simp [len_v]; omega
  simp only [Int.toNat_natCast, hlen, true_and, and_true, List.length_set]
  refine ⟨fun hlt => ?_, fun hge => ?_⟩
  · obtain ⟨g1, g2⟩ := v_step (k := K) (n := n) (by omega)
    rw [g1]
    refine ⟨by omega, by omega, by omega, fun c1 => ?_, fun c1 => ?_⟩
    · exact ⟨by omega, by omega, by omega, by omega, ⟨n + 1, by omega, by omega, g2 _ (by rw [if_pos c1])⟩, by omega⟩
    · refine ⟨by omega, ⟨n + 1, by omega, by omega, ?_⟩, by omega⟩
      rw [← g2 _ rfl, if_neg c1, ← g1]
      apply Eq.symm
      rw [List.getElem?_eq_getElem (by omega)]
      exact List.set_getElem_self _
  · have : n = K.length := by omega
    subst this
    rw [List.take_of_length_le (by rw [len_v]; omega), List.drop_length, List.append_nil]
theorem ct13 : CtOk Tryd.prog G 13 e13 := by
  intro args r h hp
  unfold e13 at h
  split at h <;> cases h
  obtain ⟨rfl, hk⟩ := hp
  exact (sp13 _ _ _ hk).caps
theorem uRok : CtsOk Tryd.prog G uR := ⟨ct13, ct20, uCok⟩
theorem URok : TabOk Tryd.prog G UR := tabL_ok noCh_ok uRok

theorem mir_cons (x : Int) (l : List Int) : mirK' (x :: l) = x :: l.reverse := by
  simp [mirK', rotL']
theorem mir_mir (l : List Int) : mirK' (mirK' l) = l := by
  cases l with
  | nil => rfl
  | cons x l => rw [mir_cons, mir_cons, List.reverse_reverse]
theorem stI_pos {a k : List Int} (h : 0 < (stI a k).length) : ∃ (i : Nat) (r : List Nat), stepsN a k = i :: r ∧ (stI a k)[0]?.getD 0 = (i : Int) := by
  unfold stI inL at *
  cases e : stepsN a k with
  | nil => rw [e] at h; simp at h
  | cons i r => exact ⟨i, r, rfl, rfl⟩
theorem stI_nil {a k : List Int} (h : (stI a k).length = 0) : stepsN a k = [] := by
  unfold stI inL at *
  exact List.length_eq_zero_iff.1 (by simpa using h)
theorem red_cons' {a k : List Int} {i : Nat} {r : List Nat} (h : stepsN a k = i :: r) : rdI a k = (i : Int) :: rdI (doneA a i) (doneK k i) ∧ rdA a k = rdA (doneA a i) (doneK k i) ∧ rdK a k = rdK (doneA a i) (doneK k i) := by
  unfold rdI rdA rdK
  rw [red_cons h]
  exact ⟨rfl, rfl, rfl⟩
theorem red_nil' {a k : List Int} (h : stepsN a k = []) : rdI a k = [] ∧ rdA a k = a ∧ rdK a k = k := by
  unfold rdI rdA rdK
  rw [red_nil h]
  exact ⟨rfl, rfl, rfl⟩
theorem okD_iff {a k : List Int} : okD a k = true ↔ dcd a k = 0 := by simp [okD]
theorem sp18 (a k : List Int) (hz : a.length < 1000000000) (hkz : k.length < 1000000000) : SpecP Tryd.prog G 18 [fanV a k] (.tup [immL .i64 (bLs (okD a k) (rdI a k)), .agg [immL .i64 (bLs (okD a k) (rdA a k)), immL .u8 (bLs (okD a k) (rdK a k))], .int .i64 (dcd a k)]) [] := by
  refine fnP_spec hcm hmx URok ok18 rfl (ob_o18 a k) ?_
  simp only [ltb_iff, ltb_no, leb_iff, leb_no, ltn_iff, ltn_no, len'_iff, len'_no, inR_i64, inR_u8, inR_i32, size_ints, size_bools, size_vals, size_cells, getD_drop, List.getElem?_drop, beq_iff_eq, beq_eq_false_iff_ne, bne_iff_ne, bne_eq_false_iff_eq, ne_eq, Nat.zero_add, Nat.add_zero, Nat.mul_one, Int.toNat_natCast, and_true, true_and, List.length_drop, List.length_append, List.length_cons, List.length_nil, List.length_set, List.getD_eq_getElem?_getD, implies_true, iI, iL, Bool.not_eq_true', Bool.not_eq_false', Int.natCast_inj, mir_mir, List.reverse_reverse, List.drop_zero, List.nil_append, List.length_reverse, len_mir]
  refine ⟨by omega, fun h => ?_, fun h => ?_⟩
  · have e : okD a k = false := by simpa [okD] using h
    simp [bLs_no e]
  · have hok := dcd_ok h
    obtain ⟨hl, h8⟩ := okF_len hok
    have h8 := h8 (by omega)
    have eD : okD a k = true := okD_iff.2 h
    simp only [bLs_yes eD]
    refine ⟨by omega, by omega, ⟨hl, by omega⟩, ⟨hok, by omega⟩, ?_⟩
    rintro ⟨o, A, K⟩ ⟨p1, p2, p3, p4, p5⟩
    simp only at p1 p2 p3 p4 p5 ⊢
    refine ⟨fun hlt => ?_, fun hge => ?_⟩
    · obtain ⟨i, r, hi, hg⟩ := stI_pos (a := A) (k := K) (by omega)
      have him : i ∈ stepsN A K := by rw [hi]; simp
      obtain ⟨s1, s2⟩ := steps_lt him
      obtain ⟨t1, t2⟩ := step_ok p1 him
      have t3 := done_len (a := A) s2
      obtain ⟨u1, u2, u3⟩ := red_cons' hi
      rw [hg]
      simp only [Int.toNat_natCast]
      have t4 := okF_len t1
      refine ⟨by omega, by omega, by omega, by omega, by omega, by omega, by omega, ⟨p1, by omega, by omega, by omega⟩, ⟨t4.1, by omega⟩, ⟨t1, ?_, ?_, ?_, by omega⟩, t3⟩
      · rw [← p2, u1]; simp
      · rw [← p3, u2]
      · rw [← p4, u3]
    · obtain ⟨u1, u2, u3⟩ := red_nil' (stI_nil (a := A) (k := K) (by omega))
      rw [u1, List.append_nil] at p2
      rw [u2] at p3
      rw [u3] at p4
      subst p2; subst p3; subst p4
      simp [h]
theorem ct18 : CtOk Tryd.prog G 18 e18 := by
  intro args r h hp
  unfold e18 at h
  split at h <;> cases h
  obtain ⟨rfl, rfl, h1, h2⟩ := hp
  exact (sp18 _ _ h1 h2).caps
theorem uFok : CtsOk Tryd.prog G uF := ⟨ct18, ct21, uRok⟩
theorem UFok : TabOk Tryd.prog G UF := tabL_ok noCh_ok uFok
theorem rd_ok {a k : List Int} (h : okF a k 8 = true) : okF (rdA a k) (rdK a k) 8 = true ∧ stepsN (rdA a k) (rdK a k) = [] ∧ base (rdA a k) (rdK a k) = foldB a k := by
  obtain ⟨h1, h2, h3⟩ := red_ok _ a k (Nat.le_refl _) h
  exact ⟨h2, h3, rfl⟩
theorem base_iff {a k : List Int} : base a k = true ↔ a.length = 0 ∨ a.length = 2 ∧ a[0]?.getD 0 = a[1]?.getD 0 ∧ k[0]?.getD 0 = k[1]?.getD 0 := by
  simp [base, gt]
end Go.Proofs.YtfafinkgmhkdmaaDoor.X
