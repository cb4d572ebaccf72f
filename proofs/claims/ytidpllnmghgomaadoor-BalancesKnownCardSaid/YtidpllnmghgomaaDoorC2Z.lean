/-
  The contract of F.Of.
-/
import Derived.Test.YtidpllnmghgomaaDoorC1Z
set_option maxRecDepth 1000000
set_option linter.unusedVariables false
set_option linter.unusedSimpArgs false
namespace Go.Proofs.YtidpllnmghgomaaDoor.X
open Go Go.Ab

theorem fstep_skip {c : Int} {ks : List Int} {s : FS} {n : Nat} (h : (c.fdiv (2 ^ min n 8)).tmod 2 = 0) : fstep c ks s n = s := by
  unfold fstep; rw [if_pos]; simpa [bitZ, IntKind.bits] using h
theorem fstep_on {c : Int} {ks : List Int} {s : FS} {n : Nat} (h : ¬ (c.fdiv (2 ^ min n 8)).tmod 2 = 0) (hl : 0 ≤ s.last) : fstep c ks s n = ⟨n, s.first, s.a ++ [n - s.last], s.k ++ [kdOf ks s.k.length]⟩ := by
  unfold fstep; rw [if_neg, if_pos hl]; simpa [bitZ, IntKind.bits] using h
theorem fstep_first {c : Int} {ks : List Int} {s : FS} {n : Nat} (h : ¬ (c.fdiv (2 ^ min n 8)).tmod 2 = 0) (hl : s.last < 0) : fstep c ks s n = ⟨n, n, s.a, s.k ++ [kdOf ks s.k.length]⟩ := by
  unfold fstep; rw [if_neg, if_neg (by omega)]; simpa [bitZ, IntKind.bits] using h
theorem kdOf_in {ks : List Int} {n : Nat} (h : n < ks.length) : kdOf ks n = 1 + (ks[n]?.getD 0).tmod 3 := by
  unfold kdOf; rw [if_pos h]; simp
theorem kdOf_out {ks : List Int} {n : Nat} (h : ks.length ≤ n) : kdOf ks n = 1 := by
  unfold kdOf; rw [if_neg (by omega)]

theorem sp9 (c l : Int) (ks : List Int) (hk : okK ks) : SpecP Tryd.prog G 9 [fV c l ks] (.agg [.full 0 (ofA c l ks).length, .full 1 (ofK c ks).length]) [blkI (ofA c l ks), blkK (ofK c ks)] := by
  refine fnP_spec hcm hmx T0ok ok9 rfl (ob_o9 c l ks) ?_
  simp only [and_true, true_and]
  refine ⟨⟨0, rfl, by decide, rfl⟩, ?_⟩
  rintro ⟨d, la, fi, a, k⟩ ⟨n, rfl, hn, hf⟩
  have hok := ffold_ok (c := c) hk n
  have hnext := ffold_succ c ks n
  rw [← hf] at hok hnext
  have hcl := fclose_ok hok hn
  obtain ⟨i1, i2, i3, i4, i5⟩ := hok
  simp only at i1 i2 i3 i4 i5
  have hfirst : -1 ≤ fi ∧ fi ≤ 8 ∧ -1 ≤ la ∧ la ≤ 8 := by
    by_cases h : 0 ≤ la
    · have := i2 h; omega
    · have := i1 (by omega); omega
  have hal : a.length ≤ 8 := by
    by_cases h : 0 ≤ la
    · have := i2 h; omega
    · have := i1 (by omega); simp [this.2.2.1]
  have hkd := kdOf_ok hk k.length
  simp only [ltb_iff, ltb_no, leb_iff, leb_no, ltn_iff, ltn_no, len'_iff, len'_no, inR_i64, inR_u8, inR_i32, size_ints, size_bools, size_vals, size_cells, getD_drop, List.getElem?_drop, beq_iff_eq, beq_eq_false_iff_ne, bne_iff_ne, bne_eq_false_iff_eq, ne_eq, Nat.zero_add, Nat.add_zero, Nat.mul_one, Int.toNat_natCast, and_true, true_and, List.length_drop, List.length_append, List.length_cons, List.length_nil, List.length_set, List.getD_eq_getElem?_getD, implies_true, iI, iL, Bool.not_eq_true', Bool.not_eq_false', Int.natCast_inj]
  refine ⟨fun hlt => ⟨by omega, fun hb => ⟨by omega, ⟨n + 1, by omega, by omega, by rw [hnext, fstep_skip hb]⟩, by omega⟩, fun hb => ⟨fun hl => ?_, fun hl => ?_⟩⟩, fun hge => ?_⟩
  · refine ⟨by omega, by omega, ⟨fun h1 => ?_, fun h1 => ?_⟩, ?_⟩
    · rw [kdOf_in (by omega)] at hkd ⊢
      exact ⟨by omega, by omega, by omega, by omega, rfl⟩
    · exact (kdOf_out (by omega)).symm
    · rintro ⟨v⟩ rfl
      exact ⟨by omega, by omega, ⟨n + 1, by omega, by omega, by rw [hnext, fstep_on hb hl]⟩, by omega⟩
  · refine ⟨⟨fun h1 => ?_, fun h1 => ?_⟩, ?_⟩
    · rw [kdOf_in (by omega)] at hkd ⊢
      exact ⟨by omega, by omega, by omega, by omega, rfl⟩
    · exact (kdOf_out (by omega)).symm
    · rintro ⟨v⟩ rfl
      exact ⟨by omega, by omega, ⟨n + 1, by omega, by omega, by rw [hnext, fstep_first hb hl]⟩, by omega⟩
  · have h8 : n = 8 := by omega
    subst h8
    have hfk : k = ofK c ks := by unfold ofK; rw [← hf]
    refine ⟨⟨fun h1 => ⟨by omega, by omega, by omega, by rw [hfk], ?_⟩, fun h1 => ⟨by rw [hfk], ?_⟩⟩, ?_⟩
    · rw [← hf]; simp [fclose, h1]
    · rw [← hf]; simp [fclose]; omega
    · rintro ⟨v⟩ rfl
      rw [hf] at hcl
      have hAl : ofA c l ks = lessL l 0 (fclose (ffold c ks 8)) := rfl
      generalize fclose (ffold c ks 8) = A at *
      obtain ⟨hA1, hA2, hA3, hA4⟩ := hcl
      have hll := lessL_len l 0 A
      refine ⟨by rw [hfk], hfk, ⟨0, by simp, by simp, by simp⟩, ?_⟩
      rintro ⟨i, v⟩ ⟨m, rfl, hm, hv⟩
      simp only at hv
      have hvl : v.length = A.length := by rw [hv]; simp; omega
      simp only [ltb_iff, ltb_no, leb_iff, leb_no, ltn_iff, ltn_no, len'_iff, len'_no, inR_i64, inR_u8, inR_i32, size_ints, size_bools, size_vals, size_cells, getD_drop, List.getElem?_drop, beq_iff_eq, beq_eq_false_iff_ne, bne_iff_ne, bne_eq_false_iff_eq, ne_eq, Nat.zero_add, Nat.add_zero, Nat.mul_one, Int.toNat_natCast, and_true, true_and, List.length_drop, List.length_append, List.length_cons, List.length_nil, List.length_set, List.getD_eq_getElem?_getD, implies_true, iI, iL, Bool.not_eq_true', Bool.not_eq_false', Int.natCast_inj]
      refine ⟨fun hlt => ?_, fun hge => ?_⟩
      · have hlt : m < A.length := by omega
        have hg : v[m]?.getD 0 = A[m]?.getD 0 := by rw [hv]; exact less_get (l := l) hlt
        have hs := less_step (l := l) hlt
        have hsame := less_same (l := l) hlt
        simp only [IntKind.bits] at hs hsame
        rw [← hv] at hs hsame
        have h1 := hA1 _ (getD_mem hlt)
        have h2 : A[m]?.getD 0 ≤ 8 := by
          have e := sum_step (l := A) hlt
          have e2 := sum_nonneg (l := A.drop (m + 1)) fun x hx => hA1 x (List.mem_of_mem_drop hx)
          have e3 : (A.take m).sum + (A.drop m).sum = A.sum := by rw [← List.sum_append, List.take_append_drop]
          have e4 := sum_nonneg (l := A.take m) fun x hx => hA1 x (List.mem_of_mem_take hx)
          omega
        rw [hg]
        refine ⟨by omega, fun hb => ⟨by omega, by omega, by omega, fun h3 => ?_, fun h3 => ?_⟩, fun hb => ?_⟩
        · simp only [hb, h3, and_self, if_true] at hs
          exact ⟨by omega, by omega, by omega, by omega, by omega, by omega, by omega, by omega, ⟨m + 1, by omega, by omega, hs⟩, by omega⟩
        · exact ⟨by omega, ⟨m + 1, by omega, by omega, hsame (by omega)⟩, by omega⟩
        · exact ⟨by omega, ⟨m + 1, by omega, by omega, hsame (by omega)⟩, by omega⟩
      · have hm' : m = A.length := by omega
        have : v = ofA c l ks := by
          rw [hv, hm', hAl, ← hll]
          simp
          rw [hll]; simp
        rw [this]
        exact ⟨rfl, rfl, rfl⟩
theorem ct9 : CtOk Tryd.prog G 9 e9 := by
  intro args r h hp
  unfold e9 at h
  split at h <;> cases h
  obtain ⟨rfl, hk⟩ := hp
  exact (sp9 _ _ _ hk).caps
end Go.Proofs.YtidpllnmghgomaaDoor.X
