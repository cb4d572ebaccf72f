/-
  The law on the sums.
-/
import Derived.Test.YtidpllnmghgomaaDoorC2Z
import Derived.Test.YtidpllnmghgomaaDoorLZ
set_option maxRecDepth 1000000
set_option linter.unusedVariables false
set_option linter.unusedSimpArgs false
namespace Go.Proofs.YtidpllnmghgomaaDoor.X
open Go Go.Ab

theorem ct14 : CtOk Tryd.prog G 14 e14 := by
  intro args r h hp
  cases args with
  | nil => cases h; exact sp14
  | cons a l => cases h
theorem tl3ok : CtsOk Tryd.prog G tl3 := ⟨ct9, ct16, ct17, ct14, tl2ok⟩
theorem T3ok : TabOk Tryd.prog G T3 := tabL_ok noCh_ok tl3ok
/-- The law's loop: one round. -/
theorem l5_step {a : List Int} {n : Nat} {s t : Int} (ha : okA a) (h : n < a.length) (h1 : s + (a.drop n).sum ≤ 8) (h2 : s + sumP true (a.drop n) = t) :
    1 ≤ a[n]?.getD 0 ∧ a[n]?.getD 0 ≤ 8 - s ∧ s + a[n]?.getD 0 + (a.drop (n + 2)).sum ≤ 8 ∧ s + a[n]?.getD 0 + sumP true (a.drop (n + 2)) = t := by
  have hx := okA_get ha h
  have hd := okA_drop ha (n + 1)
  rw [sum_step h] at h1
  rw [sumP_step h] at h2
  simp only [cond_true] at h2
  have key : sumP (!true) (a.drop (n + 1)) = sumP true (a.drop (n + 2)) ∧ (a.drop (n + 2)).sum ≤ (a.drop (n + 1)).sum := by
    by_cases h3 : n + 1 < a.length
    · have hy := okA_get ha h3
      rw [sumP_step h3, sum_step h3, show n + 2 = n + 1 + 1 from rfl]
      simp; omega
    · rw [drop_end (n := n + 1) (by omega), drop_end (n := n + 2) (by omega)]
      simp [sumP]
  omega
theorem l5_end {a : List Int} {n : Nat} {s t : Int} (h : a.length ≤ n) (h2 : s + sumP true (a.drop n) = t) : s = t := by
  rw [drop_end h] at h2; simpa [sumP] using h2

theorem sp5 (c l : Int) (ks : List Int) (hk : okK ks) : SpecP Tryd.prog G 5 [fV c l ks] (.bool true) [] := by
  refine fnP_spec hcm hmx T3ok ok5 rfl (ob_o5 c l ks) ?_
  obtain ⟨hl, h8, ha, hkd⟩ := of_ok (c := c) (l := l) hk
  have hch := of_chk (c := c) (l := l) hk
  generalize ofA c l ks = A at *
  generalize ofK c ks = K at *
  simp only [ltb_iff, ltb_no, leb_iff, leb_no, ltn_iff, ltn_no, len'_iff, len'_no, inR_i64, inR_u8, inR_i32, size_ints, size_bools, size_vals, size_cells, getD_drop, List.getElem?_drop, beq_iff_eq, beq_eq_false_iff_ne, bne_iff_ne, bne_eq_false_iff_eq, ne_eq, Nat.zero_add, Nat.add_zero, Nat.mul_one, Int.toNat_natCast, and_true, true_and, List.length_drop, List.length_append, List.length_cons, List.length_nil, List.length_set, List.getD_eq_getElem?_getD, implies_true, iI, iL, Bool.not_eq_true', Bool.not_eq_false', Int.natCast_inj]
  have hsum := okA_drop ha 0
  have h82 := ha.2
  simp only [List.drop_zero] at hsum
  refine ⟨hk, by omega, by omega, ⟨0, rfl, rfl, by omega, by omega, by simpa using h82, by simp⟩, ?_⟩
  rintro ⟨i, s⟩ ⟨n, rfl, h1, h2, h3, h4, h5⟩
  simp only at h3 h4 h5
  simp only [ltb_iff, ltb_no, leb_iff, leb_no, ltn_iff, ltn_no, len'_iff, len'_no, inR_i64, inR_u8, inR_i32, size_ints, size_bools, size_vals, size_cells, getD_drop, List.getElem?_drop, beq_iff_eq, beq_eq_false_iff_ne, bne_iff_ne, bne_eq_false_iff_eq, ne_eq, Nat.zero_add, Nat.add_zero, Nat.mul_one, Int.toNat_natCast, and_true, true_and, List.length_drop, List.length_append, List.length_cons, List.length_nil, List.length_set, List.getD_eq_getElem?_getD, implies_true, iI, iL, Bool.not_eq_true', Bool.not_eq_false', Int.natCast_inj]
  refine ⟨fun hlt => ?_, fun hge => ?_⟩
  · obtain ⟨g1, g2, g3, g4⟩ := l5_step ha (by omega) h4 h5
    exact ⟨by omega, by omega, by omega, by omega, by omega, ⟨n + 2, by omega, by omega, by omega, by omega, g3, g4⟩, by omega⟩
  · have hs := l5_end (by omega) h5
    refine ⟨⟨1, rfl, rfl, by omega, by omega, ?_, ?_⟩, ?_⟩
    · cases A with
      | nil => simp
      | cons x r =>
        have := ha.1 x (by simp)
        simp at h82 ⊢; omega
    · cases A with
      | nil => simp [sumP]
      | cons x r => simp [sumP]
    · rintro ⟨i', s'⟩ ⟨m, rfl, k1, k2, k3, k4, k5⟩
      simp only at k3 k4 k5
      simp only [ltb_iff, ltb_no, leb_iff, leb_no, ltn_iff, ltn_no, len'_iff, len'_no, inR_i64, inR_u8, inR_i32, size_ints, size_bools, size_vals, size_cells, getD_drop, List.getElem?_drop, beq_iff_eq, beq_eq_false_iff_ne, bne_iff_ne, bne_eq_false_iff_eq, ne_eq, Nat.zero_add, Nat.add_zero, Nat.mul_one, Int.toNat_natCast, and_true, true_and, List.length_drop, List.length_append, List.length_cons, List.length_nil, List.length_set, List.getD_eq_getElem?_getD, implies_true, iI, iL, Bool.not_eq_true', Bool.not_eq_false', Int.natCast_inj]
      refine ⟨fun hlt => ?_, fun hge => ?_⟩
      · obtain ⟨g1, g2, g3, g4⟩ := l5_step ha (by omega) k4 k5
        exact ⟨by omega, by omega, by omega, by omega, by omega, ⟨m + 2, by omega, by omega, by omega, by omega, g3, g4⟩, by omega⟩
      · have hs' := l5_end (by omega) k5
        subst hs hs'
        have hq : altB A K = ((A.length : Int).tmod 2 == 0 && sumP true A == sumP false A) := by
          simp only [altB, isOk, hch, oddB, unevB, tmod2]
          rw [Bool.eq_iff_iff]
          simp; omega
        simp [hch, isOk, bI, hq]
        rw [tmod2]
        refine ⟨fun h => ?_, fun h => ?_⟩ <;> simp [h] <;> omega
end Go.Proofs.YtidpllnmghgomaaDoor.X
