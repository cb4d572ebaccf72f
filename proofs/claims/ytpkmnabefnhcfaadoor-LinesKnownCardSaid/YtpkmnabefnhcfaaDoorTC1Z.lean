/-
  The contracts of numbers as texts.
-/
import Derived.Test.YtpkmnabefnhcfaaDoorTO1Z
import Derived.Test.YtpkmnabefnhcfaaDoorGC1Z
set_option maxRecDepth 1000000
set_option linter.unusedVariables false
set_option linter.unusedSimpArgs false
namespace Go.Proofs.YtpkmnabefnhcfaaDoor.X
open Go Go.Ab

theorem decN_len (n : Int) : (decN n).length ≤ 4 := by
  unfold decN; split
  · simp
  · split
    · simp
    · split <;> simp
theorem decI_len (n : Int) : (decI n).length ≤ 5 := by
  unfold decI
  have := decN_len n
  have := decN_len (-n)
  split
  · simp; omega
  · omega
theorem decI_step {n : Int} (h1 : 10 ≤ n) (h2 : n < 10000) : decI (n / 10) ++ [dg (n % 10)] = decI n := by
  have e1 : n / 10 / 100 = n / 1000 := by omega
  have e2 : n / 10 / 10 = n / 100 := by omega
  unfold decI
  rw [if_neg (by omega), if_neg (by omega)]
  unfold decN
  by_cases c1 : n < 100
  · rw [if_pos (by omega), if_neg (by omega), if_pos c1]; rfl
  · by_cases c2 : n < 1000
    · rw [if_neg (by omega), if_pos (by omega), if_neg (by omega), if_neg c1, if_pos c2, e2]; rfl
    · rw [if_neg (by omega), if_neg (by omega), if_pos (by omega), if_neg (by omega), if_neg c1, if_neg c2, e1, e2]; rfl
theorem sp33a (n : Int) (h0 : 0 ≤ n) (h1 : n < 10) : SpecP Tryd.prog G 33 [.int .i64 n] (.str (decI n)) [] := by
  refine fnP_spec hcm hmx (tabL_ok noCh_ok ⟨fun args r h hp => ?_, trivial⟩ : TabOk Tryd.prog G (T33 0)) ok33 rfl (ob_o33a n) ?_
  · unfold e33 at h
    split at h <;> cases h
    obtain ⟨g1, g2⟩ := hp
    omega
  · simp only [ltb_iff, ltb_no, leb_iff, leb_no, ltn_iff, ltn_no, len'_iff, len'_no, inR_i64, inR_u8, inR_i32, size_ints, size_bools, size_vals, size_cells, getD_drop, List.getElem?_drop, beq_iff_eq, beq_eq_false_iff_ne, bne_iff_ne, bne_eq_false_iff_eq, ne_eq, Nat.zero_add, Nat.add_zero, Nat.mul_one, Int.toNat_natCast, and_true, true_and, List.length_drop, List.length_append, List.length_cons, List.length_nil, List.length_set, List.getD_eq_getElem?_getD, implies_true, iI, iL, Bool.not_eq_true', Bool.not_eq_false', Int.natCast_inj]
    refine ⟨h0, h1, by omega, by omega, ?_⟩
    unfold decI decN
    rw [if_neg (by omega), if_pos h1]; rfl
theorem sp33b {b : Int} (hb : ∀ n, 0 ≤ n → n < b → SpecP Tryd.prog G 33 [.int .i64 n] (.str (decI n)) []) (hb' : b ≤ 1000) (n : Int) (h0 : 0 ≤ n) (h1 : n < 10 * b) : SpecP Tryd.prog G 33 [.int .i64 n] (.str (decI n)) [] := by
  by_cases h : n < 10
  · exact sp33a n h0 h
  · refine fnP_spec hcm hmx (tabL_ok noCh_ok ⟨fun args r h hp => ?_, trivial⟩ : TabOk Tryd.prog G (T33 b)) ok33 rfl (ob_o33b n b) ?_
    · unfold e33 at h
      split at h <;> cases h
      obtain ⟨g1, g2⟩ := hp
      exact hb _ g1 g2
    · have e1 : n.tdiv 10 = n / 10 := Int.tdiv_eq_ediv_of_nonneg h0
      have e2 : n.tmod 10 = n % 10 := Int.tmod_eq_emod_of_nonneg h0
      have hl := decI_len (n / 10)
      simp only [ltb_iff, ltb_no, leb_iff, leb_no, ltn_iff, ltn_no, len'_iff, len'_no, inR_i64, inR_u8, inR_i32, size_ints, size_bools, size_vals, size_cells, getD_drop, List.getElem?_drop, beq_iff_eq, beq_eq_false_iff_ne, bne_iff_ne, bne_eq_false_iff_eq, ne_eq, Nat.zero_add, Nat.add_zero, Nat.mul_one, Int.toNat_natCast, and_true, true_and, List.length_drop, List.length_append, List.length_cons, List.length_nil, List.length_set, List.getD_eq_getElem?_getD, implies_true, iI, iL, Bool.not_eq_true', Bool.not_eq_false', Int.natCast_inj, e1, e2]
      exact ⟨h0, by omega, by omega, by omega, by omega, by omega, by omega, decI_step (by omega) (by omega)⟩
theorem sp33p (n : Int) (h0 : 0 ≤ n) (h1 : n < 10000) : SpecP Tryd.prog G 33 [.int .i64 n] (.str (decI n)) [] :=
  sp33b (b := 1000) (sp33b (b := 100) (sp33b (b := 10) sp33a (by omega)) (by omega)) (by omega) n h0 h1
theorem sp33 (n : Int) (h0 : -10000 < n) (h1 : n < 10000) : SpecP Tryd.prog G 33 [.int .i64 n] (.str (decI n)) [] := by
  by_cases h : n < 0
  · refine fnP_spec hcm hmx (tabL_ok noCh_ok ⟨fun args r h hp => ?_, trivial⟩ : TabOk Tryd.prog G (T33 10000)) ok33 rfl (ob_o33n n) ?_
    · unfold e33 at h
      split at h <;> cases h
      obtain ⟨g1, g2⟩ := hp
      exact sp33p _ g1 g2
    · have hl := decI_len (0 - n)
      simp only [ltb_iff, ltb_no, leb_iff, leb_no, ltn_iff, ltn_no, len'_iff, len'_no, inR_i64, inR_u8, inR_i32, size_ints, size_bools, size_vals, size_cells, getD_drop, List.getElem?_drop, beq_iff_eq, beq_eq_false_iff_ne, bne_iff_ne, bne_eq_false_iff_eq, ne_eq, Nat.zero_add, Nat.add_zero, Nat.mul_one, Int.toNat_natCast, and_true, true_and, List.length_drop, List.length_append, List.length_cons, List.length_nil, List.length_set, List.getD_eq_getElem?_getD, implies_true, iI, iL, Bool.not_eq_true', Bool.not_eq_false', Int.natCast_inj]
      refine ⟨h, by omega, by omega, by omega, ?_⟩
      unfold decI
      rw [if_neg (by omega), if_pos h, show 0 - n = -n by omega]
  · exact sp33p n (by omega) h1
theorem ct33 : CtOk Tryd.prog G 33 e33w := by
  intro args r h hp
  unfold e33w at h
  split at h <;> cases h
  obtain ⟨g1, g2⟩ := hp
  exact sp33 _ g1 g2
theorem T330 : TabOk Tryd.prog G (T33 0) := tabL_ok noCh_ok ⟨fun args r h hp => by
  unfold e33 at h
  split at h <;> cases h
  obtain ⟨g1, g2⟩ := hp
  omega, trivial⟩
def smA (n : Nat) : Bool := (((List.drop n [48, 49, 50, 51, 52, 53, 54, 55, 56, 57, 97, 98, 99, 100, 101, 102, 103, 104, 105, 106, 107, 108, 109, 110, 111, 112, 113, 114, 115, 116, 117, 118, 119, 120, 121, 122] : List UInt8).take 1) == decI n)
theorem smA_ok : ∀ n : Nat, n < 10 → smA n = true := by decide +kernel
theorem tabS_decB : ∀ m : Nat, m < 100 → (decide (m < 10) || ((tabS.drop (m * 2)).take 2 == decI m)) = true := by decide +kernel
theorem tabS_dec (m : Nat) (h1 : 10 ≤ m) (h2 : m < 100) : (tabS.drop (m * 2)).take 2 = decI m := by
  have := tabS_decB m h2
  rw [decide_eq_false (by omega), Bool.false_or] at this
  exact beq_iff_eq.1 this
theorem sp60 (n : Int) (h0 : 0 ≤ n) (h1 : n < 100) : SpecP Tryd.prog G 60 [.int .i64 n] (.str (decI n)) [] := by
  obtain ⟨m, rfl⟩ : ∃ m : Nat, n = m := ⟨n.toNat, (Int.toNat_of_nonneg h0).symm⟩
  by_cases h : m < 10
  · refine fnP_spec hcm hmx T330 ok60 rfl (ob_o60a m) ?_
    have := smA_ok m h
    unfold smA at this
    have e : ((m : Int) + 1).toNat = m + 1 := rfl
    simp only [ltb_iff, ltb_no, leb_iff, leb_no, ltn_iff, ltn_no, len'_iff, len'_no, inR_i64, inR_u8, inR_i32, size_ints, size_bools, size_vals, size_cells, getD_drop, List.getElem?_drop, beq_iff_eq, beq_eq_false_iff_ne, bne_iff_ne, bne_eq_false_iff_eq, ne_eq, Nat.zero_add, Nat.add_zero, Nat.mul_one, Int.toNat_natCast, and_true, true_and, List.length_drop, List.length_append, List.length_cons, List.length_nil, List.length_set, List.getD_eq_getElem?_getD, implies_true, iI, iL, Bool.not_eq_true', Bool.not_eq_false', Int.natCast_inj, e]
    refine ⟨by omega, by omega, by omega, by omega, by omega, ?_⟩
    rw [show m + 1 - m = 1 by omega]
    exact beq_iff_eq.1 this
  · refine fnP_spec hcm hmx T330 ok60 rfl (ob_o60b m) ?_
    have e : ((m : Int) * 2 + 2).toNat = m * 2 + 2 := by omega
    have e2 : ((m : Int) * 2).toNat = m * 2 := by omega
    simp only [ltb_iff, ltb_no, leb_iff, leb_no, ltn_iff, ltn_no, len'_iff, len'_no, inR_i64, inR_u8, inR_i32, size_ints, size_bools, size_vals, size_cells, getD_drop, List.getElem?_drop, beq_iff_eq, beq_eq_false_iff_ne, bne_iff_ne, bne_eq_false_iff_eq, ne_eq, Nat.zero_add, Nat.add_zero, Nat.mul_one, Int.toNat_natCast, and_true, true_and, List.length_drop, List.length_append, List.length_cons, List.length_nil, List.length_set, List.getD_eq_getElem?_getD, implies_true, iI, iL, Bool.not_eq_true', Bool.not_eq_false', Int.natCast_inj, e, e2]
    refine ⟨by omega, by omega, by omega, by omega, by omega, by omega, by omega, ?_⟩
    rw [show m * 2 + 2 - m * 2 = 2 by omega]
    exact tabS_dec m (by omega) (by omega)
theorem ct60 : CtOk Tryd.prog G 60 e60 := by
  intro args r h hp
  unfold e60 at h
  split at h <;> cases h
  obtain ⟨g1, g2⟩ := hp
  exact sp60 _ g1 g2
end Go.Proofs.YtpkmnabefnhcfaaDoor.X
