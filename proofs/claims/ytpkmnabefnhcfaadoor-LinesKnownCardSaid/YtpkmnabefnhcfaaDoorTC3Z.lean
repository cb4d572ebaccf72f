/-
  The contracts of numbers formatted: the whole.
-/
import Derived.Test.YtpkmnabefnhcfaaDoorTC2Z
set_option maxRecDepth 1000000
set_option linter.unusedVariables false
set_option linter.unusedSimpArgs false
namespace Go.Proofs.YtpkmnabefnhcfaaDoor.X
open Go Go.Ab

theorem ct61 : CtOk Tryd.prog G 61 e61 := by
  intro args r h hp
  unfold e61 at h
  split at h <;> cases h
  obtain ⟨g1, g2⟩ := hp
  exact sp61 _ g1 g2
theorem T57ok : TabOk Tryd.prog G T57 := tabL_ok ch62ok ⟨ct60, ct61, trivial⟩
theorem bytes_map (l : List UInt8) : bytesI (l.map fun b => (b.toNat : Int)) = l := by
  unfold bytesI
  rw [List.map_map]
  have : ((fun n : Int => UInt8.ofNat n.toNat) ∘ fun b : UInt8 => (b.toNat : Int)) = id := by
    funext b
    simp
  rw [this, List.map_id]
theorem decN_pos (n : Int) : 1 ≤ (decN n).length := by
  unfold decN; split
  · simp
  · split
    · simp
    · split <;> simp
theorem take_dec (n : Int) (l : List Int) : List.take (decN n).length ((decN n).map (fun b => (b.toNat : Int)) ++ l) = (decN n).map (fun b => (b.toNat : Int)) := by
  rw [List.take_append_of_le_length (by simp), List.take_of_length_le (by simp)]
theorem sp57 (n : Int) (h0 : -10000 < n) (h1 : n < 10000) : SpecP Tryd.prog G 57 [.int .i64 n, .int .i64 10] (.str (decI n)) [] := by
  by_cases c : n < 0
  · refine fnP_spec hcm hmx T57ok ok57 rfl (ob_o57n n) ?_
    have ew : ∀ x : Int, IntKind.u64.wrap x = x % 18446744073709551616 := fun x => rfl
    have e : IntKind.u64.wrap (0 - IntKind.u64.wrap n) = -n := by rw [ew, ew]; omega
    have hd := ndg_eq (-n) (by omega) (by omega)
    have hp := decN_pos (-n)
    have hl := decN_len (-n)
    have e1 : (1 + ((decN (-n)).length : Int)).toNat = (decN (-n)).length + 1 := by omega
    simp only [ltb_iff, ltb_no, leb_iff, leb_no, ltn_iff, ltn_no, len'_iff, len'_no, inR_i64, inR_u8, inR_i32, size_ints, size_bools, size_vals, size_cells, getD_drop, List.getElem?_drop, beq_iff_eq, beq_eq_false_iff_ne, bne_iff_ne, bne_eq_false_iff_eq, ne_eq, Nat.zero_add, Nat.add_zero, Nat.mul_one, Int.toNat_natCast, and_true, true_and, List.length_drop, List.length_append, List.length_cons, List.length_nil, List.length_set, List.getD_eq_getElem?_getD, implies_true, iI, iL, Bool.not_eq_true', Bool.not_eq_false', Int.natCast_inj, e, hd, e1]
    have hf : bytesI (List.take ((decN (-n)).length + 1) (45 :: (List.map (fun b => ((b : UInt8).toNat : Int)) (decN (-n)) ++ List.replicate (23 - (decN (-n)).length) 0))) = decI n := by
      rw [List.take_succ_cons, take_dec]
      show UInt8.ofNat (45 : Int).toNat :: bytesI _ = _
      rw [bytes_map]
      unfold decI
      rw [if_pos c]; rfl
    simp only [List.length_map, List.length_replicate]
    refine ⟨by omega, by omega, by omega, by omega, by omega, by omega, by omega, by omega, by omega, by omega, by omega, by omega, by omega, by omega, hf⟩
  · by_cases c2 : n < 100
    · refine fnP_spec hcm hmx T57ok ok57 rfl (ob_o57s n) ?_
      simp only [ltb_iff, ltb_no, leb_iff, leb_no, ltn_iff, ltn_no, len'_iff, len'_no, inR_i64, inR_u8, inR_i32, size_ints, size_bools, size_vals, size_cells, getD_drop, List.getElem?_drop, beq_iff_eq, beq_eq_false_iff_ne, bne_iff_ne, bne_eq_false_iff_eq, ne_eq, Nat.zero_add, Nat.add_zero, Nat.mul_one, Int.toNat_natCast, and_true, true_and, List.length_drop, List.length_append, List.length_cons, List.length_nil, List.length_set, List.getD_eq_getElem?_getD, implies_true, iI, iL, Bool.not_eq_true', Bool.not_eq_false', Int.natCast_inj]
      omega
    · refine fnP_spec hcm hmx T57ok ok57 rfl (ob_o57p n) ?_
      have hd := ndg_eq n (by omega) (by omega)
      have hp := decN_pos n
      have hl := decN_len n
      have e1 : (1 + ((decN n).length : Int)).toNat = (decN n).length + 1 := by omega
      simp only [ltb_iff, ltb_no, leb_iff, leb_no, ltn_iff, ltn_no, len'_iff, len'_no, inR_i64, inR_u8, inR_i32, size_ints, size_bools, size_vals, size_cells, getD_drop, List.getElem?_drop, beq_iff_eq, beq_eq_false_iff_ne, bne_iff_ne, bne_eq_false_iff_eq, ne_eq, Nat.zero_add, Nat.add_zero, Nat.mul_one, Int.toNat_natCast, and_true, true_and, List.length_drop, List.length_append, List.length_cons, List.length_nil, List.length_set, List.getD_eq_getElem?_getD, implies_true, iI, iL, Bool.not_eq_true', Bool.not_eq_false', Int.natCast_inj, hd, e1]
      have hf : bytesI (List.take (decN n).length (List.drop 1 (0 :: (List.map (fun b => ((b : UInt8).toNat : Int)) (decN n) ++ List.replicate (23 - (decN n).length) 0)))) = decI n := by
        rw [List.drop_succ_cons, List.drop_zero, take_dec, bytes_map]
        unfold decI
        rw [if_neg c]
      simp only [List.length_map, List.length_replicate, Nat.add_sub_cancel]
      repeat' apply And.intro
      all_goals first | omega | exact hf | exact u64R _ (by omega) (by omega) | trivial
theorem T54ok : TabOk Tryd.prog G T54 := tabL_ok noCh_ok ⟨fun args r h hp => by
  unfold e57 at h
  split at h <;> cases h
  obtain ⟨rfl, g1, g2⟩ := hp
  exact sp57 _ g1 g2, trivial⟩
theorem sp54 (n : Int) (h0 : -10000 < n) (h1 : n < 10000) : SpecP Tryd.prog G 54 [.int .i64 n] (.str (decI n)) [] := by
  refine fnP_spec hcm hmx T54ok ok54 rfl (ob_o54 n) ?_
  simp [h0, h1]
theorem T36ok : TabOk Tryd.prog G T36 := tabL_ok noCh_ok ⟨fun args r h hp => by
  unfold e33w at h
  split at h <;> cases h
  obtain ⟨g1, g2⟩ := hp
  exact sp54 _ g1 g2, trivial⟩
theorem sp36 (n : Int) (h0 : -10000 < n) (h1 : n < 10000) : SpecP Tryd.prog G 36 [.int .i64 n] (.str (decI n)) [] := by
  refine fnP_spec hcm hmx T36ok ok36 rfl (ob_o36 n) ?_
  simp [h0, h1]
theorem ct36 : CtOk Tryd.prog G 36 e33w := by
  intro args r h hp
  unfold e33w at h
  split at h <;> cases h
  obtain ⟨g1, g2⟩ := hp
  exact sp36 _ g1 g2
end Go.Proofs.YtpkmnabefnhcfaaDoor.X
