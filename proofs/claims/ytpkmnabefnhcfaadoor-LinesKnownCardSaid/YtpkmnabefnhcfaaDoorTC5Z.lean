/-
  The contract of Parse.
-/
import Derived.Test.YtpkmnabefnhcfaaDoorTO4Z
import Derived.Test.YtpkmnabefnhcfaaDoorTP1Z
set_option maxRecDepth 1000000
set_option linter.unusedVariables false
set_option linter.unusedSimpArgs false
namespace Go.Proofs.YtpkmnabefnhcfaaDoor.X
open Go Go.Ab

theorem T28ok : TabOk Tryd.prog G T28 := tabL_ok noCh_ok ⟨ct34, ct35, ct29, trivial⟩
theorem max_if (x : Int) : (if 0 > x then (0 : Int) else x) = max x 0 := by
  rw [Int.max_def]; split <;> split <;> omega
theorem sp28 (s : List UInt8) (hl : s.length < 1000000) : SpecP Tryd.prog G 28 [.str s] (.tup [.agg [.int .u8 (bI (pOk s) (pK s) 0), .int .i64 (bI (pOk s) (pC s) 0)], .int .i64 (bI (pOk s) 0 4)]) [] := by
  refine fnP_spec hcm hmx T28ok ok28 rfl (ob_o28 s) ?_
  have hrn : ∀ p, ((Utf8.decode (ByteArray.mk (Array.mk s)) p).1 : Int) = rn s p := fun p => rfl
  simp only [ltb_iff, ltb_no, leb_iff, leb_no, ltn_iff, ltn_no, len'_iff, len'_no, inR_i64, inR_u8, inR_i32, size_ints, size_bools, size_vals, size_cells, getD_drop, List.getElem?_drop, beq_iff_eq, beq_eq_false_iff_ne, bne_iff_ne, bne_eq_false_iff_eq, ne_eq, Nat.zero_add, Nat.add_zero, Nat.mul_one, Int.toNat_natCast, and_true, true_and, List.length_drop, List.length_append, List.length_cons, List.length_nil, List.length_set, List.getD_eq_getElem?_getD, implies_true, iI, iL, Bool.not_eq_true', Bool.not_eq_false', Int.natCast_inj, hrn, max_if]
  refine ⟨prI_start s, ?_⟩
  rintro ⟨p, k, c⟩ hI
  simp only at hI ⊢
  refine ⟨fun hp => ?_, fun hp => ?_⟩
  · obtain ⟨r1, r2, r3, r4⟩ := rn_ok hp
    have hst := prI_step hI hp
    obtain ⟨h1, h2, h4, h5, h6, h7⟩ := hI
    have hx := ixR_ok (rn s p)
    have hmu : s.length - nxtP s p < s.length - p := by omega
    refine ⟨hp, fun e => ?_, fun e => ?_⟩
    · have e0 : p = 0 := by omega
      unfold stp at hst
      rw [if_pos e0] at hst
      exact ⟨⟨r1, r2⟩, by omega, hst, hmu⟩
    · have e0 : ¬ p = 0 := by omega
      unfold stp at hst
      rw [if_neg e0] at hst
      have hno : ¬ (1 < p ∧ rn s p ≠ 45 ∧ 48 ≤ rn s p ∧ rn s p ≤ 57 ∧ c ≤ 4096) → prI s (nxtP s p) k c ∧ s.length - nxtP s p < s.length - p := fun h => by
        rw [if_neg h] at hst; exact ⟨hst, hmu⟩
      refine ⟨fun a1 => ⟨fun a2 => ⟨fun a3 => ⟨fun a4 => ⟨fun a5 => ?_, fun a5 => hno (fun g => by omega)⟩, fun a4 => hno (fun g => by omega)⟩, fun a3 => hno (fun g => by omega)⟩, fun a2 => hno (fun g => g.2.1 a2)⟩, fun a1 => hno (fun g => by omega)⟩
      rw [if_pos ⟨by omega, a2, a3, a4, a5⟩] at hst
      exact ⟨by omega, by omega, by omega, by omega, hst, hmu⟩
  · have hend := prI_end hI (by omega)
    obtain ⟨h1, h2, h4, h5, h6, h7⟩ := hI
    have ek : pK s = k := by unfold pK; rw [hend]
    have eno : s = [] → pOk s = false := fun h => by unfold pOk; rw [h]; rfl
    have ebad : tx k (pC s) ≠ s → pOk s = false := fun h => by unfold pOk; rw [ek, beq_eq_false_iff_ne.2 h, Bool.and_false]
    have eok : s ≠ [] → tx k (pC s) = s → pOk s = true := fun h g => by unfold pOk; rw [ek, beq_iff_eq.2 g, bne_iff_ne.2 h]; rfl
    refine ⟨by omega, fun hm => ?_, fun hm => ?_⟩
    · have ec : pC s = 0 - c := by unfold pC; rw [hm, hend]; show -c = _; omega
      rw [ec] at ebad eok ⊢
      rw [ek]
      refine ⟨by omega, fun g => by rw [eno g]; exact ⟨rfl, rfl, rfl⟩, fun g => ⟨by omega, fun g2 => by rw [ebad g2]; exact ⟨rfl, rfl, rfl⟩, fun g2 => by rw [eok g g2]; exact ⟨rfl, rfl, rfl⟩⟩⟩
    · have ec : pC s = c := by unfold pC; rw [hm, hend]; rfl
      rw [ec] at ebad eok ⊢
      rw [ek]
      refine ⟨fun g => by rw [eno g]; exact ⟨rfl, rfl, rfl⟩, fun g => ⟨by omega, fun g2 => by rw [ebad g2]; exact ⟨rfl, rfl, rfl⟩, fun g2 => by rw [eok g g2]; exact ⟨rfl, rfl, rfl⟩⟩⟩
theorem ct28 : CtOk Tryd.prog G 28 e28 := by
  intro args r h hp
  unfold e28 at h
  split at h <;> cases h
  exact sp28 _ hp
/-- Texts of lines are plain letters. -/
theorem dg_le (n : Int) (h0 : 0 ≤ n) (h1 : n ≤ 9) : (dg n).toNat < 128 ∧ (dg n).toNat ≠ 45 := by
  have := dg_nat n h0 h1
  omega
theorem decN_mem {n : Int} (h0 : 0 ≤ n) (h1 : n < 10000) : ∀ x ∈ decN n, x.toNat < 128 ∧ x.toNat ≠ 45 := by
  unfold decN
  intro x hx
  split at hx
  · simp only [List.mem_cons, List.not_mem_nil, or_false] at hx
    subst hx; exact dg_le _ h0 (by omega)
  · split at hx
    · simp only [List.mem_cons, List.not_mem_nil, or_false] at hx
      rcases hx with rfl | rfl <;> exact dg_le _ (by omega) (by omega)
    · split at hx
      · simp only [List.mem_cons, List.not_mem_nil, or_false] at hx
        rcases hx with rfl | rfl | rfl <;> exact dg_le _ (by omega) (by omega)
      · simp only [List.mem_cons, List.not_mem_nil, or_false] at hx
        rcases hx with rfl | rfl | rfl | rfl <;> exact dg_le _ (by omega) (by omega)
theorem foA_dg {d : Int} (h0 : 0 ≤ d) (h1 : d ≤ 9) {p : Nat} (hp : 1 < p) {k c : Int} (hc : c ≤ 4096) (l : List UInt8) : foA (dg d :: l) p k c = foA l (p + 1) k (10 * c + d) := by
  have := dg_nat d h0 h1
  simp only [foA, stA]
  rw [if_neg (by omega), if_pos (by omega)]
  simp only
  rw [show 10 * c + (((dg d).toNat : Int) - 48) = 10 * c + d by omega]
theorem foA_dec {n : Int} (h0 : 0 ≤ n) (h1 : n ≤ 4096) {p : Nat} (hp : 1 < p) (k : Int) : foA (decN n) p k 0 = (k, n) := by
  unfold decN
  split
  · rw [foA_dg h0 (by omega) hp (by omega)]; simp only [foA]; simp
  · split
    · rw [foA_dg (by omega) (by omega) hp (by omega), foA_dg (by omega) (by omega) (by omega) (by omega)]; simp only [foA, Prod.mk.injEq, true_and]; omega
    · split
      · rw [foA_dg (by omega) (by omega) hp (by omega), foA_dg (by omega) (by omega) (by omega) (by omega), foA_dg (by omega) (by omega) (by omega) (by omega)]; simp only [foA, Prod.mk.injEq, true_and]; omega
      · rw [foA_dg (by omega) (by omega) hp (by omega), foA_dg (by omega) (by omega) (by omega) (by omega), foA_dg (by omega) (by omega) (by omega) (by omega), foA_dg (by omega) (by omega) (by omega) (by omega)]; simp only [foA, Prod.mk.injEq, true_and]; omega
end Go.Proofs.YtpkmnabefnhcfaaDoor.X
