/-
  The law on errors.
-/
import Derived.Test.YtidpllnmghgomaaDoorC8Z
set_option maxRecDepth 1000000
set_option linter.unusedVariables false
set_option linter.unusedSimpArgs false
namespace Go.Proofs.YtidpllnmghgomaaDoor.X
open Go Go.Ab

theorem ct19 : CtOk Tryd.prog G 19 e19 := by
  intro args r h hp
  unfold e19 at h
  split at h <;> cases h
  obtain ⟨rfl, rfl, hl⟩ := hp
  exact (sp19 _ _ hl).caps
theorem tl9ok : CtsOk Tryd.prog G tl9 := ⟨ct19, tl8ok⟩
theorem T9ok : TabOk Tryd.prog G T9 := tabL_ok noCh_ok tl9ok
theorem sp6 (a k : List Int) : SpecP Tryd.prog G 6 [fanV a k] (.bool true) [] := by
  refine fnP_spec hcm hmx T9ok ok6 rfl (ob_o6 a k) ?_
  simp only [ltb_iff, ltb_no, leb_iff, leb_no, ltn_iff, ltn_no, len'_iff, len'_no, inR_i64, inR_u8, inR_i32, size_ints, size_bools, size_vals, size_cells, getD_drop, List.getElem?_drop, beq_iff_eq, beq_eq_false_iff_ne, bne_iff_ne, bne_eq_false_iff_eq, ne_eq, Nat.zero_add, Nat.add_zero, Nat.mul_one, Int.toNat_natCast, and_true, true_and, List.length_drop, List.length_append, List.length_cons, List.length_nil, List.length_set, List.getD_eq_getElem?_getD, implies_true, iI, iL, Bool.not_eq_true', Bool.not_eq_false', Int.natCast_inj]
  by_cases hc : chk a k = 0
  · simp [hc]
    omega
  · simp [isOk_f hc, hc, bI, bL, altB]
    omega
end Go.Proofs.YtidpllnmghgomaaDoor.X
