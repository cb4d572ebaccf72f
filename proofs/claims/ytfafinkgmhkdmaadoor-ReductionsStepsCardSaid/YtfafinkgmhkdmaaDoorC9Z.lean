/-
  The law: the angles that can be folded away.
-/
import Derived.Test.YtfafinkgmhkdmaaDoorC7Z
set_option maxRecDepth 1000000
set_option linter.unusedVariables false
set_option linter.unusedSimpArgs false
namespace Go.Proofs.YtfafinkgmhkdmaaDoor.X
open Go Go.Ab

theorem sp7 (c l : Int) (ks : List Int) (x : Int) (hk : okK ks) : SpecP Tryd.prog G 7 [fV c l ks, .int .i64 x] (.bool true) [] := by
  refine fnP_spec hcm hmx ULok ok7 rfl (ob_o7 c l ks x) ?_
  have hd := d_ok (c := c) (l := l) hk
  generalize ofA c l ks = A at *
  generalize vK (ofK c ks) = K at *
  obtain ⟨hl, h8⟩ := okF_len hd
  have h8 := h8 (by omega)
  have hD := dcd_of hd
  have hO := okD_of hd
  simp only [ltb_iff, ltb_no, leb_iff, leb_no, ltn_iff, ltn_no, len'_iff, len'_no, inR_i64, inR_u8, inR_i32, size_ints, size_bools, size_vals, size_cells, getD_drop, List.getElem?_drop, beq_iff_eq, beq_eq_false_iff_ne, bne_iff_ne, bne_eq_false_iff_eq, ne_eq, Nat.zero_add, Nat.add_zero, Nat.mul_one, Int.toNat_natCast, and_true, true_and, List.length_drop, List.length_append, List.length_cons, List.length_nil, List.length_set, List.getD_eq_getElem?_getD, implies_true, iI, iL, Bool.not_eq_true', Bool.not_eq_false', Int.natCast_inj, hO, hD, bLs_yes rfl, Bool.not_true, Bool.not_false, Bool.true_and]
  refine ⟨hk, by omega, ⟨0, rfl, by omega, rfl⟩, ?_⟩
  rintro ⟨i, w⟩ ⟨n, rfl, hn, rfl⟩
  simp only [Int.toNat_natCast]
  have hwl : (wL A K n).length ≤ n := by
    simp only [wL, inL, List.length_map]
    exact Nat.le_trans (List.length_filter_le _ _) (by simp)
  refine ⟨fun hlt => ⟨hd, by omega, fun hS => ?_, fun hS => ?_⟩, fun hge => ⟨hd, by omega, ?_, ?_, ?_, ?_⟩⟩
  · have e1 : doE A K n = 6 := by unfold doE; rw [if_pos hD, hS]; rfl
    have e2 : doB A K n = false := by unfold doB; rw [hS, Bool.and_false]
    refine ⟨e1, by rw [e2]; rfl, by omega, ⟨n + 1, by omega, by omega, ?_⟩, by omega⟩
    unfold wL; rw [filter_no hS]
  · have hst := stI_lt hS
    obtain ⟨t1, t2⟩ := step_ok hd hst.2.2.2
    simp only [Int.toNat_natCast] at t1
    have l2 := okF_len t1
    have l3 := l2.2 (by omega)
    have hc : chk (doneA A n) (doneK K n) = 0 := by
      have := dcd_of t1
      unfold dcd at this
      split at this
      · assumption
      · contradiction
    have e1 : ∀ l : List Int, eqB l l = true := fun l => by simp [eqB]
    simp only [doB_of hd hS, doE_of hd hS, hS, bLs_yes rfl, e1, Bool.and_self, true_and]
    refine ⟨by omega, by omega, by omega, hc, by omega, ⟨n + 1, by omega, by omega, ?_⟩, by omega⟩
    unfold wL; rw [filter_yes hS]; simp [inL]
  · have := stI_len (a := A) (k := K); omega
  · obtain rfl : n = A.length := by omega
    have : stI A K = wL A K A.length := by
      unfold stI wL stepsN
      congr 1
      split
      · rename_i h4
        apply Eq.symm
        rw [List.filter_eq_nil_iff]
        intro j hj hS
        have := (stI_lt hS).1
        omega
      · rename_i h4
        refine List.filter_congr fun j hj => ?_
        have hj := List.mem_range.1 hj
        rw [Bool.eq_iff_iff, isS_iff hj]
        constructor
        · exact fun h => ⟨by omega, h⟩
        · exact fun h => h.2
    rw [this]; simp [eqB]
  · unfold doE; rw [if_pos hD]
    cases isS A K x with
    | true => rfl
    | false => rfl
  · intro hS; unfold doE; rw [if_pos hD, hS]; rfl
end Go.Proofs.YtfafinkgmhkdmaaDoor.X
