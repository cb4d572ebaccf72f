/-
  The contracts of the functions on lines.
-/
import Derived.Test.YtpkmnabefnhcfaaDoorGO1Z
set_option maxRecDepth 1000000
set_option linter.unusedVariables false
set_option linter.unusedSimpArgs false
namespace Go.Proofs.YtpkmnabefnhcfaaDoor.X
open Go Go.Ab

theorem bI01 (b : Bool) : (bI b 0 1 != 0) = !b := by cases b <;> rfl
theorem bI10 (b : Bool) : (bI b 1 0 == 0) = !b := by cases b <;> rfl
theorem bI11 (b : Bool) : (bI b 1 0 == 1) = b := by cases b <;> rfl
theorem vl_iff {k c : Int} : vl k c = true ↔ (1 ≤ k ∧ k ≤ 4 ∧ -4096 ≤ c ∧ c ≤ 4096) := by simp [vl]
theorem ins_iff {x y : Int} : ins x y = true ↔ (-65536 ≤ x ∧ x ≤ 65536 ∧ -65536 ≤ y ∧ y ≤ 65536) := by simp [ins]
theorem vl_no {k c : Int} : vl k c = false ↔ ¬ (1 ≤ k ∧ k ≤ 4 ∧ -4096 ≤ c ∧ c ≤ 4096) := by rw [← vl_iff]; simp
theorem ins_no {x y : Int} : ins x y = false ↔ ¬ (-65536 ≤ x ∧ x ≤ 65536 ∧ -65536 ≤ y ∧ y ≤ 65536) := by rw [← ins_iff]; simp
theorem ins_sm {x y : Int} (h : ins x y = true) : sm x ∧ sm y := by rw [ins_iff] at h; unfold sm; omega
theorem vl_k {k c : Int} (h : vl k c = true) : (k = 1 ∨ k = 2 ∨ k = 3 ∨ k = 4) ∧ sm c := by rw [vl_iff] at h; unfold sm; omega
theorem vl_c {k c : Int} (h : vl k c = true) : -4096 ≤ c ∧ c ≤ 4096 := by rw [vl_iff] at h; omega
theorem bI_t (x y : Int) : bI true x y = x := rfl
theorem bI_f (x y : Int) : bI false x y = y := rfl

theorem sp11 (k c : Int) : SpecP Tryd.prog G 11 [lnV k c] (.int .i64 (bI (vl k c) 1 0)) [] := by
  refine fnP_spec hcm hmx T0ok ok11 rfl (ob_o11 k c) ?_
  cases h : vl k c <;> simp only [vl_iff, vl_no] at h <;> simp [bI] <;> omega
theorem sp12 (x y : Int) : SpecP Tryd.prog G 12 [ptV x y] (.int .i64 (bI (ins x y) 1 0)) [] := by
  refine fnP_spec hcm hmx T0ok ok12 rfl (ob_o12 x y) ?_
  cases h : ins x y <;> simp only [ins_iff, ins_no] at h <;> simp [bI] <;> omega
theorem sp13 (k c : Int) : SpecP Tryd.prog G 13 [lnV k c] (.int .i64 (bI (vl k c) 0 1)) [] := by
  refine fnP_spec hcm hmx T0ok ok13 rfl (ob_o13 k c) ?_
  cases h : vl k c <;> simp only [vl_iff, vl_no] at h <;> simp [bI] <;> omega
theorem sp14 (x y : Int) : SpecP Tryd.prog G 14 [ptV x y] (.int .i64 (bI (ins x y) 0 1)) [] := by
  refine fnP_spec hcm hmx T0ok ok14 rfl (ob_o14 x y) ?_
  cases h : ins x y <;> simp only [ins_iff, ins_no] at h <;> simp [bI] <;> omega
theorem sp20 (k : Int) : SpecP Tryd.prog G 20 [.int .u8 k] (.tup [.int .i64 (crA k), .int .i64 (crB k)]) [] := by
  refine fnP_spec hcm hmx T0ok ok20 rfl (ob_o20 k) ?_
  simp only [beq_iff_eq, beq_eq_false_iff_ne, crA, crB]
  grind
theorem sp26 (x y : Int) : SpecP Tryd.prog G 26 [.int .i64 x, .int .i64 y] (ptV x y) [] := fnP_spec hcm hmx T0ok ok26 rfl (ob_o26 x y) (by simp)
theorem sp30 (k c : Int) : SpecP Tryd.prog G 30 [.int .u8 k, .int .i64 c] (lnV k c) [] := fnP_spec hcm hmx T0ok ok30 rfl (ob_o30 k c) (by simp)
theorem sp31 : SpecP Tryd.prog G 31 [] rulesV rulesB := fnP_spec hcm hmx T0ok ok31 rfl ob_o31 (by simp)
theorem sp32 (k x y : Int) (hx : sm x) (hy : sm y) : SpecP Tryd.prog G 32 [.int .u8 k, ptV x y] (.int .i64 (acr k x y)) [] := by
  refine fnP_spec hcm hmx T0ok ok32 rfl (ob_o32 k x y) ?_
  unfold sm at hx hy
  simp only [ltb_iff, ltb_no, leb_iff, leb_no, ltn_iff, ltn_no, len'_iff, len'_no, inR_i64, inR_u8, inR_i32, size_ints, size_bools, size_vals, size_cells, getD_drop, List.getElem?_drop, beq_iff_eq, beq_eq_false_iff_ne, bne_iff_ne, bne_eq_false_iff_eq, ne_eq, Nat.zero_add, Nat.add_zero, Nat.mul_one, Int.toNat_natCast, and_true, true_and, List.length_drop, List.length_append, List.length_cons, List.length_nil, List.length_set, List.getD_eq_getElem?_getD, implies_true, iI, iL, Bool.not_eq_true', Bool.not_eq_false', Int.natCast_inj, acr]
  grind
theorem sp38 (c x y : Int) (hc : sm c) (hx : sm x) (hy : sm y) : SpecP Tryd.prog G 38 [.int .i64 c, ptV x y] (ptV (4 * c - x) y) [] := by
  refine fnP_spec hcm hmx T0ok ok38 rfl (ob_o38 c x y) ?_
  unfold sm at hc hx hy
  simp only [ltb_iff, ltb_no, leb_iff, leb_no, ltn_iff, ltn_no, len'_iff, len'_no, inR_i64, inR_u8, inR_i32, size_ints, size_bools, size_vals, size_cells, getD_drop, List.getElem?_drop, beq_iff_eq, beq_eq_false_iff_ne, bne_iff_ne, bne_eq_false_iff_eq, ne_eq, Nat.zero_add, Nat.add_zero, Nat.mul_one, Int.toNat_natCast, and_true, true_and, List.length_drop, List.length_append, List.length_cons, List.length_nil, List.length_set, List.getD_eq_getElem?_getD, implies_true, iI, iL, Bool.not_eq_true', Bool.not_eq_false', Int.natCast_inj]; omega
theorem sp41 (c x y : Int) (hc : sm c) (hx : sm x) (hy : sm y) : SpecP Tryd.prog G 41 [.int .i64 c, ptV x y] (ptV x (4 * c - y)) [] := by
  refine fnP_spec hcm hmx T0ok ok41 rfl (ob_o41 c x y) ?_
  unfold sm at hc hx hy
  simp only [ltb_iff, ltb_no, leb_iff, leb_no, ltn_iff, ltn_no, len'_iff, len'_no, inR_i64, inR_u8, inR_i32, size_ints, size_bools, size_vals, size_cells, getD_drop, List.getElem?_drop, beq_iff_eq, beq_eq_false_iff_ne, bne_iff_ne, bne_eq_false_iff_eq, ne_eq, Nat.zero_add, Nat.add_zero, Nat.mul_one, Int.toNat_natCast, and_true, true_and, List.length_drop, List.length_append, List.length_cons, List.length_nil, List.length_set, List.getD_eq_getElem?_getD, implies_true, iI, iL, Bool.not_eq_true', Bool.not_eq_false', Int.natCast_inj]; omega
theorem sp44 (c x y : Int) (hc : sm c) (hx : sm x) (hy : sm y) : SpecP Tryd.prog G 44 [.int .i64 c, ptV x y] (ptV (2 * c - y) (2 * c - x)) [] := by
  refine fnP_spec hcm hmx T0ok ok44 rfl (ob_o44 c x y) ?_
  unfold sm at hc hx hy
  simp only [ltb_iff, ltb_no, leb_iff, leb_no, ltn_iff, ltn_no, len'_iff, len'_no, inR_i64, inR_u8, inR_i32, size_ints, size_bools, size_vals, size_cells, getD_drop, List.getElem?_drop, beq_iff_eq, beq_eq_false_iff_ne, bne_iff_ne, bne_eq_false_iff_eq, ne_eq, Nat.zero_add, Nat.add_zero, Nat.mul_one, Int.toNat_natCast, and_true, true_and, List.length_drop, List.length_append, List.length_cons, List.length_nil, List.length_set, List.getD_eq_getElem?_getD, implies_true, iI, iL, Bool.not_eq_true', Bool.not_eq_false', Int.natCast_inj]; omega
theorem sp47 (c x y : Int) (hc : sm c) (hx : sm x) (hy : sm y) : SpecP Tryd.prog G 47 [.int .i64 c, ptV x y] (ptV (y - 2 * c) (x + 2 * c)) [] := by
  refine fnP_spec hcm hmx T0ok ok47 rfl (ob_o47 c x y) ?_
  unfold sm at hc hx hy
  simp only [ltb_iff, ltb_no, leb_iff, leb_no, ltn_iff, ltn_no, len'_iff, len'_no, inR_i64, inR_u8, inR_i32, size_ints, size_bools, size_vals, size_cells, getD_drop, List.getElem?_drop, beq_iff_eq, beq_eq_false_iff_ne, bne_iff_ne, bne_eq_false_iff_eq, ne_eq, Nat.zero_add, Nat.add_zero, Nat.mul_one, Int.toNat_natCast, and_true, true_and, List.length_drop, List.length_append, List.length_cons, List.length_nil, List.length_set, List.getD_eq_getElem?_getD, implies_true, iI, iL, Bool.not_eq_true', Bool.not_eq_false', Int.natCast_inj]; omega
theorem sp25 (k c : Int) (h : 0 ≤ k ∧ k ≤ 255 ∧ -128 ≤ c ∧ c ≤ 127) : SpecP Tryd.prog G 25 [.agg [.int .u8 k, .int .i8 c]] (lnV (1 + k.tmod 4) c) [] := by
  refine fnP_spec hcm hmx T0ok ok25 rfl (ob_o25 k c) ?_
  have h1 := Int.tmod_nonneg 4 h.1
  have h2 := Int.tmod_lt_of_pos k (b := 4) (by decide)
  simp only [ltb_iff, ltb_no, leb_iff, leb_no, ltn_iff, ltn_no, len'_iff, len'_no, inR_i64, inR_u8, inR_i32, size_ints, size_bools, size_vals, size_cells, getD_drop, List.getElem?_drop, beq_iff_eq, beq_eq_false_iff_ne, bne_iff_ne, bne_eq_false_iff_eq, ne_eq, Nat.zero_add, Nat.add_zero, Nat.mul_one, Int.toNat_natCast, and_true, true_and, List.length_drop, List.length_append, List.length_cons, List.length_nil, List.length_set, List.getD_eq_getElem?_getD, implies_true, iI, iL, Bool.not_eq_true', Bool.not_eq_false', Int.natCast_inj]; omega
theorem ct11 : CtOk Tryd.prog G 11 e11 := by
  intro args r h hp
  unfold e11 at h
  split at h <;> cases h
  first | exact sp11 | exact sp11 _ | exact sp11 _ _ | exact sp11 _ _ _ | exact sp11 _ _ _ _ | exact sp11 _ _ _ _ _
theorem ct12 : CtOk Tryd.prog G 12 e12 := by
  intro args r h hp
  unfold e12 at h
  split at h <;> cases h
  first | exact sp12 | exact sp12 _ | exact sp12 _ _ | exact sp12 _ _ _ | exact sp12 _ _ _ _ | exact sp12 _ _ _ _ _
theorem ct13 : CtOk Tryd.prog G 13 e13 := by
  intro args r h hp
  unfold e13 at h
  split at h <;> cases h
  first | exact sp13 | exact sp13 _ | exact sp13 _ _ | exact sp13 _ _ _ | exact sp13 _ _ _ _ | exact sp13 _ _ _ _ _
theorem ct14 : CtOk Tryd.prog G 14 e14 := by
  intro args r h hp
  unfold e14 at h
  split at h <;> cases h
  first | exact sp14 | exact sp14 _ | exact sp14 _ _ | exact sp14 _ _ _ | exact sp14 _ _ _ _ | exact sp14 _ _ _ _ _
theorem ct20 : CtOk Tryd.prog G 20 e20 := by
  intro args r h hp
  unfold e20 at h
  split at h <;> cases h
  first | exact sp20 | exact sp20 _ | exact sp20 _ _ | exact sp20 _ _ _ | exact sp20 _ _ _ _ | exact sp20 _ _ _ _ _
theorem ct26 : CtOk Tryd.prog G 26 e26 := by
  intro args r h hp
  unfold e26 at h
  split at h <;> cases h
  first | exact sp26 | exact sp26 _ | exact sp26 _ _ | exact sp26 _ _ _ | exact sp26 _ _ _ _ | exact sp26 _ _ _ _ _
theorem ct30 : CtOk Tryd.prog G 30 e30 := by
  intro args r h hp
  unfold e30 at h
  split at h <;> cases h
  first | exact sp30 | exact sp30 _ | exact sp30 _ _ | exact sp30 _ _ _ | exact sp30 _ _ _ _ | exact sp30 _ _ _ _ _
theorem ct31 : CtOk Tryd.prog G 31 e31 := by
  intro args r h hp
  unfold e31 at h
  split at h <;> cases h
  first | exact sp31 | exact sp31 _ | exact sp31 _ _ | exact sp31 _ _ _ | exact sp31 _ _ _ _ | exact sp31 _ _ _ _ _
theorem ct32 : CtOk Tryd.prog G 32 e32 := by
  intro args r h hp
  unfold e32 at h
  split at h <;> cases h
  obtain ⟨h0, h1⟩ := hp
  first | exact sp32 _ h0 h1 | exact sp32 _ _ h0 h1 | exact sp32 _ _ _ h0 h1 | exact sp32 _ _ _ _ h0 h1
theorem ct38 : CtOk Tryd.prog G 38 e38 := by
  intro args r h hp
  unfold e38 at h
  split at h <;> cases h
  obtain ⟨h0, h1, h2⟩ := hp
  first | exact sp38 _ h0 h1 h2 | exact sp38 _ _ h0 h1 h2 | exact sp38 _ _ _ h0 h1 h2 | exact sp38 _ _ _ _ h0 h1 h2
theorem ct41 : CtOk Tryd.prog G 41 e41 := by
  intro args r h hp
  unfold e41 at h
  split at h <;> cases h
  obtain ⟨h0, h1, h2⟩ := hp
  first | exact sp41 _ h0 h1 h2 | exact sp41 _ _ h0 h1 h2 | exact sp41 _ _ _ h0 h1 h2 | exact sp41 _ _ _ _ h0 h1 h2
theorem ct44 : CtOk Tryd.prog G 44 e44 := by
  intro args r h hp
  unfold e44 at h
  split at h <;> cases h
  obtain ⟨h0, h1, h2⟩ := hp
  first | exact sp44 _ h0 h1 h2 | exact sp44 _ _ h0 h1 h2 | exact sp44 _ _ _ h0 h1 h2 | exact sp44 _ _ _ _ h0 h1 h2
theorem ct47 : CtOk Tryd.prog G 47 e47 := by
  intro args r h hp
  unfold e47 at h
  split at h <;> cases h
  obtain ⟨h0, h1, h2⟩ := hp
  first | exact sp47 _ h0 h1 h2 | exact sp47 _ _ h0 h1 h2 | exact sp47 _ _ _ h0 h1 h2 | exact sp47 _ _ _ _ h0 h1 h2
theorem TAok : TabOk Tryd.prog G TA := tabL_ok noCh_ok ⟨ct11, ct12, ct13, ct14, ct20, ct26, ct30, ct31, ct32, ct38, ct41, ct44, ct47, trivial⟩
theorem sp17 (k c x y : Int) (hv : vl k c = true) (hx : sm x) (hy : sm y) : SpecP Tryd.prog G 17 [lnV k c, ptV x y] (.int .i64 (acr k x y - 2 * c)) [] := by
  refine fnP_spec hcm hmx TAok ok17 rfl (ob_o17 k c x y) ?_
  obtain ⟨hk, hc⟩ := vl_k hv
  unfold sm at hc hx hy
  simp only [ltb_iff, ltb_no, leb_iff, leb_no, ltn_iff, ltn_no, len'_iff, len'_no, inR_i64, inR_u8, inR_i32, size_ints, size_bools, size_vals, size_cells, getD_drop, List.getElem?_drop, beq_iff_eq, beq_eq_false_iff_ne, bne_iff_ne, bne_eq_false_iff_eq, ne_eq, Nat.zero_add, Nat.add_zero, Nat.mul_one, Int.toNat_natCast, and_true, true_and, List.length_drop, List.length_append, List.length_cons, List.length_nil, List.length_set, List.getD_eq_getElem?_getD, implies_true, iI, iL, Bool.not_eq_true', Bool.not_eq_false', Int.natCast_inj]
  rcases hk with rfl | rfl | rfl | rfl <;> simp [acr, crA, crB] <;> omega
theorem sp22 (k c : Int) (hv : vl k c = true) : SpecP Tryd.prog G 22 [lnV k c] (.tup [ptV (onX k c) (onY k c), ptV (onX k c - 2 * crB k) (onY k c + 2 * crA k)]) [] := by
  refine fnP_spec hcm hmx TAok ok22 rfl (ob_o22 k c) ?_
  obtain ⟨hk, hc⟩ := vl_k hv
  unfold sm at hc
  simp only [ltb_iff, ltb_no, leb_iff, leb_no, ltn_iff, ltn_no, len'_iff, len'_no, inR_i64, inR_u8, inR_i32, size_ints, size_bools, size_vals, size_cells, getD_drop, List.getElem?_drop, beq_iff_eq, beq_eq_false_iff_ne, bne_iff_ne, bne_eq_false_iff_eq, ne_eq, Nat.zero_add, Nat.add_zero, Nat.mul_one, Int.toNat_natCast, and_true, true_and, List.length_drop, List.length_append, List.length_cons, List.length_nil, List.length_set, List.getD_eq_getElem?_getD, implies_true, iI, iL, Bool.not_eq_true', Bool.not_eq_false', Int.natCast_inj]
  rcases hk with rfl | rfl | rfl | rfl <;> simp [onX, onY, crA, crB] <;> omega
theorem sp18 (k c x y : Int) : SpecP Tryd.prog G 18 [lnV k c, ptV x y] (.tup [ptV (rfPX k c x y) (rfPY k c x y), .int .i64 (rfE k c x y)]) [] := by
  by_cases hv : vl k c = true ∧ ins x y = true
  · obtain ⟨hv, hi⟩ := hv
    obtain ⟨hk, hc⟩ := vl_k hv
    obtain ⟨hx, hy⟩ := ins_sm hi
    rcases hk with rfl | rfl | rfl | rfl
    · refine fnP_spec hcm hmx TAok ok18 rfl (ob_o18k1 c x y) ?_
      cases hj : ins (4 * c - x) y <;> simp [bI01, hv, hi, hj, hc, hx, hy, rfPX, rfPY, rfE, rfOk, rfX, rfY, bI]
    · refine fnP_spec hcm hmx TAok ok18 rfl (ob_o18k2 c x y) ?_
      cases hj : ins x (4 * c - y) <;> simp [bI01, hv, hi, hj, hc, hx, hy, rfPX, rfPY, rfE, rfOk, rfX, rfY, bI]
    · refine fnP_spec hcm hmx TAok ok18 rfl (ob_o18k3 c x y) ?_
      cases hj : ins (2 * c - y) (2 * c - x) <;> simp [bI01, hv, hi, hj, hc, hx, hy, rfPX, rfPY, rfE, rfOk, rfX, rfY, bI]
    · refine fnP_spec hcm hmx TAok ok18 rfl (ob_o18k4 c x y) ?_
      cases hj : ins (y - 2 * c) (x + 2 * c) <;> simp [bI01, hv, hi, hj, hc, hx, hy, rfPX, rfPY, rfE, rfOk, rfX, rfY, bI]
  · have hn : (vl k c && ins x y) = false := by
      cases h1 : vl k c <;> cases h2 : ins x y <;> simp_all
    have he : (.tup [ptV (rfPX k c x y) (rfPY k c x y), .int .i64 (rfE k c x y)] : AV) = .tup [ptV 0 0, .int .i64 1] := by
      simp [rfPX, rfPY, rfE, rfOk, hn, bI]
    rw [he]
    refine fnP_spec hcm hmx TAok ok18 rfl (ob_o18f k c x y) ?_
    simp [bI01]
    intro h1
    cases h2 : ins x y
    · rfl
    · exact absurd ⟨h1, h2⟩ hv
theorem ct17 : CtOk Tryd.prog G 17 e17 := by
  intro args r h hp
  unfold e17 at h
  split at h <;> cases h
  obtain ⟨h0, h1, h2⟩ := hp
  first | exact sp17 _ h0 h1 h2 | exact sp17 _ _ h0 h1 h2 | exact sp17 _ _ _ h0 h1 h2 | exact sp17 _ _ _ _ h0 h1 h2
theorem ct18 : CtOk Tryd.prog G 18 e18 := by
  intro args r h hp
  unfold e18 at h
  split at h <;> cases h
  first | exact sp18 | exact sp18 _ | exact sp18 _ _ | exact sp18 _ _ _ | exact sp18 _ _ _ _ | exact sp18 _ _ _ _ _
theorem ct22 : CtOk Tryd.prog G 22 e22 := by
  intro args r h hp
  unfold e22 at h
  split at h <;> cases h
  first | exact sp22 _ hp | exact sp22 _ _ hp | exact sp22 _ _ _ hp | exact sp22 _ _ _ _ hp
end Go.Proofs.YtpkmnabefnhcfaaDoor.X
