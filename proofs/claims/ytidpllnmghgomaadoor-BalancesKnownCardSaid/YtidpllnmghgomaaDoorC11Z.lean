/-
  The contracts of fans turned, mirrored, turned over; the law on what they lack.
-/
import Derived.Test.YtidpllnmghgomaaDoorO8Z
import Derived.Test.YtidpllnmghgomaaDoorP1Z
set_option maxRecDepth 1000000
set_option linter.unusedVariables false
set_option linter.unusedSimpArgs false
namespace Go.Proofs.YtidpllnmghgomaaDoor.X
open Go Go.Ab

theorem sp34 (a : List Int) (hl : a.length < 100000000000) : SpecP Tryd.prog G 34 [.imm (.ints .i64 a) a.length none] (.imm (.ints .i64 a.reverse) a.length none) [] := by
  by_cases h : a = []
  · subst h
    refine fnP_spec hcm hmx TZ34ok ok34 rfl ob_o34z ?_
    simp
  · refine fnP_spec hcm hmx TP34ok ok34 rfl (ob_o34p a) ?_
    have : 0 < a.length := List.length_pos_iff.2 h
    simp [this, hl]
    omega
theorem sp35 (a : List Int) (hl : a.length < 100000000000) : SpecP Tryd.prog G 35 [.imm (.ints .u8 a) a.length none] (.imm (.ints .u8 a.reverse) a.length none) [] := by
  by_cases h : a = []
  · subst h
    refine fnP_spec hcm hmx TZ34ok ok35 rfl ob_o35z ?_
    simp
  · refine fnP_spec hcm hmx TP35ok ok35 rfl (ob_o35p a) ?_
    have : 0 < a.length := List.length_pos_iff.2 h
    simp [this, hl]
    omega
theorem ct34 : CtOk Tryd.prog G 34 (eTurned .i64) := by
  intro args r h hp
  unfold eTurned at h
  split at h
  · rw [cond_eq_ite] at h
    split at h
    · rename_i hk
      cases h
      cases beqK_ok hk
      obtain ⟨rfl, hl⟩ := hp
      exact (sp34 _ hl).caps
    · cases h
  · cases h
theorem ct35 : CtOk Tryd.prog G 35 (eTurned .u8) := by
  intro args r h hp
  unfold eTurned at h
  split at h
  · rw [cond_eq_ite] at h
    split at h
    · rename_i hk
      cases h
      cases beqK_ok hk
      obtain ⟨rfl, hl⟩ := hp
      exact (sp35 _ hl).caps
    · cases h
  · cases h
theorem tlCok : CtsOk Tryd.prog G tlC := ⟨ct32, ct33, ct34, ct35, tlBok⟩
theorem TCok : TabOk Tryd.prog G TC := tabL_ok noCh_ok tlCok
theorem sp20 (a k : List Int) (i : Int) (hl : a.length < 100000000000) (hc : chk a k = 0) (h0 : 0 ≤ i) (h1 : i < a.length) : SpecP Tryd.prog G 20 [fanV a k, .int .i64 i] (.tup [.agg [.full 0 (rotL a i.toNat).length, .full 1 (rotL k i.toNat).length], .int .i64 0]) [blkN .i64 (rotL a i.toNat), blkN .u8 (rotL k i.toNat)] := by
  refine fnP_spec hcm hmx TCok ok20 rfl (ob_o20 a k i) ?_
  have hk := chk_len hc
  simp only [ltb_iff, ltb_no, leb_iff, leb_no, ltn_iff, ltn_no, len'_iff, len'_no, inR_i64, inR_u8, inR_i32, size_ints, size_bools, size_vals, size_cells, getD_drop, List.getElem?_drop, beq_iff_eq, beq_eq_false_iff_ne, bne_iff_ne, bne_eq_false_iff_eq, ne_eq, Nat.zero_add, Nat.add_zero, Nat.mul_one, Int.toNat_natCast, and_true, true_and, List.length_drop, List.length_append, List.length_cons, List.length_nil, List.length_set, List.getD_eq_getElem?_getD, implies_true, iI, iL, Bool.not_eq_true', Bool.not_eq_false', Int.natCast_inj, len_rot]
  refine ⟨by omega, hc, by omega, ?_, by omega, by omega⟩
  split <;> omega
theorem sp21p (a k : List Int) (hl : a.length < 100000000000) (h0 : 0 < k.length) (hk : k.length < 100000000000) : SpecP Tryd.prog G 21 [fanV a k] (.agg [.imm (.ints .i64 a.reverse) a.length none, .full 0 (mirK k).length]) [blkN .u8 (mirK k)] := by
  refine fnP_spec hcm hmx TCok ok21 rfl (ob_o21p a k) ?_
  have e : ((k.length : Int) - 1).toNat = k.length - 1 := by omega
  simp only [ltb_iff, ltb_no, leb_iff, leb_no, ltn_iff, ltn_no, len'_iff, len'_no, inR_i64, inR_u8, inR_i32, size_ints, size_bools, size_vals, size_cells, getD_drop, List.getElem?_drop, beq_iff_eq, beq_eq_false_iff_ne, bne_iff_ne, bne_eq_false_iff_eq, ne_eq, Nat.zero_add, Nat.add_zero, Nat.mul_one, Int.toNat_natCast, and_true, true_and, List.length_drop, List.length_append, List.length_cons, List.length_nil, List.length_set, List.getD_eq_getElem?_getD, implies_true, iI, iL, Bool.not_eq_true', Bool.not_eq_false', Int.natCast_inj, List.length_reverse, e, mirK]
  omega
theorem sp21 (a k : List Int) (hl : a.length < 100000000000) (hk : k.length < 100000000000) : SpecP Tryd.prog G 21 [fanV a k] (.agg [.imm (.ints .i64 a.reverse) a.length none, .imm (.ints .u8 (mirK k)) (mirK k).length none]) [] := by
  by_cases h : k = []
  · subst h
    refine fnP_spec hcm hmx TCok ok21 rfl (ob_o21z a []) ?_
    simp [hl, mirK, rotL]
  · refine fnP_spec hcm hmx TCok ok21 rfl (ob_o21f a k) ?_
    have : 0 < k.length := List.length_pos_iff.2 h
    have e : ((k.length : Int) - 1).toNat = k.length - 1 := by omega
    simp only [ltb_iff, ltb_no, leb_iff, leb_no, ltn_iff, ltn_no, len'_iff, len'_no, inR_i64, inR_u8, inR_i32, size_ints, size_bools, size_vals, size_cells, getD_drop, List.getElem?_drop, beq_iff_eq, beq_eq_false_iff_ne, bne_iff_ne, bne_eq_false_iff_eq, ne_eq, Nat.zero_add, Nat.add_zero, Nat.mul_one, Int.toNat_natCast, and_true, true_and, List.length_drop, List.length_append, List.length_cons, List.length_nil, List.length_set, List.getD_eq_getElem?_getD, implies_true, iI, iL, Bool.not_eq_true', Bool.not_eq_false', Int.natCast_inj, List.length_reverse, e, mirK]
    omega
theorem ct21p : CtOk Tryd.prog G 21 e21p := by
  intro args r h hp
  unfold e21p at h
  split at h <;> cases h
  obtain ⟨rfl, rfl, h1, h2, h3⟩ := hp
  exact (sp21p _ _ h1 h2 h3).caps
theorem ct21 : CtOk Tryd.prog G 21 e21 := by
  intro args r h hp
  unfold e21 at h
  split at h <;> cases h
  obtain ⟨rfl, rfl, h1, h2⟩ := hp
  exact (sp21 _ _ h1 h2).caps
theorem ct20 : CtOk Tryd.prog G 20 e20m := by
  intro args r h hp
  unfold e20m at h
  split at h <;> cases h
  obtain ⟨rfl, rfl, h1, h2, h3, h4⟩ := hp
  exact (sp20 _ _ _ h1 h2 h3 h4).caps
theorem TOok : TabOk Tryd.prog G TO := tabL_ok noCh_ok ⟨ct21p, tlCok⟩
theorem TOzok : TabOk Tryd.prog G TOz := tabL_ok noCh_ok ⟨ct21, tlCok⟩
theorem ov_step {k : List Int} {n : Nat} (h : n < k.length) : ((ovK k).take n ++ k.drop n)[n]?.getD 0 = k[n]?.getD 0 ∧ ∀ v, v = (if k[n]?.getD 0 = 1 ∨ k[n]?.getD 0 = 2 then 3 - k[n]?.getD 0 else k[n]?.getD 0) → ((ovK k).take n ++ k.drop n).set n v = (ovK k).take (n + 1) ++ k.drop (n + 1) := by
  have hl : ((ovK k).take n).length = n := by rw [List.length_take, len_ov]; omega
  have e1 : k.drop n = k[n]?.getD 0 :: k.drop (n + 1) := drop_step h
  refine ⟨?_, fun v hv => ?_⟩
  · rw [List.getElem?_append_right (by omega), hl, Nat.sub_self, e1]; rfl
  · have e2 : (ovK k).take (n + 1) = (ovK k).take n ++ [v] := by
      rw [List.take_add_one, hv, ← ov_get h, List.getElem?_eq_getElem (by rw [len_ov]; exact h)]; rfl
    rw [e1, e2, List.set_append_right _ _ (by omega), hl, Nat.sub_self, List.set_cons_zero, List.append_assoc]; rfl
theorem sp22 (a k : List Int) (hl : a.length < 100000000000) (hk : k.length < 100000000000) : SpecP Tryd.prog G 22 [fanV a k] (.agg [.imm (.ints .i64 a.reverse) a.length none, .imm (.ints .u8 (ovK (mirK k))) (ovK (mirK k)).length none]) [] := by
  by_cases h : k = []
  · subst h
    refine fnP_spec hcm hmx TOzok ok22 rfl (ob_o22z a) ?_
    simp [hl, mirK, rotL]
  · have h0 : 0 < k.length := List.length_pos_iff.2 h
    have hm := len_mir k
    refine fnP_spec hcm hmx TOok ok22 rfl (ob_o22 a k) ?_
    generalize hM : mirK k = M at *
    simp only [ltb_iff, ltb_no, leb_iff, leb_no, ltn_iff, ltn_no, len'_iff, len'_no, inR_i64, inR_u8, inR_i32, size_ints, size_bools, size_vals, size_cells, getD_drop, List.getElem?_drop, beq_iff_eq, beq_eq_false_iff_ne, bne_iff_ne, bne_eq_false_iff_eq, ne_eq, Nat.zero_add, Nat.add_zero, Nat.mul_one, Int.toNat_natCast, and_true, true_and, List.length_drop, List.length_append, List.length_cons, List.length_nil, List.length_set, List.getD_eq_getElem?_getD, implies_true, iI, iL, Bool.not_eq_true', Bool.not_eq_false', Int.natCast_inj, len_ov]
    refine ⟨by omega, ⟨0, rfl, by omega, by simp⟩, ?_⟩
    rintro ⟨i, l⟩ ⟨n, rfl, h1, rfl⟩
    have hlen : ((ovK M).take n ++ M.drop n).length = M.length := by simp [len_ov]; omega
    simp only [Int.toNat_natCast, hlen, true_and, and_true, List.length_set]
    refine ⟨fun hlt => ?_, fun hge => ?_⟩
    · obtain ⟨g1, g2⟩ := ov_step (k := M) (n := n) (by omega)
      rw [g1]
      refine ⟨by omega, by omega, by omega, fun c1 => ?_, fun c1 => ⟨fun c2 => ?_, fun c2 => ?_⟩⟩
      · exact ⟨by omega, by omega, by omega, by omega, by omega, ⟨n + 1, by omega, by omega, g2 _ (by rw [if_pos (.inl c1)])⟩, by omega⟩
      · exact ⟨by omega, by omega, by omega, by omega, by omega, ⟨n + 1, by omega, by omega, g2 _ (by rw [if_pos (.inr c2)])⟩, by omega⟩
      · refine ⟨by omega, ⟨n + 1, by omega, by omega, ?_⟩, by omega⟩
        rw [← g2 _ rfl, if_neg (by omega), ← g1]
        apply Eq.symm
        rw [List.getElem?_eq_getElem (by omega)]
        exact List.set_getElem_self _
    · have : n = M.length := by omega
      subst this
      rw [List.take_of_length_le (by rw [len_ov]; omega), List.drop_length, List.append_nil]
theorem ct22 : CtOk Tryd.prog G 22 e22 := by
  intro args r h hp
  unfold e22 at h
  split at h <;> cases h
  obtain ⟨rfl, rfl, h1, h2⟩ := hp
  exact (sp22 _ _ h1 h2).caps
theorem tlDok : CtsOk Tryd.prog G tlD := ⟨ct20, ct21, ct22, tl9ok⟩
theorem TDok : TabOk Tryd.prog G TD := tabL_ok noCh_ok tlDok
end Go.Proofs.YtidpllnmghgomaaDoor.X
