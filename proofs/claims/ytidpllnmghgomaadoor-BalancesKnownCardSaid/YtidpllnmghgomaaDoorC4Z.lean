/-
  The contracts of counts, ranges, choices.
-/
import Derived.Test.YtidpllnmghgomaaDoorO2Z
import Derived.Test.YtidpllnmghgomaaDoorC3Z
set_option maxRecDepth 1000000
set_option linter.unusedVariables false
set_option linter.unusedSimpArgs false
namespace Go.Proofs.YtidpllnmghgomaaDoor.X
open Go Go.Ab

theorem cntK_bound : ∀ (k : List Int) (x : Int), 0 ≤ cntK k x ∧ cntK k x ≤ k.length
  | [], x => by simp [cntK]
  | a :: r, x => by
    have := cntK_bound r x
    simp only [cntK, List.length_cons]
    cases a == x <;> simp <;> omega
theorem cntK_step {k : List Int} {n : Nat} {x : Int} (h : n < k.length) : cntK (k.drop n) x = (if k[n]?.getD 0 = x then 1 else 0) + cntK (k.drop (n + 1)) x := by
  rw [List.drop_eq_getElem_cons h]
  simp only [cntK, List.getElem?_eq_getElem h, Option.getD_some]
  by_cases e : k[n] = x
  · rw [if_pos e, e]; simp
  · rw [if_neg e, beq_eq_false_iff_ne.2 e]; rfl
theorem sp23 (a k : List Int) (x : Int) (hl : k.length < 1000000000000) : SpecP Tryd.prog G 23 [fanV a k, .int .u8 x] (.int .i64 (cntK k x)) [] := by
  refine fnP_spec hcm hmx T0ok ok23 rfl (ob_o23 a k x) ?_
  simp only [ltb_iff, ltb_no, leb_iff, leb_no, ltn_iff, ltn_no, len'_iff, len'_no, inR_i64, inR_u8, inR_i32, size_ints, size_bools, size_vals, size_cells, getD_drop, List.getElem?_drop, beq_iff_eq, beq_eq_false_iff_ne, bne_iff_ne, bne_eq_false_iff_eq, ne_eq, Nat.zero_add, Nat.add_zero, Nat.mul_one, Int.toNat_natCast, and_true, true_and, List.length_drop, List.length_append, List.length_cons, List.length_nil, List.length_set, List.getD_eq_getElem?_getD, implies_true, iI, iL, Bool.not_eq_true', Bool.not_eq_false', Int.natCast_inj]
  refine ⟨⟨0, rfl, by omega, by omega, by omega, by simp⟩, ?_⟩
  rintro ⟨i, s⟩ ⟨n, rfl, hn, h0, h1, hs⟩
  simp only [Int.toNat_natCast] at h0 h1 hs ⊢
  refine ⟨fun hlt => ?_, fun hge => ?_⟩
  · have hlt' : n < k.length := by omega
    have hst := cntK_step (x := x) hlt'
    refine ⟨by omega, by omega, by omega, by omega, fun he => ?_, fun he => ?_⟩
    · rw [if_pos he] at hst
      exact ⟨by omega, by omega, ⟨n + 1, by omega, by omega, by omega, by omega, by omega⟩, by omega⟩
    · rw [if_neg he] at hst
      exact ⟨by omega, ⟨n + 1, by omega, by omega, by omega, by omega, by omega⟩, by omega⟩
  · have : n = k.length := by omega
    subst this
    simp [cntK] at hs
    exact hs
theorem sp26 (a : List Int) : SpecP Tryd.prog G 26 [.imm (.ints .i64 a) a.length none] (.imm (.ints .i64 a) a.length (some a.length)) [] := by
  refine fnP_spec hcm hmx T0ok ok26 rfl (ob_o26 a a.length) ?_
  simp [Cont.size]
theorem ct23 : CtOk Tryd.prog G 23 e23 := by
  intro args r h hp
  unfold e23 at h
  split at h <;> cases h
  obtain ⟨rfl, rfl, hl⟩ := hp
  exact (sp23 _ _ _ hl).caps
theorem ct26 : CtOk Tryd.prog G 26 e26 := by
  intro args r h hp
  unfold e26 at h
  split at h <;> cases h
  obtain rfl := hp
  exact (sp26 _).caps
theorem isOk_t {a k : List Int} (h : chk a k = 0) : isOk a k = true := by simp [isOk, h]
theorem isOk_f {a k : List Int} (h : chk a k ≠ 0) : isOk a k = false := by simp [isOk, h]
theorem chk_len {a k : List Int} (h : chk a k = 0) : a.length = k.length := by
  unfold chk at h
  split at h
  · assumption
  · cases h
theorem tl4ok : CtsOk Tryd.prog G tl4 := ⟨ct23, ct26, tl3ok⟩
theorem T4ok : TabOk Tryd.prog G T4 := tabL_ok noCh_ok tl4ok
theorem sp10 (a k : List Int) (hl : a.length < 1000000000000) : SpecP Tryd.prog G 10 [fanV a k] (.tup [.int .i64 (bI (isOk a k) (dif k - cntK k 3) 0), .int .i64 (bI (isOk a k) (dif k + cntK k 3) 0), .int .i64 (chk a k)]) [] := by
  refine fnP_spec hcm hmx T4ok ok10 rfl (ob_o10 a k) ?_
  simp only [ltb_iff, ltb_no, leb_iff, leb_no, ltn_iff, ltn_no, len'_iff, len'_no, inR_i64, inR_u8, inR_i32, size_ints, size_bools, size_vals, size_cells, getD_drop, List.getElem?_drop, beq_iff_eq, beq_eq_false_iff_ne, bne_iff_ne, bne_eq_false_iff_eq, ne_eq, Nat.zero_add, Nat.add_zero, Nat.mul_one, Int.toNat_natCast, and_true, true_and, List.length_drop, List.length_append, List.length_cons, List.length_nil, List.length_set, List.getD_eq_getElem?_getD, implies_true, iI, iL, Bool.not_eq_true', Bool.not_eq_false', Int.natCast_inj]
  refine ⟨hl, fun h => ?_, fun h => ?_⟩
  · rw [isOk_f h]; exact ⟨rfl, rfl⟩
  · have hk := chk_len h
    have h1 := cntK_bound k 1
    have h2 := cntK_bound k 2
    have h3 := cntK_bound k 3
    rw [isOk_t h]
    refine ⟨by omega, by omega, by omega, by omega, by omega, by omega, ?_, ?_, h.symm⟩ <;> rfl
theorem chL_len (d t : Int) : ∀ n, (chL d t n).length ≤ n
  | 0 => by simp [chL]
  | n + 1 => by
    have := chL_len d t n
    simp only [chL]
    split
    · simp; omega
    · omega
theorem sp24 (a k : List Int) (hl : k.length < 1000000000000) : SpecP Tryd.prog G 24 [fanV a k] (.imm (.ints .i64 (chs a k)) (chs a k).length (some (chs a k).length)) [] := by
  refine fnP_spec hcm hmx T4ok ok24 rfl (ob_o24 a k) ?_
  simp only [ltb_iff, ltb_no, leb_iff, leb_no, ltn_iff, ltn_no, len'_iff, len'_no, inR_i64, inR_u8, inR_i32, size_ints, size_bools, size_vals, size_cells, getD_drop, List.getElem?_drop, beq_iff_eq, beq_eq_false_iff_ne, bne_iff_ne, bne_eq_false_iff_eq, ne_eq, Nat.zero_add, Nat.add_zero, Nat.mul_one, Int.toNat_natCast, and_true, true_and, List.length_drop, List.length_append, List.length_cons, List.length_nil, List.length_set, List.getD_eq_getElem?_getD, implies_true, iI, iL, Bool.not_eq_true', Bool.not_eq_false', Int.natCast_inj]
  have h1 := cntK_bound k 1
  have h2 := cntK_bound k 2
  have h3 := cntK_bound k 3
  refine ⟨fun h => ?_, fun h => ?_⟩
  · have : a.length = 0 := by omega
    simp [chs, this]
  have hc : chs a k = chL (cntK k 1 - cntK k 2) (cntK k 3) ((cntK k 3).toNat + 1) := by
    unfold chs; rw [if_neg (by omega)]; rfl
  refine ⟨hl, hl, by omega, hl, by omega, ⟨0, rfl, by omega, by omega, rfl⟩, ?_⟩
  rintro ⟨i, l⟩ ⟨n, rfl, hn, hll, rfl⟩
  simp only [Int.toNat_natCast] at hll ⊢
  have hstep : ∀ c : Prop, (cntK k 1 - cntK k 2 + 2 * (n : Int) - cntK k 3 = 2 ∨ cntK k 1 - cntK k 2 + 2 * (n : Int) - cntK k 3 = -2) → chL (cntK k 1 - cntK k 2) (cntK k 3) n ++ [(n : Int)] = chL (cntK k 1 - cntK k 2) (cntK k 3) (n + 1) := fun _ h => by
    simp only [chL]; rw [if_pos h]
  refine ⟨fun hlt => ⟨by omega, by omega, by omega, fun h2 => ?_, fun h2 => ⟨fun h4 => ?_, fun h4 => ?_⟩⟩, fun hge => ?_⟩
  · exact ⟨by omega, by omega, ⟨n + 1, by omega, by omega, by simp; omega, hstep True (.inl h2)⟩, by omega⟩
  · exact ⟨by omega, by omega, ⟨n + 1, by omega, by omega, by simp; omega, hstep True (.inr h4)⟩, by omega⟩
  · exact ⟨by omega, ⟨n + 1, by omega, by omega, by omega, by simp only [chL]; rw [if_neg (by omega)]⟩, by omega⟩
  · have hn' : n = (cntK k 3).toNat + 1 := by omega
    rw [hc, ← hn']
    simp
theorem ct10 : CtOk Tryd.prog G 10 e10 := by
  intro args r h hp
  unfold e10 at h
  split at h <;> cases h
  obtain ⟨rfl, rfl, hl⟩ := hp
  exact (sp10 _ _ hl).caps
theorem ct24 : CtOk Tryd.prog G 24 e24 := by
  intro args r h hp
  unfold e24 at h
  split at h <;> cases h
  obtain ⟨rfl, rfl, hl⟩ := hp
  exact (sp24 _ _ hl).caps
theorem tl5ok : CtsOk Tryd.prog G tl5 := ⟨ct24, tl4ok⟩
theorem T5ok : TabOk Tryd.prog G T5 := tabL_ok noCh_ok tl5ok
theorem sp11 (a k : List Int) (hl : a.length < 1000000000000) (hc : chk a k = 0) : SpecP Tryd.prog G 11 [fanV a k] (.tup [.imm (.ints .i64 (chs a k)) (chs a k).length (some (chs a k).length), .int .i64 0]) [] := by
  refine fnP_spec hcm hmx T5ok ok11 rfl (ob_o11 a k) ?_
  simp only [ltb_iff, ltb_no, leb_iff, leb_no, ltn_iff, ltn_no, len'_iff, len'_no, inR_i64, inR_u8, inR_i32, size_ints, size_bools, size_vals, size_cells, getD_drop, List.getElem?_drop, beq_iff_eq, beq_eq_false_iff_ne, bne_iff_ne, bne_eq_false_iff_eq, ne_eq, Nat.zero_add, Nat.add_zero, Nat.mul_one, Int.toNat_natCast, and_true, true_and, List.length_drop, List.length_append, List.length_cons, List.length_nil, List.length_set, List.getD_eq_getElem?_getD, implies_true, iI, iL, Bool.not_eq_true', Bool.not_eq_false', Int.natCast_inj]
  exact ⟨hl, hc, by rw [← chk_len hc]; exact hl⟩
theorem sp11n (a k : List Int) (hl : a.length < 1000000000000) (hc : chk a k ≠ 0) : SpecP Tryd.prog G 11 [fanV a k] (.tup [.nils, .int .i64 (chk a k)]) [] := by
  refine fnP_spec hcm hmx T5ok ok11 rfl (ob_o11n a k) ?_
  simp only [ltb_iff, ltb_no, leb_iff, leb_no, ltn_iff, ltn_no, len'_iff, len'_no, inR_i64, inR_u8, inR_i32, size_ints, size_bools, size_vals, size_cells, getD_drop, List.getElem?_drop, beq_iff_eq, beq_eq_false_iff_ne, bne_iff_ne, bne_eq_false_iff_eq, ne_eq, Nat.zero_add, Nat.add_zero, Nat.mul_one, Int.toNat_natCast, and_true, true_and, List.length_drop, List.length_append, List.length_cons, List.length_nil, List.length_set, List.getD_eq_getElem?_getD, implies_true, iI, iL, Bool.not_eq_true', Bool.not_eq_false', Int.natCast_inj]
  exact ⟨hl, hc⟩
end Go.Proofs.YtidpllnmghgomaaDoor.X
