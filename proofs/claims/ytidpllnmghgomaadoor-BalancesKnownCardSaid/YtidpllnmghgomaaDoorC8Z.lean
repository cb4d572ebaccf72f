/-
  The contracts of what a fan lacks; the law on errors.
-/
import Derived.Test.YtidpllnmghgomaaDoorO6Z
import Derived.Test.YtidpllnmghgomaaDoorC7Z
set_option maxRecDepth 1000000
set_option linter.unusedVariables false
set_option linter.unusedSimpArgs false
namespace Go.Proofs.YtidpllnmghgomaaDoor.X
open Go Go.Ab

theorem sy84 (a k : List Int) (x : Int) : SpecD Tryd.prog G (.yld 9002) [.int .i64 x] (H84 a k) (.bool false) (W84 a k) [] := by
  refine fnY_spec hcm hmx T0ok (ob_y_84 a k x) ?_
  simp
theorem ch84ok (a k : List Int) : ChOk Tryd.prog G (ch84 a k) := by
  intro h cv args r hr hp
  unfold ch84 at hr
  split at hr
  · rename_i id x
    rw [cond_eq_ite] at hr
    split at hr
    · rename_i hid
      cases hr
      obtain rfl := hp
      have := Nat.eq_of_beq_eq_true hid
      subst this
      exact sy84 a k x
    · cases hr
  · cases hr
theorem TZok (a k : List Int) : TabOk Tryd.prog G (TZ a k) := tabL_ok (ch84ok a k) trivial
theorem shpL_nil {a k : List Int} : ∀ {n : Nat}, shpL a k n = [] → ∀ m, m < n → shB a k m = false
  | 0, _, m, hm => by omega
  | n + 1, h, m, hm => by
    simp only [shpL] at h
    split at h
    · simp at h
    · rename_i hb
      by_cases e : m = n
      · subst e; simpa using hb
      · exact shpL_nil h m (by omega)
theorem shpL_ne {a k : List Int} : ∀ {n : Nat}, shpL a k n ≠ [] → ∃ m, m < n ∧ shB a k m = true
  | 0, h => absurd rfl h
  | n + 1, h => by
    simp only [shpL] at h
    split at h
    · rename_i hb; exact ⟨n, by omega, hb⟩
    · obtain ⟨m, h1, h2⟩ := shpL_ne h
      exact ⟨m, by omega, h2⟩
theorem ltb_dec (x y : Int) : ltb x y = decide (x < y) := by
  by_cases h : x < y
  · rw [decide_eq_true h]; exact ltb_iff.2 h
  · rw [decide_eq_false h]; exact ltb_no.2 (by omega)
theorem mods {n m : Nat} (h : n < m) : ((n : Int) + 1).tmod (m : Int) = (((n + 1) % m : Nat) : Int) ∧ ((n : Int) + (m : Int) - 1).tmod (m : Int) = (((n + m - 1) % m : Nat) : Int) := by
  refine ⟨(Int.ofNat_tmod (n + 1) m).symm, ?_⟩
  have e : ((n + m - 1 : Nat) : Int) = (n : Int) + (m : Int) - 1 := by omega
  rw [Int.ofNat_tmod, e]
theorem sp38n (a k : List Int) (hk : a.length = k.length) (hl : a.length < 1000000000000) (hs : shps a k = []) : SpecD Tryd.prog G (.fn 38 [] []) [.yld 9002, .iptr (fanC a k)] (H84 a k) (.tup []) [] [] := by
  refine fnD_spec hcm hmx T0ok ok38 rfl (ob_d_38n a k) ?_
  simp only [ltb_iff, ltb_no, leb_iff, leb_no, ltn_iff, ltn_no, len'_iff, len'_no, inR_i64, inR_u8, inR_i32, size_ints, size_bools, size_vals, size_cells, getD_drop, List.getElem?_drop, beq_iff_eq, beq_eq_false_iff_ne, bne_iff_ne, bne_eq_false_iff_eq, ne_eq, Nat.zero_add, Nat.add_zero, Nat.mul_one, Int.toNat_natCast, and_true, true_and, List.length_drop, List.length_append, List.length_cons, List.length_nil, List.length_set, List.getD_eq_getElem?_getD, implies_true, iI, iL, Bool.not_eq_true', Bool.not_eq_false', Int.natCast_inj]
  have hS : 4 ≤ a.length → shpL a k a.length = [] := fun h => by
    unfold shps at hs; rw [if_neg (by omega)] at hs; exact hs
  refine fun hm => ⟨⟨0, rfl, by omega⟩, ?_⟩
  have hno := shpL_nil (hS (by omega))
  rintro ⟨i⟩ ⟨n, rfl, hn⟩ hlt
  have hlt' : n < a.length := by simp only at hlt; omega
  obtain ⟨hj, hp⟩ := mods hlt'
  have hj2 := Nat.mod_lt (n + 1) (show 0 < a.length by omega)
  have hp2 := Nat.mod_lt (n + a.length - 1) (show 0 < a.length by omega)
  have hb := hno n hlt'
  have hne : a ≠ [] := by rintro rfl; simp at hm
  have hex : ∃ m : Nat, (n : Int) + 1 = m ∧ m ≤ a.length := ⟨n + 1, by omega, by omega⟩
  simp only [Int.toNat_natCast, hj, hp]
  simp only [shB, ← ltb_dec] at hb
  generalize (n + 1) % a.length = j at *
  generalize (n + a.length - 1) % a.length = p at *
  simp only [← ltb_iff]
  generalize ltb (a[n]?.getD 0) (a[j]?.getD 0) = c1 at *
  generalize ltb (a[n]?.getD 0) (a[p]?.getD 0) = c2 at *
  cases c1 <;> cases c2 <;> simp at hb ⊢ <;> repeat' apply And.intro
  all_goals first | omega | exact hne | exact hex | (intros; omega) | (intros; simp_all; done)
theorem sp38y (a k : List Int) (hk : a.length = k.length) (hl : a.length < 1000000000000) (hs : shps a k ≠ []) : SpecD Tryd.prog G (.fn 38 [] []) [.yld 9002, .iptr (fanC a k)] (H84 a k) (.tup []) (W84 a k) [] := by
  refine fnD_spec hcm hmx (TZok a k) ok38 rfl (ob_d_38y a k) ?_
  have h4 : ¬ a.length < 4 := fun h => hs (by unfold shps; rw [if_pos h])
  obtain ⟨m0, hm0, hb0⟩ := shpL_ne (show shpL a k a.length ≠ [] by unfold shps at hs; rw [if_neg h4] at hs; exact hs)
  simp only [ltb_iff, ltb_no, leb_iff, leb_no, ltn_iff, ltn_no, len'_iff, len'_no, inR_i64, inR_u8, inR_i32, size_ints, size_bools, size_vals, size_cells, getD_drop, List.getElem?_drop, beq_iff_eq, beq_eq_false_iff_ne, bne_iff_ne, bne_eq_false_iff_eq, ne_eq, Nat.zero_add, Nat.add_zero, Nat.mul_one, Int.toNat_natCast, and_true, true_and, List.length_drop, List.length_append, List.length_cons, List.length_nil, List.length_set, List.getD_eq_getElem?_getD, implies_true, iI, iL, Bool.not_eq_true', Bool.not_eq_false', Int.natCast_inj]
  refine ⟨fun h => by omega, fun hm => ⟨⟨0, m0, rfl, by omega, hm0, hb0⟩, ?_⟩⟩
  rintro ⟨i⟩ ⟨n, m, rfl, hnm, hma, hbm⟩
  have hlt' : n < a.length := by omega
  obtain ⟨hj, hp⟩ := mods hlt'
  have hj2 := Nat.mod_lt (n + 1) (show 0 < a.length by omega)
  have hp2 := Nat.mod_lt (n + a.length - 1) (show 0 < a.length by omega)
  have hne : a ≠ [] := by rintro rfl; simp at hm
  simp only [Int.toNat_natCast, hj, hp]
  refine ⟨by omega, by omega, by omega, by omega, by omega, by omega, by omega, fun hb => ?_, fun hb => ?_⟩
  · simp only [shB, Bool.and_eq_true, decide_eq_true_eq, beq_iff_eq, bne_iff_ne, ne_eq] at hb
    obtain ⟨b1, b2, b3, b4⟩ := hb
    have b5 : ¬ k[(n + 1) % a.length]?.getD 0 = 3 := by rw [← b3]; exact b4
    simp only [b1, b2, b3, b4, b5, not_false_eq_true, true_and, and_true]
    generalize (n + 1) % a.length = j at *
    generalize (n + a.length - 1) % a.length = p at *
    repeat' apply And.intro
    all_goals omega
  · have hex : ∃ n' m' : Nat, (n : Int) + 1 = n' ∧ n' ≤ m' ∧ m' < a.length ∧ shB a k m' = true := by
      refine ⟨n + 1, m, by omega, ?_, hma, hbm⟩
      have : n ≠ m := by rintro rfl; rw [hb] at hbm; cases hbm
      omega
    simp only [shB, ← ltb_dec] at hb
    generalize (n + 1) % a.length = j at *
    generalize (n + a.length - 1) % a.length = p at *
    simp only [← ltb_iff]
    generalize ltb (a[n]?.getD 0) (a[j]?.getD 0) = c1 at *
    generalize ltb (a[n]?.getD 0) (a[p]?.getD 0) = c2 at *
    clear hbm
    cases c1 <;> cases c2 <;> simp at hb ⊢ <;> repeat' apply And.intro
    all_goals first | omega | exact hne | exact hex | (intros; omega) | (intros; simp_all; done)
theorem ch38nok : ChOk Tryd.prog G ch38n := by
  intro h cv args r hr hp
  unfold ch38n at hr
  split at hr
  · rw [cond_eq_ite] at hr
    split at hr
    · rename_i hid
      rw [Bool.and_eq_true] at hid
      cases hr
      obtain ⟨rfl, rfl, rfl, hk, hl, hs⟩ := hp
      have h1 := Nat.eq_of_beq_eq_true hid.1
      have h2 := Nat.eq_of_beq_eq_true hid.2
      subst h1 h2
      exact sp38n _ _ hk hl hs
    · cases hr
  · cases hr
theorem ch38yok : ChOk Tryd.prog G ch38y := by
  intro h cv args r hr hp
  unfold ch38y at hr
  split at hr
  · rw [cond_eq_ite] at hr
    split at hr
    · rename_i hid
      rw [Bool.and_eq_true] at hid
      cases hr
      obtain ⟨rfl, rfl, rfl, hk, hl, hs⟩ := hp
      have h1 := Nat.eq_of_beq_eq_true hid.1
      have h2 := Nat.eq_of_beq_eq_true hid.2
      subst h1 h2
      exact sp38y _ _ hk hl hs
    · cases hr
  · cases hr
theorem sp84 (a k : List Int) (hk : a.length = k.length) (hl : a.length < 1000000000000) : SpecP Tryd.prog G 84 [fanV a k] (.bool (ptB a k)) [] := by
  by_cases hs : shps a k = []
  · have : ptB a k = false := by simp [ptB, hs]
    rw [this]
    refine fnP_spec hcm hmx (tabL_ok ch38nok tl6ok : TabOk Tryd.prog G T84n) ok84 rfl (ob_o84n a k) ?_
    simp [hs, hl, hk]
    omega
  · have : ptB a k = true := by simp [ptB, hs]
    rw [this]
    refine fnP_spec hcm hmx (tabL_ok ch38yok tl6ok : TabOk Tryd.prog G T84y) ok84 rfl (ob_o84y a k) ?_
    simp [hs, hl, hk]
    omega
theorem sp83 (a k : List Int) (hl : k.length < 1000000000000) : SpecP Tryd.prog G 83 [fanV a k] (.bool (unbB a k)) [] := by
  refine fnP_spec hcm hmx T7ok ok83 rfl (ob_o83 a k) ?_
  simp [hl, unbB]
theorem sp82 (a k : List Int) : SpecP Tryd.prog G 82 [fanV a k] (.bool false) [] := by
  refine fnP_spec hcm hmx T0ok ok82 rfl (ob_o82 a k) ?_
  simp
theorem ct82 : CtOk Tryd.prog G 82 e82 := by
  intro args r h hp
  unfold e82 at h
  split at h <;> cases h
  obtain ⟨rfl, rfl⟩ := hp
  exact (sp82 _ _).caps
theorem ct83 : CtOk Tryd.prog G 83 e83 := by
  intro args r h hp
  unfold e83 at h
  split at h <;> cases h
  obtain ⟨rfl, rfl, hl⟩ := hp
  exact (sp83 _ _ hl).caps
theorem ct84 : CtOk Tryd.prog G 84 e84 := by
  intro args r h hp
  unfold e84 at h
  split at h <;> cases h
  obtain ⟨rfl, rfl, hk, hl⟩ := hp
  exact (sp84 _ _ hk hl).caps
theorem tl8ok : CtsOk Tryd.prog G tl8 := ⟨ct82, ct83, ct84, tl7ok⟩
theorem T8ok : TabOk Tryd.prog G T8 := tabL_ok noCh_ok tl8ok
theorem sp19 (a k : List Int) (hl : a.length < 1000000000000) : SpecP Tryd.prog G 19 [fanV a k] (.tup [.int .u8 (bI (isOk a k) (lk a k) 0), .int .i64 (chk a k)]) [] := by
  refine fnP_spec hcm hmx T8ok ok19 rfl (ob_o19 a k) ?_
  simp only [ltb_iff, ltb_no, leb_iff, leb_no, ltn_iff, ltn_no, len'_iff, len'_no, inR_i64, inR_u8, inR_i32, size_ints, size_bools, size_vals, size_cells, getD_drop, List.getElem?_drop, beq_iff_eq, beq_eq_false_iff_ne, bne_iff_ne, bne_eq_false_iff_eq, ne_eq, Nat.zero_add, Nat.add_zero, Nat.mul_one, Int.toNat_natCast, and_true, true_and, List.length_drop, List.length_append, List.length_cons, List.length_nil, List.length_set, List.getD_eq_getElem?_getD, implies_true, iI, iL, Bool.not_eq_true', Bool.not_eq_false', Int.natCast_inj]
  refine ⟨hl, fun h => by rw [isOk_f h]; rfl, fun h => ?_⟩
  have hk := chk_len h
  rw [isOk_t h, h]
  simp only [bI, cond_true, lk]
  refine ⟨fun h1 => by simp [h1], fun h1 => ⟨(chk_ok h).2.1, fun h2 => by simp [h1, h2], fun h2 => ⟨by omega, fun h3 => by simp [h1, h2, h3], fun h3 => ⟨⟨hk, hl⟩, fun h4 => by simp [h1, h2, h3, h4], fun h4 => by simp [h1, h2, h3, h4]⟩⟩⟩⟩
end Go.Proofs.YtidpllnmghgomaaDoor.X
