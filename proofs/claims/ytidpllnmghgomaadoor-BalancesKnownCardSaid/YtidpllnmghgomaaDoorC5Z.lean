/-
  The contracts of the sharp angles.
-/
import Derived.Test.YtidpllnmghgomaaDoorO3Z
import Derived.Test.YtidpllnmghgomaaDoorC4Z
set_option maxRecDepth 1000000
set_option linter.unusedVariables false
set_option linter.unusedSimpArgs false
namespace Go.Proofs.YtidpllnmghgomaaDoor.X
open Go Go.Ab

theorem sp28 (a k : List Int) : SpecP Tryd.prog G 28 [fanV a k] (.fn 38 [] [.iptr (fanC a k)]) [] := by
  refine fnP_spec hcm hmx T0ok ok28 rfl (ob_o28 a k) ?_
  simp
theorem sy37 (a k l : List Int) (x : Int) (hl : l.length < 1000000000000) : SpecD Tryd.prog G (.yld 9002) [.int .i64 x] (H37 a k l) (.bool true) [(64, box37 (l.length + 1)), (9001, .blk (blkI (l ++ [x])))] [] := by
  refine fnY_spec hcm hmx T0ok (ob_y_37 a k l x) ?_
  simp [len'_iff]
  omega
theorem ch37ok (a k : List Int) : ChOk Tryd.prog G (ch37 a k) := by
  intro h cv args r hr hp
  unfold ch37 at hr
  split at hr
  · rename_i id x l _ _ _ _ _ _ hh
    rw [cond_eq_ite] at hr
    split at hr
    · rename_i hid
      cases hr
      obtain ⟨rfl, hl⟩ := hp
      have := Nat.eq_of_beq_eq_true hid
      subst this
      exact sy37 a k _ x hl
    · cases hr
  · cases hr
theorem TYok (a k : List Int) : TabOk Tryd.prog G (TY a k) := tabL_ok (ch37ok a k) trivial
theorem shpL_len (a k : List Int) : ∀ n, (shpL a k n).length ≤ n
  | 0 => by simp [shpL]
  | n + 1 => by
    have := shpL_len a k n
    simp only [shpL]
    split
    · simp; omega
    · omega
theorem sp38 (a k : List Int) (hk : a.length = k.length) (hl : a.length < 1000000000000) : SpecD Tryd.prog G (.fn 38 [] []) [.yld 9002, .iptr (fanC a k)] (H37e a k) (.tup []) [(64, box37 (shps a k).length), (9001, .blk (blkI (shps a k)))] [] := by
  refine fnD_spec hcm hmx (TYok a k) ok38 rfl (ob_d_38 a k) ?_
  simp only [ltb_iff, ltb_no, leb_iff, leb_no, ltn_iff, ltn_no, len'_iff, len'_no, inR_i64, inR_u8, inR_i32, size_ints, size_bools, size_vals, size_cells, getD_drop, List.getElem?_drop, beq_iff_eq, beq_eq_false_iff_ne, bne_iff_ne, bne_eq_false_iff_eq, ne_eq, Nat.zero_add, Nat.add_zero, Nat.mul_one, Int.toNat_natCast, and_true, true_and, List.length_drop, List.length_append, List.length_cons, List.length_nil, List.length_set, List.getD_eq_getElem?_getD, implies_true, iI, iL, Bool.not_eq_true', Bool.not_eq_false', Int.natCast_inj]
  refine ⟨fun h => ?_, fun h => ⟨⟨0, rfl, by omega, by omega, rfl⟩, ?_⟩⟩
  · have : shps a k = [] := by unfold shps; rw [if_pos (by omega)]
    simp [this]
  rintro ⟨i, l⟩ ⟨n, rfl, hn, hll, rfl⟩
  have hm : 4 ≤ a.length := by omega
  have hj : ((n : Int) + 1).tmod (a.length : Int) = (((n + 1) % a.length : Nat) : Int) := (Int.ofNat_tmod (n + 1) a.length).symm
  have hp : ((n : Int) + (a.length : Int) - 1).tmod (a.length : Int) = (((n + a.length - 1) % a.length : Nat) : Int) := by
    have e : ((n + a.length - 1 : Nat) : Int) = (n : Int) + (a.length : Int) - 1 := by omega
    rw [Int.ofNat_tmod, e]
  have hj2 := Nat.mod_lt (n + 1) (show 0 < a.length by omega)
  have hp2 := Nat.mod_lt (n + a.length - 1) (show 0 < a.length by omega)
  simp only [Int.toNat_natCast, hj, hp] at hll ⊢
  refine ⟨fun hlt => ?_, fun hge => ?_⟩
  · refine ⟨by omega, by omega, by omega, by omega, by omega, by omega, fun hb => ?_, fun hb => ?_⟩
    · have hb' := hb
      simp only [shB, Bool.and_eq_true, decide_eq_true_eq, beq_iff_eq, bne_iff_ne, ne_eq] at hb
      obtain ⟨b1, b2, b3, b4⟩ := hb
      have hs : shpL a k (n + 1) = shpL a k n ++ [(n : Int)] := by simp only [shpL]; rw [if_pos hb']
      have b5 : ¬ k[(n + 1) % a.length]?.getD 0 = 3 := by rw [← b3]; exact b4
      simp only [b1, b2, b3, b4, b5, not_false_eq_true, true_and, and_true]
      generalize (n + 1) % a.length = j at *
      generalize (n + a.length - 1) % a.length = p at *
      refine ⟨by omega, by omega, by omega, by omega, by omega, by omega, by omega, by omega, by omega, by omega, by omega, by omega, by omega, by omega, by omega, by omega, by omega, by omega, by omega, by omega, by omega, by omega, by omega, by omega, by omega, ⟨n + 1, by omega, by omega, by omega, hs.symm⟩, by omega⟩
    · have hs : shpL a k (n + 1) = shpL a k n := by simp only [shpL]; rw [if_neg (by rw [hb]; decide)]
      have q1 : ∀ x y : Int, ltb x y = decide (x < y) := fun x y => by
        by_cases h : x < y
        · rw [decide_eq_true h]; exact ltb_iff.2 h
        · rw [decide_eq_false h]; exact ltb_no.2 (by omega)
      simp only [shB, ← q1] at hb
      generalize hJ : (n + 1) % a.length = j at *
      generalize hP : (n + a.length - 1) % a.length = p at *
      simp only [← ltb_iff]
      generalize ltb (a[n]?.getD 0) (a[j]?.getD 0) = c1 at *
      generalize ltb (a[n]?.getD 0) (a[p]?.getD 0) = c2 at *
      have hne : a ≠ [] := by rintro rfl; simp at hm
      have hex : ∃ m : Nat, (n : Int) + 1 = m ∧ m ≤ a.length ∧ (shpL a k n).length ≤ m ∧ shpL a k n = shpL a k m := ⟨n + 1, by omega, by omega, by omega, hs.symm⟩
      clear hs
      cases c1 <;> cases c2 <;> simp at hb ⊢ <;> repeat' apply And.intro
      all_goals first | omega | exact hne | exact hex | (intros; omega) | (intros; simp_all; done)
  · have hn' : n = a.length := by omega
    have : shps a k = shpL a k a.length := by unfold shps; rw [if_neg (by omega)]
    subst hn'
    simp [this]
end Go.Proofs.YtidpllnmghgomaaDoor.X
