/-
  The law: fans that are not valid.
-/
import Derived.Test.YtfafinkgmhkdmaaDoorC7hZ
set_option maxRecDepth 1000000
set_option linter.unusedVariables false
set_option linter.unusedSimpArgs false
namespace Go.Proofs.YtfafinkgmhkdmaaDoor.X
open Go Go.Ab

theorem memB_take {k : List Int} {n : Nat} {x : Int} (h : memB (k.take n) x = true) : memB k x = true := memB_true.2 (List.mem_of_mem_take (memB_true.1 h))
theorem take_next {k : List Int} {n : Nat} (h : n < k.length) : k.take (n + 1) = k.take n ++ [k[n]?.getD 0] := by
  rw [List.take_add_one, List.getElem?_eq_getElem h]; rfl
theorem wnt_full {a k : List Int} {n : Nat} (h : k.length ≤ n) : wnt a k n = dcd a k := by
  unfold wnt dcd; rw [List.take_of_length_le h]
theorem wnt_ne {a k : List Int} {n : Nat} (h : ¬ wnt a k n = 0) : wnt a k n = dcd a k := by
  unfold wnt dcd at *
  split
  · rename_i hc
    rw [if_pos hc] at h
    cases hm : memB (k.take n) 3 with
    | true => rw [memB_take hm]
    | false => rw [hm] at h; exact absurd rfl h
  · rfl
theorem wnt_zero {a k : List Int} {n : Nat} (h : wnt a k n = 0) : chk a k = 0 ∧ memB (k.take n) 3 = false := by
  unfold wnt at h
  split at h
  · rename_i hc
    cases hm : memB (k.take n) 3 with
    | true => rw [hm] at h; cases h
    | false => exact ⟨hc, rfl⟩
  · contradiction
theorem sp4 (a k : List Int) : SpecP Tryd.prog G 4 [fanV a k] (.bool true) [] := by
  refine fnP_spec hcm hmx ULok ok4 rfl (ob_o4 a k) ?_
  simp only [ltb_iff, ltb_no, leb_iff, leb_no, ltn_iff, ltn_no, len'_iff, len'_no, inR_i64, inR_u8, inR_i32, size_ints, size_bools, size_vals, size_cells, getD_drop, List.getElem?_drop, beq_iff_eq, beq_eq_false_iff_ne, bne_iff_ne, bne_eq_false_iff_eq, ne_eq, Nat.zero_add, Nat.add_zero, Nat.mul_one, Int.toNat_natCast, and_true, true_and, List.length_drop, List.length_append, List.length_cons, List.length_nil, List.length_set, List.getD_eq_getElem?_getD, implies_true, iI, iL, Bool.not_eq_true', Bool.not_eq_false', Int.natCast_inj]
  refine ⟨fun h1 h2 => ⟨by omega, by omega, by omega⟩, ?_⟩
  rintro ⟨v⟩ ⟨_, ha, hk⟩
  refine ⟨by omega, ⟨⟨0, rfl, by omega, ?_⟩, ?_⟩, ?_⟩
  · unfold wnt
    split
    · rename_i h; rw [h]; rfl
    · rfl
  · rintro ⟨i, w⟩ ⟨n, rfl, hn, rfl⟩
    simp only [Int.toNat_natCast]
    refine ⟨fun hlt => ⟨fun hw => ?_, fun hw => wnt_ne hw⟩, fun hge => wnt_full (by omega)⟩
    obtain ⟨hc, hm⟩ := wnt_zero hw
    refine ⟨by omega, by omega, by omega, by omega, fun h3 => ⟨by omega, ⟨n + 1, by omega, by omega, ?_⟩, by omega⟩, fun h3 => ⟨by omega, ⟨n + 1, by omega, by omega, ?_⟩, by omega⟩⟩
    · unfold wnt
      rw [if_pos hc, take_next (by omega), h3, memB_true.2 (by simp)]; rfl
    · rw [hw]
      unfold wnt
      rw [if_pos hc, take_next (by omega), memB_no]
      · rfl
      · intro hx
        rcases List.mem_append.1 hx with hx | hx
        · rw [memB_true.2 hx] at hm; cases hm
        · exact h3 (List.mem_singleton.1 hx).symm
  · rintro ⟨v⟩ rfl
    simp only
    refine ⟨by omega, by omega, by omega, by omega, fun h0 => ⟨h0, fun _ => ⟨h0, h0⟩, fun hne => ⟨?_, h0, h0⟩⟩, fun hne => ?_⟩
    · unfold doE at hne ⊢
      rw [if_pos h0] at hne ⊢
      cases hs : isS a k 0 with
      | true => rw [hs] at hne; exact absurd rfl hne
      | false => rfl
    · have e1 : okD a k = false := by
        cases h : okD a k with
        | false => rfl
        | true => exact absurd (okD_iff.1 h) hne
      have e2 : doB a k 0 = false := by unfold doB; rw [e1]; rfl
      have e3 : doE a k 0 = dcd a k := by unfold doE; rw [if_neg hne]
      simp [e1, e2, e3, bLs]
end Go.Proofs.YtfafinkgmhkdmaaDoor.X
