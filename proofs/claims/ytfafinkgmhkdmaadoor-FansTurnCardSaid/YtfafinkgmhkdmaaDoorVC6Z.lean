/-
  The law on mirrored fans.
-/
import Derived.Test.YtfafinkgmhkdmaaDoorVO6Z
import Derived.Test.YtfafinkgmhkdmaaDoorVC3Z
import Derived.Test.YtfafinkgmhkdmaaDoorVLZ
set_option maxRecDepth 1000000
set_option linter.unusedVariables false
set_option linter.unusedSimpArgs false
namespace Go.Proofs.YtfafinkgmhkdmaaDoor.X
open Go Go.Ab

theorem eqB_self (a : List Int) : eqB a a = true := by simp [eqB]
theorem eqB_true {a b : List Int} (h : a = b) : eqB a b = true := by simp [eqB, h]
theorem sp26 (a k b j : List Int) (h1 : a.length = b.length) (h2 : k.length = j.length) (hz : a.length < 1000000000000) (hk : k.length < 1000000000000) : SpecP Tryd.prog G 26 [fanC a k, fanV b j] (.bool (eqB a b && eqB k j)) [] := by
  refine fnP_spec hcm hmx T0ok ok26 rfl (ob_o26 a k b j) ?_
  simp only [ltb_iff, ltb_no, leb_iff, leb_no, ltn_iff, ltn_no, len'_iff, len'_no, inR_i64, inR_u8, inR_i32, size_ints, size_bools, size_vals, size_cells, getD_drop, List.getElem?_drop, beq_iff_eq, beq_eq_false_iff_ne, bne_iff_ne, bne_eq_false_iff_eq, ne_eq, Nat.zero_add, Nat.add_zero, Nat.mul_one, Int.toNat_natCast, and_true, true_and, List.length_drop, List.length_append, List.length_cons, List.length_nil, List.length_set, List.getD_eq_getElem?_getD, implies_true, iI, iL, Bool.not_eq_true', Bool.not_eq_false', Int.natCast_inj, Bool.not_eq_true, Bool.not_eq_false]
  refine ⟨h1, h2, ⟨0, rfl, by omega, rfl⟩, ?_⟩
  rintro ⟨i⟩ ⟨n, rfl, hn, hi⟩
  simp only [Int.toNat_natCast] at hi ⊢
  refine ⟨fun hlt => ?_, fun hge => ?_⟩
  · have hs := eqB_step (a := a) (b := b) (n := n) (by omega) (by omega)
    refine ⟨by omega, by omega, by omega, by omega, by omega, by omega, by omega, by omega, fun he => ?_, fun he => ⟨by omega, ⟨n + 1, by omega, by omega, ?_⟩, by omega⟩⟩
    · rw [decide_eq_false he, hi] at hs; rw [hs]; rfl
    · rw [decide_eq_true he, hi] at hs; rw [hs]; rfl
  · have hab : eqB a b = true := by rw [← hi]; exact eqB_end (by omega) (by omega)
    refine ⟨⟨0, rfl, by omega, hab, rfl⟩, ?_⟩
    rintro ⟨i2⟩ ⟨m, rfl, hm, _, hj⟩
    simp only [Int.toNat_natCast] at hj ⊢
    refine ⟨fun hl2 => ?_, fun hg2 => ?_⟩
    · have hs := eqB_step (a := k) (b := j) (n := m) (by omega) (by omega)
      refine ⟨by omega, by omega, by omega, by omega, by omega, by omega, by omega, by omega, fun he => ?_, fun he => ⟨by omega, ⟨m + 1, by omega, by omega, hab, ?_⟩, by omega⟩⟩
      · rw [decide_eq_false he, hj] at hs; rw [hs, Bool.false_and, Bool.and_false]
      · rw [decide_eq_true he, hj] at hs; rw [hs]; rfl
    · rw [hab, ← hj, eqB_end (by omega) (by omega)]; rfl
theorem ct26 : CtOk Tryd.prog G 26 e26 := by
  intro args r h hp
  unfold e26 at h
  split at h <;> cases h
  obtain ⟨rfl, rfl, rfl, rfl, rfl, rfl, h1, h2, h3, h4⟩ := hp
  refine (sp26 _ _ _ _ h1 h2 h3 h4).args fun w F xs hr => ?_
  cases hr with
  | cons _ _ _ _ r1 rs => cases rs with
    | cons _ _ _ _ r2 rs2 => exact .cons _ _ _ _ r1 (.cons _ _ _ _ r2.caps rs2)
theorem uRok : TabOk Tryd.prog G UO := UOok
theorem vLok : CtsOk Tryd.prog G vL := ⟨ct27, ct26, ct20, ct21, uCok⟩
theorem VLok : TabOk Tryd.prog G VL := tabL_ok noCh_ok vLok
theorem mir_cons (x : Int) (l : List Int) : mirK' (x :: l) = x :: l.reverse := by
  simp [mirK', rotL']
theorem mir_mir (l : List Int) : mirK' (mirK' l) = l := by
  cases l with
  | nil => rfl
  | cons x l => rw [mir_cons, mir_cons, List.reverse_reverse]
theorem ov_mir (l : List Int) : mirK' (ovK' l) = ovK' (mirK' l) := by
  simp [mirK', ovK', rotL', List.map_reverse]
theorem ov_ov {l : List Int} (h : ∀ x ∈ l, 1 ≤ x ∧ x ≤ 3) : ovK' (ovK' l) = l := by
  unfold ovK'
  rw [List.map_map]
  conv => rhs; rw [← List.map_id l]
  refine List.map_congr_left fun x hx => ?_
  have := h x hx
  simp only [Function.comp, id]
  split
  · rw [if_pos (by omega)]; omega
  · rfl
theorem mir_get {k : List Int} {i : Nat} (hi : i < k.length) : (mirK' k)[i]?.getD 0 = k[(k.length - i) % k.length]?.getD 0 := by
  cases k with
  | nil => simp at hi
  | cons x l =>
    rw [mir_cons]
    simp only [List.length_cons] at hi ⊢
    cases i with
    | zero => simp
    | succ j =>
      rw [Nat.mod_eq_of_lt (by omega), show l.length + 1 - (j + 1) = (l.length - 1 - j) + 1 by omega]
      simp only [List.getElem?_cons_succ]
      rw [List.getElem?_reverse (by omega)]
theorem sp8 (c l : Int) (ks : List Int) (hk : okK ks) : SpecP Tryd.prog G 8 [fV c l ks] (.bool true) [] := by
  refine fnP_spec hcm hmx VLok ok8 rfl (ob_o8 c l ks) ?_
  obtain ⟨hl, h8, hA, hK⟩ := of_ok (c := c) (l := l) hk
  generalize ofA c l ks = A at *
  generalize ofK c ks = K at *
  have b1 : ((A.reverse.length : Int) != A.length) = false := by simp
  have b2 : (((mirK' K).length : Int) != A.length) = false := by simp [len_mir, hl]
  have b3 : (((ovK' (mirK' K)).length : Int) != A.length) = false := by simp [len_mir, len_ov, hl]
  have hoo : ovK' (mirK' (ovK' (mirK' K))) = K := by
    rw [ov_mir, mir_mir, ov_ov hK]
  simp only [b1, b2, b3, hoo, mir_mir, List.reverse_reverse, eqB_self, cond_false, Bool.not_false, Bool.not_true, Bool.true_and, Bool.and_true]
  simp only [ltb_iff, ltb_no, leb_iff, leb_no, ltn_iff, ltn_no, len'_iff, len'_no, inR_i64, inR_u8, inR_i32, size_ints, size_bools, size_vals, size_cells, getD_drop, List.getElem?_drop, beq_iff_eq, beq_eq_false_iff_ne, bne_iff_ne, bne_eq_false_iff_eq, ne_eq, Nat.zero_add, Nat.add_zero, Nat.mul_one, Int.toNat_natCast, and_true, true_and, List.length_drop, List.length_append, List.length_cons, List.length_nil, List.length_set, List.getD_eq_getElem?_getD, implies_true, iI, iL, Bool.not_eq_true', Bool.not_eq_false', Int.natCast_inj, true_imp_iff, len_mir, len_ov, List.length_reverse]
  refine ⟨hk, by omega, by omega, by omega, by omega, by omega, by omega, by omega, by omega, by omega, ⟨0, rfl, by omega⟩, ?_⟩
  rintro ⟨i⟩ ⟨n, rfl, hn⟩ hlt
  simp only at hlt
  have e1 : (A.length : Int) - (n : Int) = ((A.length - n : Nat) : Int) := by omega
  have e2 : (A.length : Int) - 1 - (n : Int) = ((A.length - 1 - n : Nat) : Int) := by omega
  have t1 : ∀ x y : Nat, ((x : Int)).tmod (y : Int) = ((x % y : Nat) : Int) := fun x y => rfl
  have m1 : (A.length - n) % A.length < A.length := Nat.mod_lt _ (by omega)
  have hr : A.reverse[n]?.getD 0 = A[A.length - 1 - n]?.getD 0 := by rw [List.getElem?_reverse (by omega)]
  have hm := mir_get (k := K) (i := n) (by omega)
  rw [← hl] at hm
  have hov := ov_get (k := mirK' K) (j := n) (by rw [len_mir]; omega)
  rw [hm] at hov
  have hx : 1 ≤ K[(A.length - n) % A.length]?.getD 0 ∧ K[(A.length - n) % A.length]?.getD 0 ≤ 3 := hK _ (getD_mem (by omega))
  have ho : oKd K A.length n = if K[(A.length - n) % A.length]?.getD 0 = 3 then 3 else 3 - K[(A.length - n) % A.length]?.getD 0 := by
    unfold oKd
    rw [e1, t1]; simp only [Int.toNat_natCast, List.getD_eq_getElem?_getD]
  simp only [e1, e2, t1, Int.toNat_natCast, hr, hm, hov, ho, bne_self_eq_false, cond_false, Bool.not_false, true_imp_iff, true_and, imp_self, and_true]
  generalize K[(A.length - n) % A.length]?.getD 0 = x at *
  have hf : (if x = 3 then (3 : Int) else 3 - x) = if x = 1 ∨ x = 2 then 3 - x else x := by
    split
    · rename_i h; rw [if_neg (by omega), h]
    · rw [if_pos (by omega)]
  refine ⟨by omega, by omega, by omega, by omega, by omega, by omega, by omega, by omega, by omega, by omega, by omega, by omega, by omega, by omega, by omega, by omega, by omega, by omega, ⟨fun h => ⟨by omega, by rw [if_neg h]⟩, fun h => by rw [if_pos h, h]⟩, ?_⟩
  rintro ⟨v⟩ rfl
  exact ⟨by omega, by omega, by omega, by omega, hf.symm, by omega, ⟨n + 1, by omega, by omega⟩, by omega⟩
end Go.Proofs.YtfafinkgmhkdmaaDoor.X
