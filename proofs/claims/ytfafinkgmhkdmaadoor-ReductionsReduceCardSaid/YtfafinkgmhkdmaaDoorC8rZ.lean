/-
  The law: fans reduced.
-/
import Derived.Test.YtfafinkgmhkdmaaDoorC7hZ
set_option maxRecDepth 1000000
set_option linter.unusedVariables false
set_option linter.unusedSimpArgs false
namespace Go.Proofs.YtfafinkgmhkdmaaDoor.X
open Go Go.Ab

def kpAll : Bool := (List.range 9).all fun n => (List.range n).all fun i => n < 2 || (keepL n i n).length == n - 2
theorem kp_all : kpAll = true := by decide +kernel
theorem done_len2 {a : List Int} {i : Nat} (h8 : a.length ≤ 8) (h2 : 2 ≤ a.length) (hi : i < a.length) : (doneA a i).length = a.length - 2 := by
  have := kp_all
  simp only [kpAll, List.all_eq_true, List.mem_range, Bool.or_eq_true, decide_eq_true_eq, beq_iff_eq] at this
  rcases this a.length (by omega) i hi with h | h
  · omega
  · simpa [doneA] using h
theorem rd_len : ∀ (n : Nat) (a k : List Int), a.length ≤ 2 * n → okF a k 8 = true → (rdI a k).length ≤ n - 1
  | n, a, k, hn, hok => by
    have h8 := (okF_len hok).2 (by omega)
    cases e : stepsN a k with
    | nil => rw [(red_nil' e).1]; simp
    | cons i r =>
      have hi : i ∈ stepsN a k := by rw [e]; simp
      obtain ⟨s1, s2⟩ := steps_lt hi
      have l2 := done_len2 (by omega) (by omega) s2
      rw [(red_cons' e).1]
      cases n with
      | zero => omega
      | succ n =>
        have := rd_len n (doneA a i) (doneK k i) (by omega) (step_ok hok hi).1
        simp only [List.length_cons]
        omega
termination_by n => n
theorem sp6 (c l : Int) (ks : List Int) (hk : okK ks) : SpecP Tryd.prog G 6 [fV c l ks] (.bool true) [] := by
  refine fnP_spec hcm hmx ULok ok6 rfl (ob_o6 c l ks) ?_
  have hd := d_ok (c := c) (l := l) hk
  generalize ofA c l ks = A at *
  generalize vK (ofK c ks) = K at *
  obtain ⟨hl, h8⟩ := okF_len hd
  have h8 := h8 (by omega)
  have h3 := rd_len 4 A K (by omega) hd
  have hD := dcd_of hd
  have hO := okD_of hd
  simp only [ltb_iff, ltb_no, leb_iff, leb_no, ltn_iff, ltn_no, len'_iff, len'_no, inR_i64, inR_u8, inR_i32, size_ints, size_bools, size_vals, size_cells, getD_drop, List.getElem?_drop, beq_iff_eq, beq_eq_false_iff_ne, bne_iff_ne, bne_eq_false_iff_eq, ne_eq, Nat.zero_add, Nat.add_zero, Nat.mul_one, Int.toNat_natCast, and_true, true_and, List.length_drop, List.length_append, List.length_cons, List.length_nil, List.length_set, List.getD_eq_getElem?_getD, implies_true, iI, iL, Bool.not_eq_true', Bool.not_eq_false', Int.natCast_inj, hO, hD, bLs_yes rfl, Bool.not_true, Bool.not_false, Bool.true_and]
  refine ⟨hk, by omega, by omega, by omega, fun _ => ⟨⟨0, rfl, by omega, hd, rfl⟩, ?_⟩⟩
  rintro ⟨i, a, k⟩ ⟨n, rfl, hn, p1, p2, p3, p4⟩
  simp only at p1 p2 p3 p4
  have la := okF_len p1
  have la8 := la.2 (by omega)
  have hrf := rd_ok hd
  refine ⟨fun hlt => ?_, fun hge => ?_⟩
  · simp only at hlt
    have hgn : (rdI A K)[n]?.getD 0 = (rdI a k)[0]?.getD 0 := by
      rw [← p2, List.getElem?_drop, Nat.add_zero]
    cases e : stepsN a k with
    | nil =>
      have := (red_nil' e).1
      rw [← p2] at this
      have := congrArg List.length this
      simp at this
      omega
    | cons j r =>
      have hj : j ∈ stepsN a k := by rw [e]; simp
      obtain ⟨s1, s2⟩ := steps_lt hj
      obtain ⟨t1, t2⟩ := step_ok p1 hj
      obtain ⟨u1, u2, u3⟩ := red_cons' e
      have hst : stI a k = (j : Int) :: inL r := by unfold stI inL; rw [e]; rfl
      have hgj : (rdI A K)[n]?.getD 0 = (j : Int) := by rw [hgn, u1]; rfl
      have hS : isS a k (j : Int) = true := isS_of (by rw [hst]; simp)
      have hg0 : (stI a k)[0]?.getD 0 = (j : Int) := by rw [hst]; rfl
      have hsl : 0 < (stI a k).length := by rw [hst]; simp
      have hsl2 := stI_len (a := a) (k := k)
      have b0 : (((stI a k).length : Int) == 0) = false := beq_eq_false_iff_ne.2 (by omega)
      have b1 : ((dcd a k) != 0) = false := by rw [dcd_of p1]; rfl
      simp only [Int.toNat_natCast, hgj, hS, hg0, okD_of p1, bLs_yes rfl, b0, b1, cond_false, Bool.not_true, Bool.not_false, Bool.true_and, Bool.and_true, bne_self_eq_false, dcd_of p1]
      refine ⟨by omega, by omega, by omega, by omega, by omega, p1, fun _ => trivial, trivial, fun _ => trivial, fun _ => trivial, trivial, fun _ => trivial, fun _ => by omega, fun _ => by omega, fun _ => trivial, fun _ => by omega, fun _ => trivial, fun _ => trivial, fun _ => by omega, fun _ => by omega, fun _ => by omega, fun _ => trivial, fun _ => by omega, fun _ => trivial, fun _ => trivial, trivial, fun h => h, fun _ => ⟨by omega, ⟨n + 1, by omega, by omega, t1, ?_, by rw [← u2, p3], by rw [← u3, p4]⟩, by omega⟩⟩
      have : (rdI A K).drop n = (j : Int) :: rdI (doneA a j) (doneK k j) := by rw [p2, u1]
      rw [← List.drop_drop, this]; rfl
  · simp only at hge
    have hnil : rdI a k = [] := by
      rw [← p2]; exact List.drop_of_length_le (by omega)
    have hst : stepsN a k = [] := by
      cases e : stepsN a k with
      | nil => rfl
      | cons j r => rw [(red_cons' e).1] at hnil; cases hnil
    obtain ⟨u1, u2, u3⟩ := red_nil' hst
    rw [u2] at p3
    rw [u3] at p4
    subst p3; subst p4
    obtain ⟨r1, r2, r3⟩ := hrf
    have hb := base_iff (a := rdA A K) (k := rdK A K)
    rw [r3] at hb
    have hs0 : stI (rdA A K) (rdK A K) = [] := by unfold stI; rw [r2]; rfl
    have e1 : ∀ l : List Int, eqB l l = true := fun l => by simp [eqB]
    simp only [dcd_of r1, okD_of r1, bLs_yes rfl, hs0, e1, List.length_nil, Bool.and_true, Bool.true_and, Bool.and_self]
    generalize rdA A K = X at *
    generalize rdK A K = Y at *
    generalize foldB A K = B at *
    have hl2 := okF_len r1
    have hl8 := hl2.2 (by omega)
    have hl3 := hl2.1
    refine ⟨by omega, fun h0 => ?_, fun h0 => ⟨fun h2 => ⟨fun h4 => ?_, fun h4 => ?_⟩, fun h2 => ?_⟩⟩
    · have eB : B = true := hb.2 (.inl h0)
      have hY : Y.length = 0 := by omega
      simp [h0, hY, eB]
    · have eB : (Y[0]?.getD 0 == Y[1]?.getD 0) = B := by
        rw [Bool.eq_iff_iff, hb, beq_iff_eq]
        omega
      obtain ⟨x, y, rfl⟩ := two h2
      obtain ⟨u, v, rfl⟩ := two (hl3.trans h2)
      simp at h4 eB
      simp [h4, eB]
    · have eB : B = false := by
        rw [Bool.eq_false_iff]
        intro hB
        have := hb.1 hB
        omega
      obtain ⟨x, y, rfl⟩ := two h2
      obtain ⟨u, v, rfl⟩ := two (hl3.trans h2)
      simp at h4
      simp [h4, eB]
    · have eB : B = false := by
        rw [Bool.eq_false_iff]
        intro hB
        have := hb.1 hB
        omega
      have q1 : ¬ (X.length : Int) = 2 := by omega
      have q2 : ((X.length : Int) == 2) = false := beq_eq_false_iff_ne.2 q1
      have q3 : ((X.length : Int) == 0) = false := beq_eq_false_iff_ne.2 (by omega)
      have q4 : ¬ X = [] := fun e => h0 (by rw [e]; rfl)
      simp only [q2, q3, eB]
      simp [h0, h2, q1, q4]
      try omega
end Go.Proofs.YtfafinkgmhkdmaaDoor.X
