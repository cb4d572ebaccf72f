/-
  The contracts of the functions that fold angles away.
-/
import Derived.Test.YtfafinkgmhkdmaaDoorO2Z
import Derived.Test.YtfafinkgmhkdmaaDoorC1Z
import Derived.Test.YtfafinkgmhkdmaaDoorP1Z
set_option maxRecDepth 1000000
set_option linter.unusedVariables false
set_option linter.unusedSimpArgs false
namespace Go.Proofs.YtfafinkgmhkdmaaDoor.X
open Go Go.Ab

theorem tm1 {j n : Nat} : ((j : Int) + 1 + n).tmod n = (((j + 1) % n : Nat) : Int) := by
  have e : (j : Int) + 1 + n = ((j + 1 + n : Nat) : Int) := by omega
  rw [e]
  change (((j + 1 + n) % n : Nat) : Int) = _
  rw [Nat.add_mod_right]
theorem tm2 {j n : Nat} (h : 0 < n) : ((j : Int) - 1 + n).tmod n = (((j + n - 1) % n : Nat) : Int) := by
  have e : (j : Int) - 1 + n = ((j + n - 1 : Nat) : Int) := by omega
  rw [e]
  rfl
theorem filter_yes {p : Nat → Bool} {n : Nat} (h : p n = true) : (List.range (n + 1)).filter p = (List.range n).filter p ++ [n] := by
  rw [List.range_succ, List.filter_append]; simp [h]
theorem filter_no {p : Nat → Bool} {n : Nat} (h : p n = false) : (List.range (n + 1)).filter p = (List.range n).filter p := by
  rw [List.range_succ, List.filter_append]; simp [h]
theorem inL_yes {p : Nat → Bool} {n : Nat} {l : List Int} (hl : l = inL ((List.range n).filter p)) (h : p n = true) : l ++ [(n : Int)] = inL ((List.range (n + 1)).filter p) := by
  rw [filter_yes h, hl]; simp [inL]
theorem inL_no {p : Nat → Bool} {n : Nat} {l : List Int} (hl : l = inL ((List.range n).filter p)) (h : p n = false) : l = inL ((List.range (n + 1)).filter p) := by
  rw [filter_no h, hl]
theorem inL_len {p : Nat → Bool} {n : Nat} {l : List Int} (hl : l = inL ((List.range n).filter p)) : l.length ≤ n := by
  rw [hl]; simp only [inL, List.length_map]
  exact Nat.le_trans (List.length_filter_le _ _) (by simp)
theorem stB_iff {a k : List Int} {n : Nat} : stB a k n = true ↔ ¬ k[n]?.getD 0 = k[(n + 1) % a.length]?.getD 0 ∧ a[n]?.getD 0 ≤ a[(n + a.length - 1) % a.length]?.getD 0 ∧ a[n]?.getD 0 ≤ a[(n + 1) % a.length]?.getD 0 := by
  simp only [stB, Bool.and_eq_true, decide_eq_true_eq, Bool.not_eq_true', beq_eq_false_iff_ne, ne_eq]
  exact Iff.rfl
theorem stB_no {a k : List Int} {n : Nat} (h : ¬ (¬ k[n]?.getD 0 = k[(n + 1) % a.length]?.getD 0 ∧ a[n]?.getD 0 ≤ a[(n + a.length - 1) % a.length]?.getD 0 ∧ a[n]?.getD 0 ≤ a[(n + 1) % a.length]?.getD 0)) : stB a k n = false := by
  cases e : stB a k n with
  | false => rfl
  | true => exact absurd (stB_iff.1 e) h
theorem sp38 (a k : List Int) (hk : k.length = a.length) (hz : a.length < 1000000000) : SpecP Tryd.prog G 38 [fanV a k] (immL .i64 (stI a k)) [] := by
  refine fnP_spec hcm hmx TB1ok ok38 rfl (ob_o38 a k) ?_
  simp only [ltb_iff, ltb_no, leb_iff, leb_no, ltn_iff, ltn_no, len'_iff, len'_no, inR_i64, inR_u8, inR_i32, size_ints, size_bools, size_vals, size_cells, getD_drop, List.getElem?_drop, beq_iff_eq, beq_eq_false_iff_ne, bne_iff_ne, bne_eq_false_iff_eq, ne_eq, Nat.zero_add, Nat.add_zero, Nat.mul_one, Int.toNat_natCast, and_true, true_and, List.length_drop, List.length_append, List.length_cons, List.length_nil, List.length_set, List.getD_eq_getElem?_getD, implies_true, iI, iL, Bool.not_eq_true', Bool.not_eq_false', Int.natCast_inj]
  refine ⟨fun h4 => ?_, fun h4 => ⟨⟨0, rfl, by omega, rfl⟩, ?_⟩⟩
  · have h : a.length < 4 := by omega
    have e : stI a k = [] := by simp [stI, stepsN, h, inL]
    rw [e]; simp
  · have h4 : ¬ a.length < 4 := by omega
    rintro ⟨i, l⟩ ⟨n, rfl, hn, hl⟩
    have hlen := inL_len hl
    simp only at hl hlen
    simp only [Int.toNat_natCast, tm1, tm2 (show 0 < a.length by omega), hk]
    have hm1 : (n + 1) % a.length < a.length := Nat.mod_lt _ (by omega)
    have hm2 : (n + a.length - 1) % a.length < a.length := Nat.mod_lt _ (by omega)
    refine ⟨fun hlt => ?_, fun hge => ?_⟩
    · refine ⟨by omega, by omega, by omega, by omega, by omega, by omega, by omega, by omega, by omega, by omega, by omega, by omega, by omega, by omega, fun he => ⟨by omega, ⟨n + 1, by omega, by omega, ?_⟩, by omega⟩, fun he => ⟨by omega, by omega, by omega, by omega, by omega, by omega, by omega, by omega, fun h1 => ⟨by omega, ⟨n + 1, by omega, by omega, ?_⟩, by omega⟩, fun h1 => ⟨by omega, by omega, by omega, by omega, fun h2 => ⟨by omega, ⟨n + 1, by omega, by omega, ?_⟩, by omega⟩, fun h2 => ⟨by omega, by omega, ⟨n + 1, by omega, by omega, ?_⟩, by omega⟩⟩⟩⟩
      · exact inL_no hl (stB_no fun h => h.1 he)
      · exact inL_no hl (stB_no fun h => by omega)
      · exact inL_no hl (stB_no fun h => by omega)
      · exact inL_yes hl (stB_iff.2 ⟨he, h1, h2⟩)
    · have e : n = a.length := by omega
      subst e
      have e2 : l = inL (stepsN a k) := by rw [hl, stepsN, if_neg h4]; rfl
      exact ⟨congrArg _ e2, congrArg _ e2, congrArg _ e2⟩
theorem ct38 : CtOk Tryd.prog G 38 e38 := by
  intro args r h hp
  unfold e38 at h
  split at h <;> cases h
  obtain ⟨rfl, rfl, h1, h2⟩ := hp
  exact (sp38 _ _ h1 h2).caps
theorem tlCok : CtsOk Tryd.prog G tlC := ⟨ct38, ct37, ct23, tlBok⟩
theorem TC1ok : TabOk Tryd.prog G TC1 := tabL_ok noCh_ok tlCok

theorem okF_ok : ∀ {a k : List Int} {s : Int}, 0 ≤ s → okF a k s = true → (∀ x ∈ a, 1 ≤ x ∧ x ≤ s) ∧ a.sum ≤ s ∧ ∀ x ∈ k, x = 1 ∨ x = 2
  | [], [], s, hs, h => ⟨by simp, by simpa using hs, by simp⟩
  | x :: a, y :: k, s, hs, h => by
    simp only [okF, Bool.and_eq_true, Bool.or_eq_true, beq_iff_eq, decide_eq_true_eq] at h
    obtain ⟨h1, h2, h3, h4⟩ := h
    obtain ⟨g1, g2, g3⟩ := okF_ok (by omega) h4
    refine ⟨fun z hz => ?_, by simp; omega, fun z hz => ?_⟩
    · rcases List.mem_cons.1 hz with rfl | hz
      · omega
      · have := g1 z hz; omega
    · rcases List.mem_cons.1 hz with rfl | hz
      · exact h3
      · exact g3 z hz
  | [], y :: k, s, hs, h => by simp [okF] at h
  | x :: a, [], s, hs, h => by simp [okF] at h
theorem okF_of : ∀ {a k : List Int} {s : Int}, k.length = a.length → chkL a k (8 - s) = 0 → (∀ x ∈ k, x ≠ 3) → okF a k s = true
  | [], [], s, hl, h, hk => rfl
  | x :: a, y :: k, s, hl, h, hk => by
    simp only [chkL] at h
    split at h
    · cases h
    · rename_i hc
      have hy := hk y (by simp)
      have e : 8 - s + x = 8 - (s - x) := by omega
      rw [e] at h
      have := okF_of (by simpa using hl) h (fun z hz => hk z (by simp [hz]))
      simp only [okF, Bool.and_eq_true, Bool.or_eq_true, beq_iff_eq, decide_eq_true_eq]
      exact ⟨by omega, by omega, by omega, this⟩
  | [], y :: k, s, hl, h, hk => by simp at hl
  | x :: a, [], s, hl, h, hk => by simp at hl
theorem memB_iff : ∀ {l : List Int} {x : Int} {i : Int}, 0 ≤ i → (0 ≤ idxL x l i ↔ x ∈ l)
  | [], x, i, h => by simp [idxL]
  | y :: l, x, i, h => by
    simp only [idxL]
    split
    · rename_i e; simp [e, h]
    · rename_i e
      rw [memB_iff (by omega)]
      simp [e]
theorem memB_true {l : List Int} {x : Int} : memB l x = true ↔ x ∈ l := by
  unfold memB
  rw [leb_iff]; exact memB_iff (by omega)
theorem dcd_ok {a k : List Int} (h : dcd a k = 0) : okF a k 8 = true := by
  unfold dcd at h
  split at h
  · rename_i hc
    have hl := (chk_ok hc).1
    cases hm : memB k 3 with
    | true => rw [hm] at h; simp [bI] at h
    | false =>
      refine okF_of hl.symm ?_ fun x hx e => ?_
      · unfold chk at hc; rw [if_pos hl] at hc; exact hc
      · subst e; rw [memB_true.2 hx] at hm; cases hm
  · contradiction
theorem okF_get {a k : List Int} (h : okF a k 8 = true) {n : Nat} (hn : n < a.length) : 1 ≤ a[n]?.getD 0 ∧ a[n]?.getD 0 ≤ 8 := (okF_ok (by omega) h).1 _ (getD_mem hn)

theorem keep_no {n i m : Nat} (h : keepB n i m = false) : keepL n i (m + 1) = keepL n i m := filter_no h
theorem keep_yes {n i m : Nat} (h : keepB n i m = true) : keepL n i (m + 1) = keepL n i m ++ [m] := filter_yes h
theorem keep_len {n i m : Nat} : (keepL n i m).length ≤ m := Nat.le_trans (List.length_filter_le _ _) (by simp)
theorem sp40 (a k : List Int) (i : Int) (hok : okF a k 8 = true) (h2 : 2 ≤ a.length) (h0 : 0 ≤ i) (hi : i < a.length) : SpecP Tryd.prog G 40 [fanV a k, .int .i64 i] (.agg [immL .i64 (doneA a i.toNat), immL .u8 (doneK k i.toNat)]) [] := by
  refine fnP_spec hcm hmx TB1ok ok40 rfl (ob_o40 a k i) ?_
  obtain ⟨hk, hz⟩ := okF_len hok
  have hz := hz (by omega)
  obtain ⟨m, rfl⟩ : ∃ m : Nat, i = m := ⟨i.toNat, by omega⟩
  simp only [Int.toNat_natCast]
  have hm : m < a.length := by omega
  simp only [ltb_iff, ltb_no, leb_iff, leb_no, ltn_iff, ltn_no, len'_iff, len'_no, inR_i64, inR_u8, inR_i32, size_ints, size_bools, size_vals, size_cells, getD_drop, List.getElem?_drop, beq_iff_eq, beq_eq_false_iff_ne, bne_iff_ne, bne_eq_false_iff_eq, ne_eq, Nat.zero_add, Nat.add_zero, Nat.mul_one, Int.toNat_natCast, and_true, true_and, List.length_drop, List.length_append, List.length_cons, List.length_nil, List.length_set, List.getD_eq_getElem?_getD, implies_true, iI, iL, Bool.not_eq_true', Bool.not_eq_false', Int.natCast_inj]
  refine ⟨⟨0, rfl, by omega, rfl, rfl⟩, ?_⟩
  rintro ⟨j, A, K⟩ ⟨n, rfl, hn, hA, hK⟩
  simp only at hA hK
  have hla : A.length ≤ n := by rw [hA]; simpa using keep_len
  have hlk : K.length ≤ n := by rw [hK]; simpa using keep_len
  have hm1 : (m + 1) % a.length < a.length := Nat.mod_lt _ (by omega)
  have hm2 : (m + a.length - 1) % a.length < a.length := Nat.mod_lt _ (by omega)
  have g1 := okF_get hok hm1
  have g2 := okF_get hok hm
  simp only [Int.toNat_natCast, tm1, tm2 (show 0 < a.length by omega), hk, List.length_append, List.length_cons, List.length_nil]
  refine ⟨fun hlt => ?_, fun hge => ?_⟩
  · have g3 := okF_get hok (show n < a.length by omega)
    have fin : keepB a.length m n = false → ∃ n_1 : Nat, (n : Int) + 1 = n_1 ∧ n_1 ≤ a.length ∧ A = (keepL a.length m n_1).map (valF a m) ∧ K = (keepL a.length m n_1).map (gt k) := fun h => ⟨n + 1, by omega, by omega, by rw [keep_no h, hA], by rw [keep_no h, hK]⟩
    have fy : keepB a.length m n = true → ∀ v w, valF a m n = v → gt k n = w → ∃ n_1 : Nat, (n : Int) + 1 = n_1 ∧ n_1 ≤ a.length ∧ A ++ [v] = (keepL a.length m n_1).map (valF a m) ∧ K ++ [w] = (keepL a.length m n_1).map (gt k) := fun h v w hv hw => ⟨n + 1, by omega, by omega, by rw [keep_yes h, hA]; simp [hv], by rw [keep_yes h, hK]; simp [hw]⟩
    refine ⟨fun he => ⟨by omega, fin ?_, by omega⟩, fun he => ⟨by omega, by omega, fun h1 => ⟨by omega, fin ?_, by omega⟩, fun h1 => ⟨by omega, by omega, by omega, by omega, by omega, by omega, fun h3 => ?_, fun h3 => ?_⟩⟩⟩
    · have : n = m := by omega
      simp [keepB, this]
    · have : n = (m + 1) % a.length := by omega
      simp [keepB, this]
    · have hkb : keepB a.length m n = true := by
        have e1 : n ≠ m := by omega
        have e2 : n ≠ (m + 1) % a.length := by omega
        simp [keepB, e1, e2]
      have hv : valF a m n = a[n]?.getD 0 + (a[(m + 1) % a.length]?.getD 0 - a[m]?.getD 0) := by
        have e3 : n = (m + a.length - 1) % a.length := by omega
        unfold valF; rw [if_pos (by simpa using e3)]; rfl
      refine ⟨by omega, by omega, by omega, by omega, by omega, by omega, by omega, by omega, by omega, by omega, by omega, by omega, by omega, by omega, by omega, by omega, by omega, by omega, by omega, fy hkb _ _ hv rfl, by omega⟩
    · have hkb : keepB a.length m n = true := by
        have e1 : n ≠ m := by omega
        have e2 : n ≠ (m + 1) % a.length := by omega
        simp [keepB, e1, e2]
      have hv : valF a m n = a[n]?.getD 0 := by
        have e3 : n ≠ (m + a.length - 1) % a.length := by omega
        unfold valF; rw [if_neg (by simpa using e3)]; rfl
      refine ⟨by omega, by omega, by omega, by omega, by omega, by omega, by omega, fy hkb _ _ hv rfl, by omega⟩
  · have e : n = a.length := by omega
    subst e
    have eA : A = doneA a m := hA
    have eK : K = doneK k m := by rw [hK]; unfold doneK; rw [hk]
    rw [eA, eK]; simp
theorem ct40 : CtOk Tryd.prog G 40 e40 := by
  intro args r h hp
  unfold e40 at h
  split at h <;> cases h
  obtain ⟨rfl, rfl, h1, h2, h3, h4⟩ := hp
  exact (sp40 _ _ _ h1 h2 h3 h4).caps
theorem tlDok : CtsOk Tryd.prog G tlD := ⟨ct40, tlCok⟩
theorem TD1ok : TabOk Tryd.prog G TD1 := tabL_ok noCh_ok tlDok
theorem bLs_no {b : Bool} {l : List Int} (h : b = false) : bLs b l = [] := by rw [h]; rfl
theorem bLs_yes {b : Bool} {l : List Int} (h : b = true) : bLs b l = l := by rw [h]; rfl
theorem sp15 (a k : List Int) (hz : a.length < 1000000000) (hk : k.length < 1000000000) : SpecP Tryd.prog G 15 [fanV a k] (.tup [immL .i64 (bLs (okD a k) (stI a k)), .int .i64 (dcd a k)]) [] := by
  refine fnP_spec hcm hmx TC1ok ok15 rfl (ob_o15 a k) ?_
  simp only [ltb_iff, ltb_no, leb_iff, leb_no, ltn_iff, ltn_no, len'_iff, len'_no, inR_i64, inR_u8, inR_i32, size_ints, size_bools, size_vals, size_cells, getD_drop, List.getElem?_drop, beq_iff_eq, beq_eq_false_iff_ne, bne_iff_ne, bne_eq_false_iff_eq, ne_eq, Nat.zero_add, Nat.add_zero, Nat.mul_one, Int.toNat_natCast, and_true, true_and, List.length_drop, List.length_append, List.length_cons, List.length_nil, List.length_set, List.getD_eq_getElem?_getD, implies_true, iI, iL, Bool.not_eq_true', Bool.not_eq_false', Int.natCast_inj]
  refine ⟨by omega, fun h => ?_, fun h => ?_⟩
  · rw [bLs_no (by simpa [okD] using h)]; simp
  · have := (okF_len (dcd_ok h)).1
    rw [bLs_yes (by simpa [okD] using h)]
    exact ⟨⟨this, hz⟩, rfl, rfl, rfl, h.symm⟩
theorem ct15 : CtOk Tryd.prog G 15 e15 := by
  intro args r h hp
  unfold e15 at h
  split at h <;> cases h
  obtain ⟨rfl, rfl, h1, h2⟩ := hp
  exact (sp15 _ _ h1 h2).caps
theorem stI_lt {a k : List Int} {i : Int} (h : isS a k i = true) : 4 ≤ a.length ∧ 0 ≤ i ∧ i < a.length ∧ i.toNat ∈ stepsN a k := by
  have := memB_true.1 h
  simp only [stI, inL, List.mem_map] at this
  obtain ⟨j, hj, rfl⟩ := this
  have := steps_lt hj
  refine ⟨this.1, by simp, by simp; omega, by simpa using hj⟩
theorem stI_len {a k : List Int} : (stI a k).length ≤ a.length := by
  simp only [stI, inL, List.length_map, stepsN]
  split
  · simp
  · exact Nat.le_trans (List.length_filter_le _ _) (by simp)
theorem sp16 (a k : List Int) (i : Int) (hz : a.length < 1000000000) (hk : k.length < 1000000000) : SpecP Tryd.prog G 16 [fanV a k, .int .i64 i] (.tup [.agg [immL .i64 (bLs (doB a k i) (doneA a i.toNat)), immL .u8 (bLs (doB a k i) (doneK k i.toNat))], .int .i64 (doE a k i)]) [] := by
  refine fnP_spec hcm hmx TD1ok ok16 rfl (ob_o16 a k i) ?_
  simp only [ltb_iff, ltb_no, leb_iff, leb_no, ltn_iff, ltn_no, len'_iff, len'_no, inR_i64, inR_u8, inR_i32, size_ints, size_bools, size_vals, size_cells, getD_drop, List.getElem?_drop, beq_iff_eq, beq_eq_false_iff_ne, bne_iff_ne, bne_eq_false_iff_eq, ne_eq, Nat.zero_add, Nat.add_zero, Nat.mul_one, Int.toNat_natCast, and_true, true_and, List.length_drop, List.length_append, List.length_cons, List.length_nil, List.length_set, List.getD_eq_getElem?_getD, implies_true, iI, iL, Bool.not_eq_true', Bool.not_eq_false', Int.natCast_inj]
  refine ⟨by omega, fun h => ?_, fun h => ?_⟩
  · have e : doB a k i = false := by simp [doB, okD, h]
    rw [bLs_no e, bLs_no e]; simp [doE, h]
  · have := okF_len (dcd_ok h)
    have hl := stI_len (a := a) (k := k)
    refine ⟨⟨this.1, hz⟩, by omega, fun hm => ?_, fun hm => ?_⟩
    · have e : doB a k i = false := by simp [doB, isS, hm]
      rw [bLs_no e, bLs_no e]; simp [doE, h, isS, hm, bI]
    · have e : doB a k i = true := by simp [doB, okD, h, isS, hm]
      have hs := stI_lt (show isS a k i = true from hm)
      rw [bLs_yes e, bLs_yes e]
      exact ⟨⟨dcd_ok h, by omega, hs.2.1, hs.2.2.1⟩, rfl, rfl, rfl, rfl, rfl, rfl, by simp [doE, h, isS, hm, bI]⟩
theorem ct16 : CtOk Tryd.prog G 16 e16 := by
  intro args r h hp
  unfold e16 at h
  split at h <;> cases h
  obtain ⟨rfl, rfl, h1, h2⟩ := hp
  exact (sp16 _ _ _ h1 h2).caps
end Go.Proofs.YtfafinkgmhkdmaaDoor.X
