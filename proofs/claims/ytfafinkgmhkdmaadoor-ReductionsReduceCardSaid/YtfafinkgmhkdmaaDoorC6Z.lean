/-
  The contract of a fan behind an angle, by the law's definition.
-/
import Derived.Test.YtfafinkgmhkdmaaDoorC5Z
set_option maxRecDepth 1000000
set_option linter.unusedVariables false
set_option linter.unusedSimpArgs false
namespace Go.Proofs.YtfafinkgmhkdmaaDoor.X
open Go Go.Ab

def ixAll : Bool := (List.range 9).all fun n => (List.range n).all fun i => n < 4 || (List.range (n - 2)).map (fun t => ixN n i ((fsN n i (n - 2) + t) % (n - 2))) == keepL n i n
theorem ix_all : ixAll = true := by decide +kernel
theorem ix_eq {n i : Nat} (h4 : 4 ≤ n) (h8 : n ≤ 8) (hi : i < n) : (List.range (n - 2)).map (fun t => ixN n i ((fsN n i (n - 2) + t) % (n - 2))) = keepL n i n := by
  have := ix_all
  simp only [ixAll, List.all_eq_true, List.mem_range, Bool.or_eq_true, decide_eq_true_eq, beq_iff_eq] at this
  rcases this n (by omega) i hi with h | h
  · omega
  · exact h
theorem pA_get {a : List Int} {i m j : Nat} (h : j < m) : gt (pA a i m) j = valF a i (ixN a.length i j) := by
  simp [gt, pA, h]
theorem pK_get {k : List Int} {n i m j : Nat} (h : j < m) : gt (pK k n i m) j = gt k (ixN n i j) := by
  simp [gt, pK, h]
theorem q_A {a : List Int} {i : Nat} (h4 : 4 ≤ a.length) (h8 : a.length ≤ 8) (hi : i < a.length) : qL (pA a i (a.length - 2)) (a.length - 2) (fsN a.length i (a.length - 2)) (a.length - 2) = doneA a i := by
  unfold qL doneA
  rw [← ix_eq h4 h8 hi, List.map_map]
  refine List.map_congr_left fun t ht => ?_
  rw [pA_get (Nat.mod_lt _ (by omega))]; rfl
theorem q_K {k : List Int} {i : Nat} (h4 : 4 ≤ k.length) (h8 : k.length ≤ 8) (hi : i < k.length) : qL (pK k k.length i (k.length - 2)) (k.length - 2) (fsN k.length i (k.length - 2)) (k.length - 2) = doneK k i := by
  unfold qL doneK
  rw [← ix_eq h4 h8 hi, List.map_map]
  refine List.map_congr_left fun t ht => ?_
  rw [pK_get (Nat.mod_lt _ (by omega))]; rfl
theorem pA_len (a : List Int) (i m : Nat) : (pA a i m).length = m := by simp [pA]
theorem pK_len (k : List Int) (n i m : Nat) : (pK k n i m).length = m := by simp [pK]
theorem qL_len (l : List Int) (n f m : Nat) : (qL l n f m).length = m := by simp [qL]
theorem pA_succ (a : List Int) (i m : Nat) : pA a i (m + 1) = pA a i m ++ [valF a i (ixN a.length i m)] := by simp [pA, List.range_succ]
theorem pK_succ (k : List Int) (n i m : Nat) : pK k n i (m + 1) = pK k n i m ++ [gt k (ixN n i m)] := by simp [pK, List.range_succ]
theorem qL_succ (l : List Int) (n f m : Nat) : qL l n f (m + 1) = qL l n f m ++ [gt l ((f + m) % n)] := by simp [qL, List.range_succ]
theorem isS_iff {a k : List Int} {i : Nat} (h : i < a.length) : isS a k i = true ↔ 4 ≤ a.length ∧ stB a k i = true := by
  unfold isS stI inL
  rw [memB_true, List.mem_map]
  have : (∃ a_1, a_1 ∈ stepsN a k ∧ Int.ofNat a_1 = (i : Int)) ↔ i ∈ stepsN a k := by
    refine ⟨?_, fun h => ⟨i, h, rfl⟩⟩
    rintro ⟨j, hj, e⟩
    have : j = i := Int.ofNat.inj e
    exact this ▸ hj
  rw [this]
  unfold stepsN
  split
  · simp; omega
  · simp [h]; omega
theorem fs_lt (n i : Nat) : ∀ m, fsN n i m ≤ m
  | 0 => Nat.le_refl _
  | m + 1 => by
    have := fs_lt n i m
    unfold fsN
    split <;> omega
theorem sp22 (a k : List Int) (i : Int) (hok : okF a k 8 = true) : SpecP Tryd.prog G 22 [fanV a k, .int .i64 i] (.tup [.agg [immN .i64 (bLs (isS a k i) (doneA a i.toNat)), immN .u8 (bLs (isS a k i) (doneK k i.toNat))], .bool (isS a k i)]) [] := by
  refine fnP_spec hcm hmx TD1ok ok22 rfl (ob_o22 a k i) ?_
  obtain ⟨hl, h8⟩ := okF_len hok
  have h8 := h8 (by omega)
  have hS : isS a k i = true → 4 ≤ a.length ∧ 0 ≤ i ∧ i < a.length := fun h => let s := stI_lt h; ⟨s.1, s.2.1, s.2.2.1⟩
  have hNo : isS a k i = false → (bLs (isS a k i) (doneA a i.toNat)).length = 0 ∧ (bLs (isS a k i) (doneK k i.toNat)).length = 0 := fun h => by rw [h]; exact ⟨rfl, rfl⟩
  have hF : ¬ (4 ≤ a.length ∧ 0 ≤ i ∧ i < a.length) → isS a k i = false := fun h => by
    rw [Bool.eq_false_iff]; exact fun e => h (hS e)
  have hB : badR a i = false ↔ 4 ≤ a.length ∧ 0 ≤ i ∧ i < a.length := by
    simp [badR]; omega
  simp only [ltb_iff, ltb_no, leb_iff, leb_no, ltn_iff, ltn_no, len'_iff, len'_no, inR_i64, inR_u8, inR_i32, size_ints, size_bools, size_vals, size_cells, getD_drop, List.getElem?_drop, beq_iff_eq, beq_eq_false_iff_ne, bne_iff_ne, bne_eq_false_iff_eq, ne_eq, Nat.zero_add, Nat.add_zero, Nat.mul_one, Int.toNat_natCast, and_true, true_and, List.length_drop, List.length_append, List.length_cons, List.length_nil, List.length_set, List.getD_eq_getElem?_getD, implies_true, iI, iL, Bool.not_eq_true', Bool.not_eq_false', Int.natCast_inj, List.drop_zero, Bool.and_eq_true, Bool.not_not, Bool.and_true, Bool.true_and]
  refine ⟨⟨fun h => ?_, fun h => ⟨fun h1 => ?_, fun h1 => ⟨fun h2 => ?_, fun h2 => ?_⟩⟩⟩, ?_⟩
  · have e := hF (by omega); rw [e]; exact ⟨rfl, rfl, rfl, rfl, rfl⟩
  · have e := hF (by omega); rw [e]; exact ⟨rfl, rfl, rfl, rfl, rfl⟩
  · have e := hF (by omega); rw [e]; exact ⟨rfl, rfl, rfl, rfl, rfl⟩
  · have e := hB.2 (by omega)
    exact ⟨by omega, e⟩
  · rintro ⟨v⟩ ⟨hv, hv2⟩
    obtain ⟨h4, h0, hi⟩ := hB.1 hv2
    obtain ⟨j, rfl⟩ : ∃ j : Nat, i = j := ⟨i.toNat, by omega⟩
    have hj : j < a.length := by omega
    have e1 : (j : Int) + a.length - 1 = ((j + a.length - 1 : Nat) : Int) := by omega
    have e2 : (j : Int) + 1 = ((j + 1 : Nat) : Int) := by omega
    have t1 : ∀ x y : Nat, ((x : Int)).tmod (y : Int) = ((x % y : Nat) : Int) := fun x y => rfl
    have m1 : (j + a.length - 1) % a.length < a.length := Nat.mod_lt _ (by omega)
    have m2 : (j + 1) % a.length < a.length := Nat.mod_lt _ (by omega)
    have g0 := okF_get hok hj
    have g1 := okF_get hok m1
    have g2 := okF_get hok m2
    have hst := stB_iff (a := a) (k := k) (n := j)
    have hiS := isS_iff (a := a) (k := k) hj
    simp only [e1, e2, t1, Int.toNat_natCast, hl]
    have hn : ∀ b : Bool, b = false → isS a k j = b → (bLs (isS a k j) (doneA a j)).length = 0 ∧ (bLs (isS a k j) (doneA a j)).length = 0 ∧ (bLs (isS a k j) (doneK k j)).length = 0 ∧ (bLs (isS a k j) (doneK k j)).length = 0 ∧ false = isS a k j := fun b hb h => by rw [h, hb]; exact ⟨rfl, rfl, rfl, rfl, rfl⟩
    refine ⟨by omega, by omega, by omega, by omega, by omega, fun c1 => ?_, fun c1 => ⟨fun c2 => ?_, fun c2 => ?_⟩⟩
    · have e : isS a k j = false := by rw [Bool.eq_false_iff]; intro h; have := hst.1 (hiS.1 h).2; omega
      have hn := hn false rfl e
      refine ⟨by omega, by omega, by omega, by omega, by omega, by omega, by omega, by omega, by omega, by omega, by omega, by omega, by omega, by omega, by omega, by omega, by omega, by omega, by omega, by omega, hn⟩
    · have e : isS a k j = false := by rw [Bool.eq_false_iff]; intro h; have := hst.1 (hiS.1 h).2; omega
      have hn := hn false rfl e
      have L1 := ltb_no.2 c1
      have L2 := ltb_iff.2 c2
      simp only [L1, L2, cond_false, Bool.not_false, true_and]
      repeat' first | exact hn | apply And.intro | omega
    · have L1 := ltb_no.2 c1
      have L2 := ltb_no.2 c2
      simp only [L1, L2, cond_false, Bool.not_false, true_and, Bool.true_and, imp_self, and_true, beq_iff_eq, beq_eq_false_iff_ne]
      refine ⟨by omega, by omega, by omega, by omega, by omega, by omega, by omega, by omega, by omega, by omega, by omega, by omega, by omega, by omega, by omega, by omega, by omega, by omega, by omega, by omega, by omega, by omega, by omega, by omega, fun c3 => ?_, fun c3 => ⟨⟨0, rfl, by omega, rfl, rfl, rfl⟩, ?_⟩⟩
      · exact hn false rfl (by rw [Bool.eq_false_iff]; intro h; have := hst.1 (hiS.1 h).2; omega)
      have eS : isS a k j = true := hiS.2 ⟨h4, hst.2 ⟨c3, c1, c2⟩⟩
      rintro ⟨f, kk, A, K⟩ ⟨m, rfl, hm, rfl, rfl, rfl⟩
      have hfl := fs_lt a.length j m
      have e3 : (j : Int) + ((m : Int) + 2) = ((j + (m + 2) : Nat) : Int) := by omega
      have e4 : (j : Int) + 2 + (fsN a.length j m : Int) = ((j + 2 + fsN a.length j m : Nat) : Int) := by omega
      have hfs : fsV a j (fsN a.length j m) ((m : Int) + 2) = (fsN a.length j (m + 1) : Int) := by
        unfold fsV
        rw [e3, e4, t1, t1]
        conv => rhs; unfold fsN
        split
        · rw [if_pos (by omega)]; omega
        · rw [if_neg (by omega)]
      have m3 : ixN a.length j m < a.length := Nat.mod_lt _ (by omega)
      have g3 := okF_get hok m3
      have hvl : vlV a j ((ixN a.length j m : Nat) : Int) = valF a j (ixN a.length j m) := by
        unfold vlV valF
        rw [e1, e2, t1, t1]
        simp only [Int.toNat_natCast, Int.natCast_inj, beq_iff_eq, gt]
        split
        · rename_i q; rw [q]; omega
        · rfl
      have eix : (j + (m + 2)) % a.length = ixN a.length j m := rfl
      have e2' : ((j : Int) + 2) = ((j + 2 : Nat) : Int) := by omega
      simp only [e3, e4, t1, Int.toNat_natCast, pA_len, pK_len, hfs, eix, hvl]
      have hv1 : ixN a.length j m = (j + a.length - 1) % a.length → a[(j + a.length - 1) % a.length]?.getD 0 + a[(j + 1) % a.length]?.getD 0 - a[j]?.getD 0 = valF a j (ixN a.length j m) := fun q => by
        unfold valF; rw [if_pos (by simpa using q), q]; simp only [gt]; omega
      have hv2 : ¬ ixN a.length j m = (j + a.length - 1) % a.length → a[ixN a.length j m]?.getD 0 = valF a j (ixN a.length j m) := fun q => by
        unfold valF; rw [if_neg (by simpa using q)]; rfl
      have hfn1 : ixN a.length j m < (j + 2 + fsN a.length j m) % a.length → fsN a.length j (m + 1) = m := fun q => by
        conv => lhs; unfold fsN
        rw [if_pos (by have : (j + (m + 2)) % a.length = ixN a.length j m := rfl; omega)]
      have hfn2 : (j + 2 + fsN a.length j m) % a.length ≤ ixN a.length j m → fsN a.length j (m + 1) = fsN a.length j m := fun q => by
        conv => lhs; unfold fsN
        rw [if_neg (by have : (j + (m + 2)) % a.length = ixN a.length j m := rfl; omega)]
      refine ⟨fun hlt => ?_, fun hge => ?_⟩
      · refine ⟨by omega, by omega, by omega, by omega, by omega, ⟨fun q => ⟨by omega, by have := hfn1 (by omega); omega⟩, fun q => by have := hfn2 (by omega); omega⟩, ?_⟩
        rintro ⟨f2⟩ rfl
        refine ⟨by omega, by omega, by omega, by omega, ⟨fun q => ?_, fun q => hv2 (by omega)⟩, ?_⟩
        · have := hv1 (by omega)
          refine ⟨by omega, by omega, by omega, by omega, by omega, by omega, by omega, by omega, by omega, by omega, by omega, by omega, by omega, by omega, this⟩
        · rintro ⟨v3⟩ rfl
          refine ⟨by omega, by omega, by omega, by omega, by omega, by omega, by omega, ⟨m + 1, by omega, by omega, rfl, (pA_succ ..).symm, (pK_succ ..).symm⟩, by omega⟩
      · obtain rfl : m = a.length - 2 := by omega
        refine ⟨⟨0, rfl, by omega, rfl, rfl⟩, ?_⟩
        rintro ⟨kk, A, K⟩ ⟨t, rfl, ht, rfl, rfl⟩
        have e5 : ((a.length : Int) - 2) = ((a.length - 2 : Nat) : Int) := by omega
        have e6 : (fsN a.length j (a.length - 2) : Int) + (t : Int) = ((fsN a.length j (a.length - 2) + t : Nat) : Int) := by omega
        have m5 : (fsN a.length j (a.length - 2) + t) % (a.length - 2) < a.length - 2 := Nat.mod_lt _ (by omega)
        simp only [e5, e6, t1, Int.toNat_natCast, qL_len]
        refine ⟨by omega, fun hl2 => ?_, fun hg2 => ?_⟩
        · refine ⟨by omega, by omega, by omega, by omega, by omega, by omega, by omega, by omega, by omega, by omega, by omega, by omega, by omega, by omega, by omega, ⟨t + 1, by omega, by omega, ?_, ?_⟩, by omega⟩
          · rw [qL_succ]; rfl
          · rw [qL_succ]; rfl
        · obtain rfl : t = a.length - 2 := by omega
          have q1 : qL (rA a j) (a.length - 2) (fsN a.length j (a.length - 2)) (a.length - 2) = doneA a j := q_A h4 (by omega) hj
          have q2 : qL (rK a k j) (a.length - 2) (fsN a.length j (a.length - 2)) (a.length - 2) = doneK k j := by
            have := q_K (k := k) (i := j) (by omega) (by omega) (by omega)
            rw [hl] at this
            exact this
          have l1 := congrArg List.length q1
          have l2 := congrArg List.length q2
          rw [qL_len] at l1 l2
          rw [eS, q1, q2]
          exact ⟨rfl, l1, rfl, l2, rfl⟩
theorem ct22 : CtOk Tryd.prog G 22 e22 := by
  intro args r h hp
  unfold e22 at h
  split at h <;> cases h
  obtain ⟨rfl, rfl, h1⟩ := hp
  exact (sp22 _ _ _ h1).caps
end Go.Proofs.YtfafinkgmhkdmaaDoor.X
