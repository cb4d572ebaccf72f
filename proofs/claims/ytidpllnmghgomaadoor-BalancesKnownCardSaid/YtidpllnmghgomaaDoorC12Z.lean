/-
  The law on what fans lack.
-/
import Derived.Test.YtidpllnmghgomaaDoorC11Z
set_option maxRecDepth 1000000
set_option linter.unusedVariables false
set_option linter.unusedSimpArgs false
namespace Go.Proofs.YtidpllnmghgomaaDoor.X
open Go Go.Ab

theorem tm2 (x : Int) : x.tmod 2 = 0 ↔ x % 2 = 0 :=
  ⟨fun h => Int.emod_eq_zero_of_dvd (Int.dvd_of_tmod_eq_zero h), fun h => Int.tmod_eq_zero_of_dvd (Int.dvd_of_emod_eq_zero h)⟩
theorem sp7 (c l : Int) (ks : List Int) (y : Int) (hk : okK ks) (hy : 0 ≤ y ∧ y ≤ 255) : SpecP Tryd.prog G 7 [fV c l ks, .int .u8 y] (.bool true) [] := by
  obtain ⟨hl, h8, ha, hkd⟩ := of_ok (c := c) (l := l) hk
  have hch := of_chk (c := c) (l := l) hk
  have hpt : ptB (ofA c l ks) (ofK c ks) = true ↔ 0 < (shps (ofA c l ks) (ofK c ks)).length := by
    unfold ptB; rw [bne_iff_ne]; omega
  have hun := unb_iff (ofA c l ks) (ofK c ks)
  have c1 := cntK_bound (ofK c ks) 1
  have c2 := cntK_bound (ofK c ks) 2
  have c3 := cntK_bound (ofK c ks) 3
  have hd : dif (ofK c ks) = cntK (ofK c ks) 1 - cntK (ofK c ks) 2 := rfl
  have hok := isOk_t hch
  by_cases hA : (ofA c l ks).length = 0
  · refine fnP_spec hcm hmx TDok ok7 rfl (ob_o7z c l ks y) ?_
    generalize ofA c l ks = A at *
    generalize ofK c ks = K at *
    have hS : (0 < ((shps A K).length : Int) → 4 = wS A K) ∧ (((shps A K).length : Int) ≤ 0 → 0 = wS A K) := by
      unfold wS
      exact ⟨fun h => by rw [if_pos (hpt.2 (by omega))], fun h => by rw [if_neg (fun e => by have := hpt.1 e; omega)]⟩
    have hA' : (¬ sumP true A = sumP false A → 2 = wA A K) ∧ (sumP true A = sumP false A → wD A K = wA A K) := by
      unfold wA unevB
      exact ⟨fun h => by rw [if_pos (bne_iff_ne.2 h)], fun h => by rw [if_neg (fun e => bne_iff_ne.1 e h)]⟩
    have hL : ((A.length : Int).tmod 2 = 1 → 1 = lk A K) ∧ (¬ (A.length : Int).tmod 2 = 1 → wA A K = lk A K) := by
      unfold lk wA wD wS oddB
      exact ⟨fun h => by rw [if_pos (beq_iff_eq.2 h)], fun h => by rw [if_neg (fun e => h (beq_iff_eq.1 e))]⟩
    have hDm := dif_eq fun x => cntK_mir K x
    have hCm := cntK_mir K
    obtain ⟨o1, o2, o3⟩ := cntK_ov (k := mirK K) (fun x hx => hkd x (mem_mir.1 hx))
    have hDo : dif (ovK (mirK K)) = - dif K := by rw [dif, o1, o2, hCm, hCm]; omega
    rw [hCm] at o3
    have hm1 := ok_mir hch
    have hm2 := ok_ov hm1
    simp only [ltb_iff, ltb_no, leb_iff, leb_no, ltn_iff, ltn_no, len'_iff, len'_no, inR_i64, inR_u8, inR_i32, size_ints, size_bools, size_vals, size_cells, getD_drop, List.getElem?_drop, beq_iff_eq, beq_eq_false_iff_ne, bne_iff_ne, bne_eq_false_iff_eq, ne_eq, Nat.zero_add, Nat.add_zero, Nat.mul_one, Int.toNat_natCast, and_true, true_and, List.length_drop, List.length_append, List.length_cons, List.length_nil, List.length_set, List.getD_eq_getElem?_getD, implies_true, iI, iL, Bool.not_eq_true', Bool.not_eq_false', Int.natCast_inj, tm2, hok, bI, bL, cond_true, isOk_t (ok_mir hch), isOk_t (ok_ov (ok_mir hch)), lk_mir hch, lk_ov (ok_mir hch), List.length_reverse, len_rot, hDm, hCm, hDo, o3, hch, hm1, hm2, hk]
    refine ⟨by omega, by omega, by omega, by omega, hS, ?_⟩
    intro b hb
    refine ⟨?_, ?_⟩
    · by_cases hu : unbB A K = true
      · have e : wD A K = 3 := by rw [wD, if_pos hu]
        have hn := hun.1 hu
        rw [e]
        repeat' (first | apply And.intro | intro _)
        all_goals omega
      · have e : wD A K = b.v := by rw [wD, if_neg hu]; exact hb.symm
        have hn := mt hun.2 hu
        rw [e]
        repeat' (first | apply And.intro | intro _)
        all_goals omega
    · rintro b1 hb1; rw [hb1]
      refine ⟨hA', ?_⟩
      rintro b2 hb2; rw [hb2]
      refine ⟨hL, ?_⟩
      rintro b3 hb3
      rw [hb3]
      repeat' apply And.intro
      all_goals omega
  · refine fnP_spec hcm hmx TDok ok7 rfl (ob_o7p c l ks y) ?_
    have hi1 : 0 ≤ y.tmod (ofA c l ks).length := Int.tmod_nonneg _ hy.1
    have hi2 : y.tmod (ofA c l ks).length < (ofA c l ks).length := Int.tmod_lt_of_pos _ (by omega)
    generalize ofA c l ks = A at *
    generalize ofK c ks = K at *
    obtain ⟨i, hi⟩ : ∃ i : Nat, y.tmod A.length = i := ⟨_, (Int.toNat_of_nonneg hi1).symm⟩
    have hir := ok_rot hch i
    have hle : i ≤ A.length := by omega
    have hS : (0 < ((shps A K).length : Int) → 4 = wS A K) ∧ (((shps A K).length : Int) ≤ 0 → 0 = wS A K) := by
      unfold wS
      exact ⟨fun h => by rw [if_pos (hpt.2 (by omega))], fun h => by rw [if_neg (fun e => by have := hpt.1 e; omega)]⟩
    have hA' : (¬ sumP true A = sumP false A → 2 = wA A K) ∧ (sumP true A = sumP false A → wD A K = wA A K) := by
      unfold wA unevB
      exact ⟨fun h => by rw [if_pos (bne_iff_ne.2 h)], fun h => by rw [if_neg (fun e => bne_iff_ne.1 e h)]⟩
    have hL : ((A.length : Int).tmod 2 = 1 → 1 = lk A K) ∧ (¬ (A.length : Int).tmod 2 = 1 → wA A K = lk A K) := by
      unfold lk wA wD wS oddB
      exact ⟨fun h => by rw [if_pos (beq_iff_eq.2 h)], fun h => by rw [if_neg (fun e => h (beq_iff_eq.1 e))]⟩
    have hDm := dif_eq fun x => cntK_mir K x
    have hCm := cntK_mir K
    obtain ⟨o1, o2, o3⟩ := cntK_ov (k := mirK K) (fun x hx => hkd x (mem_mir.1 hx))
    have hDo : dif (ovK (mirK K)) = - dif K := by rw [dif, o1, o2, hCm, hCm]; omega
    rw [hCm] at o3
    have hm1 := ok_mir hch
    have hm2 := ok_ov hm1
    have hDr := dif_eq fun x => cntK_rot K i x
    have hCr := cntK_rot K i
    simp only [ltb_iff, ltb_no, leb_iff, leb_no, ltn_iff, ltn_no, len'_iff, len'_no, inR_i64, inR_u8, inR_i32, size_ints, size_bools, size_vals, size_cells, getD_drop, List.getElem?_drop, beq_iff_eq, beq_eq_false_iff_ne, bne_iff_ne, bne_eq_false_iff_eq, ne_eq, Nat.zero_add, Nat.add_zero, Nat.mul_one, Int.toNat_natCast, and_true, true_and, List.length_drop, List.length_append, List.length_cons, List.length_nil, List.length_set, List.getD_eq_getElem?_getD, implies_true, iI, iL, Bool.not_eq_true', Bool.not_eq_false', Int.natCast_inj, tm2, hok, bI, bL, cond_true, isOk_t (ok_mir hch), isOk_t (ok_ov (ok_mir hch)), lk_mir hch, lk_ov (ok_mir hch), List.length_reverse, len_rot, hi, isOk_t hir, lk_rot hch hle, hDm, hCm, hDo, o3, hDr, hCr, hch, hm1, hm2, hir, hk]
    refine ⟨by omega, by omega, by omega, by omega, hS, ?_⟩
    intro b hb
    refine ⟨?_, ?_⟩
    · by_cases hu : unbB A K = true
      · have e : wD A K = 3 := by rw [wD, if_pos hu]
        have hn := hun.1 hu
        rw [e]
        repeat' (first | apply And.intro | intro _)
        all_goals omega
      · have e : wD A K = b.v := by rw [wD, if_neg hu]; exact hb.symm
        have hn := mt hun.2 hu
        rw [e]
        repeat' (first | apply And.intro | intro _)
        all_goals omega
    · rintro b1 hb1; rw [hb1]
      refine ⟨hA', ?_⟩
      rintro b2 hb2; rw [hb2]
      refine ⟨hL, ?_⟩
      rintro b3 hb3
      rw [hb3]
      repeat' apply And.intro
      all_goals omega
end Go.Proofs.YtidpllnmghgomaaDoor.X
