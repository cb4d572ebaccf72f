/-
 The contract of the reference's back side.
-/
import Derived.Test.YtfpcbimohikhmaaDoorC11Z
set_option maxRecDepth 1000000
set_option linter.unusedVariables false
set_option linter.unusedSimpArgs false
namespace Go.Proofs.YtfpcbimohikhmaaDoor.X
open Go Go.Ab

theorem cE2ok : CtsOk Tryd.prog G cE2' := ⟨ct63, ct28, ct23, ct19u, ct20, trivial⟩
theorem CE2ok : TabOk Tryd.prog G CE2 := tabL_ok noCh_ok cE2ok
theorem stO_len (w : Int) (us : List Int) (a v : Int) (o : List Int) (h : o.length = us.length) : (stO w us a v o).length = us.length := by
 unfold stO; rw [List.length_zipWith, h, Nat.min_self]
theorem stO_at {w a v : Int} {us o : List Int} {k : Nat} (h1 : k < us.length) (h2 : k < o.length) (h3 : k < (stO w us a v o).length) : (stO w us a v o)[k] = bif mtU w a us[k] then v else o[k] := List.getElem_zipWith ..
theorem mix_same {α : Type} {A l : List α} {n : Nat} (hA : A.length = l.length) (h : n < l.length) (he : A[n]'(by omega) = l[n]) : A.take n ++ l.drop n = A.take (n + 1) ++ l.drop (n + 1) := by
 rw [take_at (by omega : n < A.length), drop_at h, he, List.append_assoc]; rfl
/-- The ends of units of small sheets are small. -/
def enOk (w h i e : Int) : Bool := (List.range 4).all fun j => leb (-100) (enV w i e j) && leb (enV w i e j) 100
theorem en_all : overS 5 enOk = true := by kernel_rfl
theorem en_bd {w h c e : Int} (hs : s5 w h) (h0 : 0 ≤ c ∧ c < 4 * w * h) (he : 0 ≤ e ∧ e ≤ 2) (j : Nat) (hj : j < 4) : -100 ≤ enV w c e j ∧ enV w c e j ≤ 100 := by
 obtain ⟨s1, s2, s3, s4⟩ := hs
 have h1 := overS_ok en_all ⟨s1, s2⟩ ⟨s3, s4⟩ h0 he
 have h2 := List.all_eq_true.1 h1 j (List.mem_range.2 hj)
 simpa using h2
set_option maxHeartbeats 1000000 in
theorem sp26 (w h : Int) (l : List Cr) (hs : s5 w h) (hz : l.length < 1000000000) : SpecP Tryd.prog G 26 [patV w h l] (.agg [.int .i64 w, .int .i64 h, .full 0 (rtL w h l).length]) [blkC (flatC (rtL w h l)) (rtL w h l).length] := by
 refine fnP_spec hcm hmx CE2ok ok26 rfl (ob_o26 w h l) ?_
 rw [unC_flat]
 have hu := units_len hs
 have hun : ∀ {n : Nat}, n < (units w h).length → 0 ≤ uC (units w h) n ∧ uC (units w h) n < 4 * w * h ∧ 0 ≤ uE (units w h) n ∧ uE (units w h) n ≤ 2 := fun hn => un_ok hn hs
 have hen : ∀ {n : Nat}, n < (units w h).length → ∀ j, j < 4 → -100 ≤ enV w (uC (units w h) n) (uE (units w h) n) j ∧ enV w (uC (units w h) n) (uE (units w h) n) j ≤ 100 := fun hn j hj => by
  obtain ⟨a1, a2, a3, a4⟩ := hun hn
  exact en_bd hs ⟨a1, a2⟩ ⟨a3, a4⟩ j hj
 have hkl := kindsL_len (units w h) l
 unfold rtL
 generalize kindsL (units w h) l = ks at *
 generalize units w h = us at *
 obtain ⟨s1, s2, s3, s4⟩ := id hs
 simp only [ltb_iff, ltb_no, leb_iff, leb_no, len'_iff, ltn_iff, inR_i64, inR_u8, and_true, true_and, size_vals, size_ints, Int.toNat_natCast]
 refine ⟨hs, ⟨hs, okA_flat hz⟩, by omega, by omega, ⟨0, by simp, by omega, by simp, by simp⟩, ?_⟩
 rintro ⟨i, o⟩ ⟨n, hi, hn, ho, he⟩
 simp only at hi ho he ⊢
 subst hi
 simp only [Int.toNat_natCast]
 refine ⟨fun hlt => ?_, fun hge => ?_⟩
 ·have g1 : n < us.length := by omega
  have gk : n < ks.length := by omega
  obtain ⟨u1, u2, u3⟩ := uAt g1
  obtain ⟨q1, q2, q3, q4⟩ := hun g1
  have hua : us[n]?.getD 0 = 3 * uC us n + uE us n := by rw [List.getElem?_eq_getElem g1]; exact u1
  have b0 := (uget g1).1
  have b1 := (uget g1).2
  rw [List.drop_zero] at b0
  have b1' : (List.drop (n * 2) (flatU us))[1]? = some (.int .u8 (uE us n)) := (List.getElem?_drop ..).symm.trans b1
  refine ⟨by omega, by omega, by rw [flatU_len]; omega, b0, b1', ⟨hs, q1, q2, q3, q4⟩, ⟨0, by simp, by omega, by simp⟩, ?_⟩
  have hsl := stO_len w us (us[n]?.getD 0) (otK (ks[n]?.getD 0)) o ho
  rintro ⟨j, l'⟩ ⟨k, hj, hk, hl'⟩
  simp only at hj hl' ⊢
  subst hj
  simp only [Int.toNat_natCast]
  refine ⟨fun hlt2 => ?_, fun hge2 => ?_⟩
  ·have g2 : k < us.length := by omega
   have g3 : k < o.length := by omega
   obtain ⟨v1, v2, v3⟩ := uAt g2
   obtain ⟨r1, r2, r3, r4⟩ := hun g2
   have d0 := (uget g2).1
   have d1 := (uget g2).2
   rw [List.drop_zero] at d0
   have d1' : (List.drop (k * 2) (flatU us))[1]? = some (.int .u8 (uE us k)) := (List.getElem?_drop ..).symm.trans d1
   have E0 := hen g1 0 (by omega)
   have E2 := hen g1 2 (by omega)
   have h3 : ∀ (a : Int) (b : Int), 0 ≤ b ∧ b ≤ 2 → (3 * a + b) / 3 = a ∧ (3 * a + b) % 3 = b := fun a b hb => by omega
   have ha := h3 (uC us n) (uE us n) ⟨q3, q4⟩
   have hb := h3 (uC us k) (uE us k) ⟨r3, r4⟩
   have hll : l'.length = us.length := by rw [hl', mix_len (hsl.trans ho.symm) (by omega), ho]
   refine ⟨by omega, by omega, by rw [flatU_len]; omega, d0, d1', ⟨hs, r1, r2, r3, r4⟩, by omega, ⟨⟨by omega, fun hc => ⟨by omega, ?_⟩, fun hc => ?_⟩, ?_⟩⟩
   ·unfold mt1 eU
    rw [ha.1, ha.2, hb.1, hb.2, hc, Bool.true_and]
   ·unfold mt1 eU
    rw [ha.1, ha.2, hb.1, hb.2, hc, Bool.false_and]
   rintro ⟨x1⟩ hx1
   simp only at hx1 ⊢
   refine ⟨⟨by omega, fun hc => ⟨by omega, ?_⟩, fun hc => ?_⟩, ?_⟩
   ·unfold mt2 eU
    rw [ha.1, ha.2, hb.1, hb.2, hc, Bool.true_and]
   ·unfold mt2 eU
    rw [ha.1, ha.2, hb.1, hb.2, hc, Bool.false_and]
   rintro ⟨x2⟩ hx2
   simp only at hx2 ⊢
   have hmt : mtU w (3 * uC us n + uE us n) (3 * uC us k + uE us k) = (x1 || x2) := by unfold mtU; rw [hx1, hx2]
   rw [hmt]
   have hgd : List.getD ks n 0 = ks[n]?.getD 0 := by simp [List.getD_eq_getElem?_getD]
   rw [hgd]
   refine ⟨⟨fun h1 => ⟨by omega, by omega, by omega, by omega, by omega, by omega, ?_⟩, fun h1 => ⟨fun h2 => ⟨by omega, by omega, by omega, by omega, by omega, by omega, ?_⟩, fun h2 => ?_⟩⟩, ?_⟩
   ·rw [h1]; rfl
   ·rw [h2, Bool.or_true]; rfl
   ·rw [h1, h2]; rfl
   rintro ⟨x⟩ hx
   simp only at hx ⊢
   refine ⟨by omega, ⟨k + 1, by omega, by omega, ?_⟩, by omega⟩
   have hat := stO_at (w := w) (a := us[n]?.getD 0) (v := otK (ks[n]?.getD 0)) g2 g3 (by omega)
   have hm2 : mtU w (us[n]?.getD 0) us[k] = (x1 || x2) := by rw [hua, v1]; exact hmt
   rw [hm2] at hat
   rw [hx, hl']
   have hA : (stO w us (us[n]?.getD 0) (otK (ks[n]?.getD 0)) o).length = o.length := hsl.trans ho.symm
   rcases bool_or (x1 || x2) with hb2 | hb2
   ·rw [hb2, cond_true]
    rw [hb2, cond_true] at hat
    have := mix_set hA g3
    rw [hat] at this
    exact this
   ·rw [hb2, cond_false]
    rw [hb2, cond_false] at hat
    exact mix_same hA g3 hat
  ·have hkk : k = us.length := by omega
   subst hkk
   have hl2 : l' = stO w us (us[n]?.getD 0) (otK (ks[n]?.getD 0)) o := by
    rw [hl', List.take_of_length_le (by omega), List.drop_of_length_le (by omega), List.append_nil]
   refine ⟨by omega, ⟨n + 1, by omega, by omega, by rw [hl2]; exact hsl, ?_⟩, by omega⟩
   have hzl : n < (prO us ks).length := by unfold prO; rw [List.length_zip, List.length_map]; omega
   have hz2 : (prO us ks)[n] = (us[n]?.getD 0, otK (ks[n]?.getD 0)) := by
    rw [List.getElem?_eq_getElem g1, List.getElem?_eq_getElem gk]
    exact (List.getElem_zip ..).trans (by rw [List.getElem_map]; rfl)
   rw [drop_at hzl, hz2] at he
   rw [hl2]
   exact he
 ·have hnn : n = us.length := by omega
  subst hnn
  have hd : (prO us ks).drop us.length = [] := List.drop_of_length_le (by unfold prO; rw [List.length_zip, List.length_map]; omega)
  rw [hd] at he
  have he' : o = outO w us (prO us ks) (List.replicate us.length 0) := he
  rw [← he']
  simp only [true_and, and_true]
  exact ⟨hs, ho.symm, by omega⟩
theorem ct26 : CtOk Tryd.prog G 26 e26 := by
 intro args r h hp
 unfold e26 at h
 split at h <;> cases h
 rename_i w h a n _
 obtain ⟨hs, h1, h2, h3⟩ := hp
 generalize unC a = l at *
 subst h1 h2
 exact (sp26 _ _ _ hs h3).caps
end Go.Proofs.YtfpcbimohikhmaaDoor.X
