/-
 The reference's outline and connection: the contracts.
-/
import Derived.Test.YtmnaghfndigfkaaDoorOTZ
import Derived.Test.YtmnaghfndigfkaaDoorPNZ
import Derived.Test.YtmnaghfndigfkaaDoorCRZ
import Derived.Test.YtmnaghfndigfkaaDoorCKZ
set_option maxRecDepth 1000000
set_option linter.unusedVariables false
set_option linter.unusedSimpArgs false
namespace Go.Proofs.YtmnaghfndigfkaaDoor.X
open Go Go.Ab

theorem bIz (b : Bool) : (bI b 1 0 == 0) = !b := by cases b <;> rfl
theorem TT45ok : TabOk Tryd.prog G TT45 := tabL_ok noCh_ok ⟨ct100, ct47, trivial⟩
theorem vl_at {l : List Cl} (h : vlL l) {n : Nat} (g : n < l.length) : smc (kX l n) (kY l n) (kQ l n) ∧ (-4096 ≤ kX l n ∧ kX l n ≤ 4096) ∧ (-4096 ≤ kY l n ∧ kY l n ≤ 4096) := by
 have h1 := h.1 _ (List.getElem_mem g)
 rw [kAt g, vldC_iff] at h1
 simp only at h1
 unfold smc
 omega
theorem nrK (x y q e : Int) : (nrX x y q e, nrY x y q e, nrQ x y q e) = nbC (x, y, q) e := rfl
theorem out_has {l : List Cl} (h : vlL l) (c : Cl) (e : Int) : outB l c e = !hasL l (nbC c e) := by
 unfold outB
 cases hh : hasL l (nbC c e) with
 | false => rw [Bool.and_false]
 | true => rw [(h.1 _ (hasL_iff.1 hh)).1]; rfl
theorem ct45 : CtOk Tryd.prog G 45 e45 := by
 intro args r h hp
 unfold e45 at h
 split at h <;> cases h
 obtain ⟨⟨h1, h2, hz⟩, hv⟩ := hp
 generalize unK _ = l at *
 subst h1 h2
 refine (fnP_spec hcm hmx TT45ok ok45 rfl (ob_o45 l) ?_ : SpecP Tryd.prog G 45 [cls l] _ []).caps
 simp only [unK_flat, nrK, bIz, ltb_iff, ltb_no, leb_iff, leb_no, len'_iff, ltn_iff, inR_i64, inR_u8, and_true, true_and, size_vals, iI, flatK_len, Bool.not_eq_true', Bool.not_eq_false']
 have hl := hv.2
 refine ⟨⟨0, rfl, by omega, rfl, rfl⟩, ?_⟩
 rintro ⟨i, o, m⟩ ⟨n, hi, hn, ho, hm⟩
 simp only at hi ho hm ⊢
 subst hi ho hm
 simp only [Int.toNat_natCast]
 have hlen := outF_len l n
 refine ⟨fun hlt => ⟨⟨0, by omega, by omega, (List.append_nil _).symm, rfl⟩, ?_⟩, fun hge => ?_⟩
 ·have g1 : n < l.length := by omega
  obtain ⟨a0, a1, a2⟩ := kget g1
  obtain ⟨hs, hx, hy⟩ := vl_at hv g1
  have e2 : outF l (n + 1) = outF l n ++ outE l (kX l n, kY l n, kQ l n) 3 := rfl
  generalize kX l n = x at *
  generalize kY l n = y at *
  generalize kQ l n = q at *
  rintro ⟨j, o, m⟩ ⟨k, hj, hk, ho, hm⟩
  simp only at hj ho hm ⊢
  subst hj ho hm
  simp only [Int.toNat_natCast]
  have hlk := outE_len l (x, y, q) k
  have e1 : outE l (x, y, q) (k + 1) = cond (outB l (x, y, q) (k : Nat)) (outE l (x, y, q) k ++ [((x, y, q), ((k : Nat) : Int))]) (outE l (x, y, q) k) := rfl
  refine ⟨fun hlt => ⟨by omega, by omega, by omega, a0, a1, a2, ⟨hs, hx, hy, by omega, by omega⟩, okL_flat hz, fun hh => ?_, fun hh => ?_⟩, fun hge => ?_⟩
  ·have hB : outB l (x, y, q) (k : Nat) = true := by rw [out_has hv, hh]; rfl
   refine ⟨by omega, by omega, by omega, a0, a1, a2, by omega, by omega, by omega, ⟨k + 1, by omega, by omega, ?_, ?_⟩, by omega⟩
   ·rw [e1, hB, cond_true, flatE_app, List.append_assoc]; rfl
   ·rw [e1, hB, cond_true, List.length_append]; rfl
  ·have hB : outB l (x, y, q) (k : Nat) = false := by rw [out_has hv, hh]; rfl
   exact ⟨by omega, ⟨k + 1, by omega, by omega, by rw [e1, hB]; rfl, by rw [e1, hB]; rfl⟩, by omega⟩
  ·have ek : k = 3 := by omega
   subst ek
   refine ⟨by omega, ⟨n + 1, by omega, by omega, ?_, ?_⟩, by omega⟩
   ·rw [e2, flatE_app]
   ·rw [e2, List.length_append]
 ·have e : n = l.length := by omega
  subst e
  exact ⟨rfl, rfl⟩
theorem sp47h (l : List Cl) (x y q : Int) (hz : l.length < 1000000) : SpecD Tryd.prog G (.fn 47 [] []) [.full 259 l.length, .agg [.int .i64 x, .int .i64 y, .int .u8 q]] [(259, b46 (flatK l) l.length)] (.int .i64 (bI (hasL l (x, y, q)) 1 0)) [(259, b46 (flatK l) l.length)] [] := by
 refine fnD_spec hcm hmx T0ok ok47 rfl (ob_d_47 l x y q) ?_
 simp only [ltb_iff, ltb_no, leb_iff, leb_no, len'_iff, ltn_iff, inR_i64, and_true, true_and, size_vals, iI]
 refine ⟨⟨0, by simp, by omega, rfl⟩, ?_⟩
 rintro ⟨i⟩ ⟨n, hi, hn, he⟩
 simp only at hi he ⊢
 subst hi
 simp only [Int.toNat_natCast]
 refine ⟨fun hlt => ?_, fun hge => ?_⟩
 ·have g1 : n < l.length := by omega
  obtain ⟨a0, a1, a2⟩ := krow g1
  rw [drop_at g1] at he
  refine ⟨by omega, by omega, a0, a1, a2, fun hq => ?_, fun hq => ⟨by omega, ⟨n + 1, by omega, by omega, ?_⟩, by omega⟩⟩
  ·have : hasL l (x, y, q) = true := by
    rw [← he]
    simp only [hasL]
    have : eqCl (kX l n, kY l n, kQ l n) (x, y, q) = true := hq
    rw [this]; rfl
   rw [this]; rfl
  ·rw [← he]
   simp only [hasL]
   have : eqCl (kX l n, kY l n, kQ l n) (x, y, q) = false := hq
   rw [this]; rfl
 ·rw [List.drop_eq_nil_of_le (by omega)] at he
  rw [← he]; rfl
theorem ch46ok : ChOk Tryd.prog G ch46 := by
 intro h cv args r hr hp
 unfold ch46 at hr
 split at hr
 ·rw [cond_eq_ite] at hr
  split at hr
  ·rename_i hc
   simp only [Bool.and_eq_true] at hc
   cases Nat.eq_of_beq_eq_true hc.1
   cases Nat.eq_of_beq_eq_true hc.2
   cases hr
   obtain ⟨rfl, h1, h2, hz⟩ := hp
   generalize unK _ = l at *
   subst h1 h2
   exact sp47h l _ _ _ hz
  ·cases hr
 ·cases hr
theorem TT46ok : TabOk Tryd.prog G TT46 := tabL_ok ch46ok ⟨ct100, trivial⟩
theorem vl_q {l : List Cl} (h : vlL l) : ∀ x ∈ l, 0 ≤ x.2.2 ∧ x.2.2 ≤ 3 := fun x hx => by
 have h1 := h.1 x hx
 rw [vldC_iff] at h1
 omega
theorem stbl_skip {l R : List Cl} {k : Nat} (h : stbl l R k) (hc : ∀ x, l[k]? = some x → x ∉ R → ∀ e : Int, 0 ≤ e → e < 3 → nbC x e ∉ R) : stbl l R (k + 1) := by
 intro j hj x hx hn
 by_cases e : j = k
 ·subst e; exact hc x hx hn
 ·exact h j (by omega) x hx hn
theorem ct46 : CtOk Tryd.prog G 46 e46 := by
 intro args r h hp
 unfold e46 at h
 split at h <;> cases h
 obtain ⟨⟨h1, h2, hz⟩, hv, hnd⟩ := hp
 generalize unK _ = l at *
 subst h1 h2
 refine (fnP_spec hcm hmx TT46ok ok46 rfl (ob_o46 l) ?_ : SpecP Tryd.prog G 46 [cls l] _ []).caps
 simp only [nrK, bIz, bI_eq, ltb_iff, ltb_no, leb_iff, leb_no, len'_iff, ltn_iff, inR_i64, inR_u8, and_true, true_and, size_vals, iI, flatK_len, Bool.not_eq_true', Bool.not_eq_false']
 have hl := hv.2
 have hq3 := vl_q hv
 refine ⟨fun he => ?_, fun he => ?_⟩
 ·have : l = [] := List.eq_nil_of_length_eq_zero (by simpa using he)
  subst this
  have : conB [] = true := (inv_end (l := []) (L := []) (by unfold invC; simp)).symm
  rw [this]; rfl
 have hpos : 0 < l.length := by
  have : (l.length : Int) ≠ 0 := by simpa using he
  omega
 obtain ⟨a0, a1, a2⟩ := kget hpos
 refine ⟨by omega, by omega, a0, a1, a2, ?_, ?_⟩
 ·cases l with
  | nil => simp at hpos
  | cons c t => exact ⟨[c], rfl, rfl, inR_start, fun h => by cases h⟩
 rintro ⟨m, o, n⟩ ⟨R, i1, i2, i3, i4⟩
 simp only at i1 i2 i3 i4 ⊢
 subst i1 i2
 have hRl := nd_le i3.1 i3.2.1
 refine ⟨fun hm => ⟨⟨R, 0, rfl, by omega, rfl, rfl, i3, (fun h => by cases h), Nat.le_refl _, fun _ j hj => by omega⟩, ?_⟩, fun hm => ?_⟩
 ·rintro ⟨i, m1, o1, n1⟩ ⟨R1, k, j1, j2, j3, j4, j5, j6, j7, j8⟩
  simp only at j1 j2 j3 j4 j5 j6 j7 j8 ⊢
  subst j1 j3 j4
  simp only [Int.toNat_natCast, unK_flat]
  have hR1 := nd_le j5.1 j5.2.1
  refine ⟨fun hlt => ?_, fun hge => ?_⟩
  ·have g1 : k < l.length := by omega
   obtain ⟨a0, a1, a2⟩ := kget g1
   obtain ⟨hs, hx, hy⟩ := vl_at hv g1
   have hck : l[k]? = some (kX l k, kY l k, kQ l k) := by rw [List.getElem?_eq_getElem g1, kAt g1]
   have hcl : (kX l k, kY l k, kQ l k) ∈ l := by rw [← kAt g1]; exact List.getElem_mem g1
   generalize kX l k = x at *
   generalize kY l k = y at *
   generalize kQ l k = q at *
   refine ⟨by omega, by omega, by omega, a0, a1, a2, okL_flat (by omega), fun hh => ?_, fun hh => ⟨⟨R1, 0, rfl, by omega, rfl, rfl, j5, j6, j7, fun h => ⟨j8 h, hasL_no.1 hh, fun e e0 e1 => by omega⟩⟩, ?_⟩⟩
   ·have hin := hasL_iff.1 hh
    refine ⟨by omega, ⟨R1, k + 1, by omega, by omega, rfl, rfl, j5, j6, j7, fun h => stbl_skip (j8 h) fun z hz hn => ?_⟩, by omega⟩
    rw [hck] at hz
    cases hz
    exact absurd hin hn
   rintro ⟨e, m2, o2, n2⟩ ⟨R2, w, w1, w2, w3, w4, w5, w6, w7, w8⟩
   simp only at w1 w2 w3 w4 w5 w6 w7 w8 ⊢
   subst w1 w3 w4
   simp only [Int.toNat_natCast, unK_flat]
   have hR2 := nd_le w5.1 w5.2.1
   refine ⟨fun hlt => ⟨by omega, by omega, by omega, a0, a1, a2, ⟨hs, hx, hy, by omega, by omega⟩, okL_flat (by omega), fun hn => ⟨by omega, by omega, by omega, a0, a1, a2, okL_flat (by omega), fun hc => ?_, fun hc => ?_⟩, fun hn => ?_⟩, fun hge => ?_⟩
   ·have hin := hasL_iff.1 hn
    have hno := hasL_no.1 hc
    refine ⟨by omega, by omega, by omega, a0, a1, a2, by omega, by omega, ⟨R2 ++ [(x, y, q)], w + 1, by omega, by omega, by rw [flatK_app]; rfl, by rw [List.length_append]; rfl, inR_add w5 hq3 hcl hno (by omega) (by omega) hin, fun _ => by omega, by omega, fun h => by cases h⟩, by omega⟩
   ·have hin := hasL_iff.1 hc
    exact ⟨by omega, ⟨R2, w + 1, by omega, by omega, rfl, rfl, w5, w6, w7, fun h => absurd hin (w8 h).2.1⟩, by omega⟩
   ·have hno := hasL_no.1 hn
    refine ⟨by omega, ⟨R2, w + 1, by omega, by omega, rfl, rfl, w5, w6, w7, fun h => ⟨(w8 h).1, (w8 h).2.1, fun e e0 e1 => ?_⟩⟩, by omega⟩
    by_cases ee : e = (w : Int)
    ·subst ee; exact hno
    ·exact (w8 h).2.2 e e0 (by omega)
   ·have e3 : w = 3 := by omega
    subst e3
    refine ⟨by omega, ⟨R2, k + 1, by omega, by omega, rfl, rfl, w5, w6, w7, fun h => stbl_skip (w8 h).1 fun z hz hn => ?_⟩, by omega⟩
    rw [hck] at hz
    cases hz
    exact (w8 h).2.2
  ·have ek : k = l.length := by omega
   subst ek
   refine ⟨⟨R1, rfl, rfl, j5, j8⟩, ?_⟩
   rw [hm]
   cases hm1 : m1 with
   | true => have := j6 hm1; simp only [cond_true]; omega
   | false => simp only [cond_true, cond_false]; omega
 ·have := conB_of i3 hq3 hnd (i4 hm)
  refine ⟨fun hh => ?_, fun hh => ?_⟩
  ·rw [hh] at this; rw [← this]; rfl
  ·rw [hh] at this; rw [← this]; rfl
end Go.Proofs.YtmnaghfndigfkaaDoor.X
