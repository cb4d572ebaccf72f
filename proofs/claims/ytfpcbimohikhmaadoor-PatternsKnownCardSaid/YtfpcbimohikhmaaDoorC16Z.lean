/-
 The law Set.
-/
import Derived.Test.YtfpcbimohikhmaaDoorC13Z
import Derived.Test.YtfpcbimohikhmaaDoorO8Z
set_option maxRecDepth 1000000
set_option linter.unusedVariables false
set_option linter.unusedSimpArgs false
namespace Go.Proofs.YtfpcbimohikhmaaDoor.X
open Go Go.Ab

theorem look_at {w h : Int} {K : List Int} {j : Nat} {c : Int} (hK : kds w h K) (hj : (units w h)[j]? = some c) : lookK c 0 (wthL (units w h) K) = K[j]?.getD 0 := by
 have h1 := kinds_wthL (units_asc w h) hK.1
 have h2 : (kindsL (units w h) (wthL (units w h) K))[j]? = some (lookK c 0 (wthL (units w h) K)) := by
  unfold kindsL; rw [List.getElem?_map, hj]; rfl
 rw [h1] at h2
 rw [h2]; rfl
theorem ct15v : CtOk Tryd.prog G 15 e15v := by
 intro args r h hp
 unfold e15v at h
 split at h <;> cases h
 rename_i w h a n _ i e k
 obtain ⟨hs, ⟨⟨h1, h2, h3⟩, hv⟩, he⟩ := hp
 generalize unC a = l at *
 subst h1 h2
 have hl := vP_len hs hv
 exact (sp15 w h l i e k (by omega) (vP_edg hv) he).caps
theorem kd_eq {w h : Int} {K : List Int} {i e : Int} (hs : s5 w h) (hK : kds w h K) (he : 0 ≤ e) : knI w h (wthL (units w h) K) i e = kdI w h (wthL (units w h) K) i e := by
 unfold kdI
 by_cases hn : neE w h i e = 0
 ·obtain ⟨j, hj, hg⟩ := cod_at hs he hn
  rw [kn_eq hs hK he hn hg, look_at hK hg, hn]; rfl
 ·have hA := (at_eq (i := i) (e := e) hs ⟨K, hK, rfl⟩ he).1
  have hF : atF w h (wthL (units w h) K) i e = false := by
   unfold atF atB
   rw [hA, beq_eq_false_iff_ne.2 hn]; rfl
  unfold knI
  rw [hF, beq_eq_false_iff_ne.2 hn]; rfl
theorem ct16v : CtOk Tryd.prog G 16 e16v := by
 intro args r h hp
 unfold e16v at h
 split at h <;> cases h
 rename_i w h a n _ i e
 obtain ⟨hs, ⟨⟨h1, h2, h3⟩, hv⟩, he⟩ := hp
 generalize unC a = l at *
 subst h1 h2
 have hl := vP_len hs hv
 have h := sp16 w h l i e (by omega) (vP_edg hv) he
 rw [(at_eq hs hv he.1).1] at h
 obtain ⟨K, hK, rfl⟩ := hv
 rw [kd_eq hs hK he.1] at h
 exact h.caps
theorem cT3ok : CtsOk Tryd.prog G cT3' := ⟨ct14, ct15v, ct16v, ct17, ct19u, ct20, ct21, ct22z, ct23, ct18, trivial⟩
theorem TB3ok : TabOk Tryd.prog G TB3 := tabL_ok noCh_ok cT3ok
/-- Units, from both sides. -/
theorem side_ok {w h : Int} {n : Nat} (hs : s5 w h) (hn : n < (units w h).length) : neE w h (uC (units w h) n) (uE (units w h) n) = 0 ∧ cod w h (uC (units w h) n) (uE (units w h) n) = (units w h)[n] ∧
  neE w h (nbI w h (uC (units w h) n) (uE (units w h) n)) (uE (units w h) n) = 0 ∧ cod w h (nbI w h (uC (units w h) n) (uE (units w h) n)) (uE (units w h) n) = (units w h)[n] := by
 obtain ⟨u1, u2, u3⟩ := uAt hn
 obtain ⟨m1, m2, m3⟩ := units_mem hs (List.getElem_mem hn)
 obtain ⟨a1, a2, a3, a4⟩ := un_ok hn hs
 rw [← u2, ← u3] at m2
 rw [← u2] at m1
 have hb := hasB_iff.1 m1
 obtain ⟨i1, i2, i3⟩ := inv_ok hs m1 ⟨a3, a4⟩ (by omega)
 refine ⟨((un_no hs ⟨a3, a4⟩ m1).2.1).2 (by omega), by unfold cod; omega, ((un_no hs ⟨a3, a4⟩ i3).2.1).2 (by omega), ?_⟩
 unfold cod; rw [i1]; omega
theorem se_no {w h : Int} {l : List Cr} {i e k : Int} (hs : s5 w h) (hv : vP w h l) (he : 0 ≤ e) : seE w h l i e k = cond (neE w h i e == 0) (bI (k == 0 || kdB k) 0 1) (neE w h i e) := by
 unfold seE atB
 rw [(at_eq hs hv he).1]
theorem ne_out {w h i e : Int} (hs : s5 w h) (hB : hasB w h i = false) : neE w h i e = 7 := by
 unfold neE okI ceE
 rw [okS_of hs, hB]; rfl
set_option maxHeartbeats 1000000 in
theorem sp3 (W H i e k : Int) (ks : List Int) (h1 : 0 ≤ W ∧ W ≤ 255) (h2 : 0 ≤ H ∧ H ≤ 255) (hu : u8s ks) (he : 0 ≤ e ∧ e ≤ 255) (hk : 0 ≤ k ∧ k ≤ 255) :
  SpecP Tryd.prog G 3 [patP W H ks, .int .i64 i, .agg [.int .u8 e, .int .u8 k]] (.bool true) [] := by
 refine fnP_spec hcm hmx TB3ok ok3 rfl (ob_o3 W H i e k ks) ?_
 dsimp -failIfUnchanged -proj -eta -iota -zeta only
 have d1 := dim_ok h1
 have d2 := dim_ok h2
 have h4 : s4 (dim W) (dim H) := ⟨⟨d1.1, d1.2.1⟩, d2.1, d2.2.1⟩
 have hs := s4_s5 h4
 have hv := of_vP h1 h2 hu
 generalize ofL W H ks = cs at *
 generalize dim W = w at *
 generalize dim H = h at *
 obtain ⟨K, hK, rfl⟩ := hv
 have hv : vP w h (wthL (units w h) K) := ⟨K, hK, rfl⟩
 have kv := okV_of hs hv
 obtain ⟨z1, z2, z3⟩ := s5_len hs
 have e4 : 4 * w * h = 4 * (w * h) := Int.mul_assoc _ _ _
 simp only [unC_flat]
 simp only [ltb_iff, ltb_no, leb_iff, leb_no, inR_i64, and_true, true_and, ltn_iff, len'_iff, size_vals, size_ints, Int.toNat_natCast, flatU_len, kinds_wthL (units_asc w h) hK.1]
 refine ⟨⟨h1.1, h1.2, h2.1, h2.2, hu⟩, ⟨hs, kv, he⟩, ⟨hs, kv, he⟩, ⟨fun hi => ?_, fun hi => ⟨by omega, by omega, fun hi2 => ?_, fun hi2 => ⟨fun h3 => ?_, fun h3 => ⟨by omega, hs, fun h5 => ?_, fun h5 => ?_⟩⟩⟩⟩, ?_⟩
 ·have hB : hasB w h i = false := hasB_no.2 (by omega)
  rw [ne_out hs hB]
  exact ⟨rfl, fun h => by omega⟩
 ·have hB : hasB w h i = false := hasB_no.2 (by omega)
  rw [ne_out hs hB]
  exact ⟨rfl, fun h => by omega⟩
 ·have hB : hasB w h i = true := hasB_iff.2 (by omega)
  have : neE w h i e = 1 := by
   unfold neE okI
   rw [okS_of hs, hB, decide_eq_false (by omega : ¬ e ≤ 2)]; rfl
  rw [this]
  exact ⟨rfl, fun h => by omega⟩
 ·have hB : hasB w h i = true := hasB_iff.2 (by omega)
  obtain ⟨n1, n2, n3⟩ := un_no hs ⟨he.1, h3⟩ hB
  have : neE w h i e = 7 := by
   rcases n1 with h | h
   ·obtain ⟨j, hj, hg⟩ := cod_at hs he.1 h
    have := un_eq hs he.1 h hg
    omega
   ·exact h
  rw [this]
  exact ⟨rfl, fun h => by omega⟩
 ·have hB : hasB w h i = true := hasB_iff.2 (by omega)
  obtain ⟨n1, n2, n3⟩ := un_no hs ⟨he.1, h3⟩ hB
  rcases n1 with h | h
  ·exact ⟨h.symm, fun _ => trivial⟩
  ·have := n3 h; omega
 rintro ⟨v, a⟩ ⟨rfl, ha⟩
 simp only at ha ⊢
 refine ⟨by simp, ⟨fun hz => ⟨fun h3 => ?_, fun h3 => ?_⟩, fun hz => ?_⟩, ?_⟩
 ·rw [beq_iff_eq] at hz
  have : (k == 0 || kdB k) = false := by
   rw [Bool.or_eq_false_iff, beq_eq_false_iff_ne, kdB_no]; omega
  rw [se_no hs hv he.1, hz, this]; rfl
 ·rw [beq_iff_eq] at hz
  have : (k == 0 || kdB k) = true := by
   rw [Bool.or_eq_true, beq_iff_eq, kdB_iff]; omega
  rw [se_no hs hv he.1, hz, this]; rfl
 ·rw [se_no hs hv he.1, hz]; rfl
 rintro ⟨v⟩ rfl
 simp only
 refine ⟨by simp, fun hz => ?_, fun hz => ?_⟩
 ·have hz' : (seE w h (wthL (units w h) K) i e k == 0) = false := by
   rw [beq_eq_false_iff_ne]; simpa using hz
  unfold seL
  rw [hz']
  simp [bI]
 ·have hz' : seE w h (wthL (units w h) K) i e k = 0 := by simpa using hz
  have hn : neE w h i e = 0 := by
   rw [se_no hs hv he.1] at hz'
   by_cases hn : neE w h i e = 0
   ·exact hn
   ·rw [beq_eq_false_iff_ne.2 hn] at hz'; exact hz'
  have hk3 : 0 ≤ k ∧ k ≤ 3 := by
   rw [se_no hs hv he.1, hn] at hz'
   rcases bool_or (k == 0 || kdB k) with hb | hb
   ·rw [Bool.or_eq_true, beq_iff_eq, kdB_iff] at hb; omega
   ·rw [hb] at hz'; simp [bI] at hz'
  obtain ⟨j, hj, hg⟩ := cod_at hs he.1 hn
  have hun := un_eq hs he.1 hn hg
  have haj : a = j := by rw [ha hn, hun]
  subst haj
  obtain ⟨-, hL⟩ := se_eq hs hK he.1 hn hg hk3
  have hK2 := kds_set hK j hk3
  have hv2 : vP w h (wthL (units w h) (K.set j k)) := ⟨_, hK2, rfl⟩
  have kv2 := okV_of hs hv2
  have hkd : kdI w h (wthL (units w h) K) i e = K[j]?.getD 0 := by
   unfold kdI; rw [hn, look_at hK hg]; rfl
  rw [hz', hL, hkd]
  have hKl := hK.1
  have hu300 := units_len hs
  simp only [bI, beq_self_eq_true, cond_true, Int.toNat_natCast, List.length_set, List.getD_eq_getElem?_getD, bne_self_eq_false, true_and, and_true]
  refine ⟨⟨hs, kv.1⟩, by omega, by omega, by omega, by omega, by omega, by omega, hs, ⟨0, by simp, by omega⟩, ?_⟩
  rintro ⟨x⟩ ⟨n, hx, hnl⟩
  simp only at hx ⊢
  subst hx
  simp only [Int.toNat_natCast]
  refine ⟨fun hlt => ?_, fun hge => ?_⟩
  ·have g1 : n < (units w h).length := by omega
   obtain ⟨r1, r2⟩ := uget g1
   obtain ⟨a1, a2, a3, a4⟩ := un_ok g1 hs
   obtain ⟨s1, s2, s3, s4⟩ := side_ok hs g1
   have hgn : (units w h)[n]? = some (units w h)[n] := List.getElem?_eq_getElem g1
   have k1 : kdI w h (wthL (units w h) (K.set j k)) (uC (units w h) n) (uE (units w h) n) = (K.set j k)[n]?.getD 0 := by
    unfold kdI; rw [s1, s2, look_at hK2 hgn]; rfl
   have k2 : kdI w h (wthL (units w h) (K.set j k)) (nbI w h (uC (units w h) n) (uE (units w h) n)) (uE (units w h) n) = (K.set j k)[n]?.getD 0 := by
    unfold kdI; rw [s3, s4, look_at hK2 hgn]; rfl
   rw [k1, k2, s1, s3]
   simp only [bne_self_eq_false, Bool.false_eq_true, false_implies, true_and, true_implies]
   exact ⟨by omega, by omega, by omega, r1, by omega, by omega, by omega, r2, ⟨hs, kv2, a3, by omega⟩, by omega, by omega, by omega, r1, by omega, by omega, by omega, r2, by omega, ⟨hs, a1, a2, a3, a4⟩, by omega, by omega, by omega, r2, ⟨hs, kv2, a3, by omega⟩, by omega, by omega, by omega, by omega, by omega, by omega, by omega, ⟨n + 1, by omega, by omega⟩, by omega⟩
  ·exact ⟨⟨hs, by omega⟩, ⟨kv2.1, kv2.1⟩, ⟨h1.1, h1.2, h2.1, h2.2, hu⟩, kv.1, kv.1⟩
end Go.Proofs.YtfpcbimohikhmaaDoor.X
