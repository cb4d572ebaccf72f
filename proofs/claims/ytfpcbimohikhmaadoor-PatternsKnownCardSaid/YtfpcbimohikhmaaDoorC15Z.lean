/-
 The law Order.
-/
import Derived.Test.YtfpcbimohikhmaaDoorC13Z
import Derived.Test.YtfpcbimohikhmaaDoorO8Z
import Derived.Test.YtfpcbimohikhmaaDoorC7Z
set_option maxRecDepth 1000000
set_option linter.unusedVariables false
set_option linter.unusedSimpArgs false
namespace Go.Proofs.YtfpcbimohikhmaaDoor.X
open Go Go.Ab
theorem ct32z : CtOk Tryd.prog G 32 e32z := by
 intro args r h hp
 unfold e32z at h
 split at h <;> cases h
 rename_i w h a n _ w' h' b m _
 obtain ⟨⟨h1, h2, h3⟩, ⟨h4, h5, h6⟩, rfl, rfl, he⟩ := hp
 rw [he] at h1 h2 h3
 generalize unC b = l' at *
 subst h1 h2 h4 h5
 have := sp32 w h w h l' l' h3 h3
 unfold shEq eqC at this
 simp only [beq_self_eq_true, decide_true, Bool.and_self] at this
 exact this.caps
theorem cT6ok : CtsOk Tryd.prog G cT6' := ⟨ct14, ct15u, ct20, ct22z, ct32z, ct18, trivial⟩
theorem TB6ok : TabOk Tryd.prog G TB6 := tabL_ok noCh_ok cT6ok
set_option maxHeartbeats 1000000 in
theorem sp6 (W H a b k l : Int) (ks : List Int) (h1 : 0 ≤ W ∧ W ≤ 255) (h2 : 0 ≤ H ∧ H ≤ 255) (hu : u8s ks) (ha : 0 ≤ a ∧ a ≤ 255) (hb : 0 ≤ b ∧ b ≤ 255) (hk : 0 ≤ k ∧ k ≤ 255) (hl : 0 ≤ l ∧ l ≤ 255) :
  SpecP Tryd.prog G 6 [patP W H ks, .agg [.int .u8 a, .int .u8 b], .agg [.int .u8 k, .int .u8 l]] (.bool true) [] := by
 refine fnP_spec hcm hmx TB6ok ok6 rfl (ob_o6 W H a b k l ks) ?_
 dsimp -failIfUnchanged -proj -eta -iota -zeta only
 have d1 := dim_ok h1
 have d2 := dim_ok h2
 have h4 : s4 (dim W) (dim H) := ⟨⟨d1.1, d1.2.1⟩, d2.1, d2.2.1⟩
 have hs := s4_s5 h4
 have hv := of_vP h1 h2 hu
 have hu1 := units_one h4
 generalize ofL W H ks = cs at *
 generalize dim W = w at *
 generalize dim H = h at *
 obtain ⟨K, hK, rfl⟩ := hv
 have ea : a.tmod ((units w h).length : Int) = ((a.toNat % (units w h).length : Nat) : Int) := by
  rw [Int.tmod_eq_emod_of_nonneg ha.1, Int.natCast_emod, Int.toNat_of_nonneg ha.1]
 have eb : b.tmod ((units w h).length : Int) = ((b.toNat % (units w h).length : Nat) : Int) := by
  rw [Int.tmod_eq_emod_of_nonneg hb.1, Int.natCast_emod, Int.toNat_of_nonneg hb.1]
 have ek : k.tmod 4 = k % 4 := Int.tmod_eq_emod_of_nonneg hk.1
 have el : l.tmod 4 = l % 4 := Int.tmod_eq_emod_of_nonneg hl.1
 have gi : a.toNat % (units w h).length < (units w h).length := Nat.mod_lt _ (by omega)
 have gj : b.toNat % (units w h).length < (units w h).length := Nat.mod_lt _ (by omega)
 rw [ea, eb, ek, el]
 generalize a.toNat % (units w h).length = i at *
 generalize b.toNat % (units w h).length = j at *
 have hk4 : 0 ≤ k % 4 ∧ k % 4 ≤ 3 := by omega
 have hl4 : 0 ≤ l % 4 ∧ l % 4 ≤ 3 := by omega
 generalize k % 4 = p at *
 generalize l % 4 = q at *
 obtain ⟨u1, u2, u3⟩ := uAt gi
 obtain ⟨v1, v2, v3⟩ := uAt gj
 have hA : (units w h)[i]? = some (3 * uC (units w h) i + uE (units w h) i) := by rw [List.getElem?_eq_getElem gi, ← u1]
 have hB : (units w h)[j]? = some (3 * uC (units w h) j + uE (units w h) j) := by rw [List.getElem?_eq_getElem gj, ← v1]
 have mA := List.mem_of_getElem? hA
 have mB := List.mem_of_getElem? hB
 obtain ⟨a1, a2, a3, a4⟩ := un_ok gi hs
 obtain ⟨b1, b2, b3, b4⟩ := un_ok gj hs
 obtain ⟨e1, k1⟩ := vP_set hK hA hk4
 obtain ⟨e2, k2⟩ := vP_set hK hB hl4
 obtain ⟨e3, k3⟩ := vP_set k1 hB hl4
 obtain ⟨e4, k4⟩ := vP_set k2 hA hk4
 simp only [unC_flat, e1, e2, e3, e4]
 have hxy : ∀ {K' : List Int}, kds w h K' → okV w h (flatC (wthL (units w h) K')) (wthL (units w h) K').length := fun hK' => okV_of hs ⟨_, hK', rfl⟩
 have f0 := hxy hK
 have f1 := hxy k1
 have f2 := hxy k2
 have f3 := hxy k3
 have f4 := hxy k4
 obtain ⟨r1, r2⟩ := uget gi
 obtain ⟨t1, t2⟩ := uget gj
 rw [List.drop_zero] at r1 t1
 have r2' : (List.drop (i * 2) (flatU (units w h)))[1]? = some (.int .u8 (uE (units w h) i)) := (List.getElem?_drop ..).symm.trans r2
 have t2' : (List.drop (j * 2) (flatU (units w h)))[1]? = some (.int .u8 (uE (units w h) j)) := (List.getElem?_drop ..).symm.trans t2
 simp only [ltb_iff, ltb_no, leb_iff, leb_no, inR_i64, and_true, true_and, ltn_iff, size_vals, Int.toNat_natCast, flatU_len]
 refine ⟨⟨h1.1, h1.2, h2.1, h2.2, hu⟩, hs, by omega, by rw [Bool.not_eq_true', beq_eq_false_iff_ne]; omega, by omega, by omega, by omega, r1, r2', by omega, by rw [Bool.not_eq_true', beq_eq_false_iff_ne]; omega, by omega, by omega, by omega, t1, t2', ⟨hs, f0, mA, a3, a4, hk4⟩, ⟨hs, f1, mB, b3, b4, hl4⟩, ⟨hs, f0, mB, b3, b4, hl4⟩, ⟨hs, f2, mA, a3, a4, hk4⟩, fun hq => ?_, fun hq => ?_⟩
 ·rw [Bool.and_eq_true, beq_iff_eq, beq_iff_eq] at hq
  have hij : i = j := by
   rcases Nat.lt_trichotomy i j with hh | hh | hh
   ·have := List.pairwise_iff_getElem.1 (units_asc w h) i j gi gj hh; omega
   ·exact hh
   ·have := List.pairwise_iff_getElem.1 (units_asc w h) j i gj gi hh; omega
  subst hij
  have s1 : (K.set i p).set i q = K.set i q := List.set_set ..
  have s2 : (K.set i q).set i p = K.set i p := List.set_set ..
  rw [s1, s2]
  exact ⟨⟨f2.1, f2.1, rfl⟩, f1.1, f1.1, rfl⟩
 ·have hij : i ≠ j := by
   rintro rfl
   simp at hq
  have s1 : (K.set i p).set j q = (K.set j q).set i p := List.set_comm _ _ hij
  rw [s1]
  exact ⟨⟨f4.1, f4.1, rfl⟩, f4.1, f4.1, rfl⟩
end Go.Proofs.YtfpcbimohikhmaaDoor.X
