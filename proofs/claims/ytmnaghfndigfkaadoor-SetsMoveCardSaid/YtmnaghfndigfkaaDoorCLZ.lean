/-
 Connected: the contract.
-/
import Derived.Test.YtmnaghfndigfkaaDoorPCZ
import Derived.Test.YtmnaghfndigfkaaDoorOIZ
import Derived.Test.YtmnaghfndigfkaaDoorCKZ
set_option maxRecDepth 1000000
set_option linter.unusedVariables false
set_option linter.unusedSimpArgs false
namespace Go.Proofs.YtmnaghfndigfkaaDoor.X
open Go Go.Ab

theorem TI42ok : TabOk Tryd.prog G TI42 := tabL_ok noCh_ok ⟨ct61, ct96, ct97, trivial⟩
theorem nb_kq {x y q e : Int} (h : (nbE x y q e == 0) = true) : vldC (nbC (x, y, q) e) = true ∧ nbX x y q e = (nbC (x, y, q) e).1 ∧ nbY x y q e = (nbC (x, y, q) e).2.1 ∧ nbQ x y q e = (nbC (x, y, q) e).2.2 := by
 unfold nbE at h
 unfold nbX nbY nbQ
 cases hv : vldC (nbC (x, y, q) e) with
 | true => exact ⟨rfl, rfl, rfl, rfl⟩
 | false => rw [hv] at h; cases h
theorem nb_kno {x y q e : Int} (h : (nbE x y q e == 0) = false) : vldC (nbC (x, y, q) e) = false := by
 unfold nbE at h
 cases hv : vldC (nbC (x, y, q) e) with
 | true => rw [hv] at h; cases h
 | false => rfl
theorem put_row {R : List Cl} {w : Nat} (hw : w ≤ R.length) (c : Cl) :
  (flatK R).take (w * 3) ++ [.int .i64 c.1, .int .i64 c.2.1, .int .u8 c.2.2] ++ (flatK R).drop ((w + 1) * 3) = flatK (R.take w ++ [c] ++ R.drop (w + 1)) ∧ max R.length (w + 1) = (R.take w ++ [c] ++ R.drop (w + 1)).length ∧ (R.take w ++ [c] ++ R.drop (w + 1)).take (w + 1) = R.take w ++ [c] := by
 refine ⟨?_, ?_, ?_⟩
 ·rw [flatK_app, flatK_app, flatK_one, flatK_take, flatK_dropn]
 ·simp only [List.length_append, List.length_take, List.length_drop, List.length_cons, List.length_nil]; omega
 ·exact List.take_left' (by simp only [List.length_append, List.length_take, List.length_cons, List.length_nil]; omega)
theorem ct42 : CtOk Tryd.prog G 42 e42 := by
 intro args r h hp
 unfold e42 at h
 split at h <;> cases h
 obtain ⟨⟨h1, h2, hz⟩, hq0⟩ := hp
 generalize unK _ = l at *
 subst h1 h2
 refine (fnP_spec hcm hmx TI42ok ok42 rfl (ob_o42 l) ?_ : SpecP Tryd.prog G 42 [cls l] _ []).caps
 simp only [unK_flat, ltb_iff, ltb_no, leb_iff, leb_no, len'_iff, ltn_iff, inR_i64, inR_u8, and_true, true_and, size_vals, iI, imp_self, flatK_len]
 refine ⟨⟨okL_flat hz, hq0⟩, fun hb => ?_, fun hb => ?_⟩
 ·exact (chkX hb _ _).symm
 have h0 : chkI l = 0 := by simpa using hb
 obtain ⟨hl, hv, hs⟩ := chk0 h0
 have hM := mem_map h0
 have eX : cnX l = conB l := chkY h0 _ _
 have hnd := srt_nodup hs
 refine ⟨fun he => ?_, fun he => ?_⟩
 ·have : l = [] := List.eq_nil_of_length_eq_zero (by simpa using he)
  subst this
  refine ⟨?_, h0.symm⟩
  rw [eX]
  exact inv_end (l := []) (L := []) (by unfold invC; simp)
 have hpos : 0 < l.length := by
  have : (l.length : Int) ≠ 0 := by simpa using he
  omega
 obtain ⟨a0, a1, a2⟩ := kget hpos
 refine ⟨okL_flat hz, by omega, by omega, a0, a1, a2, by omega, by omega, a0, a1, a2, ?_, ?_⟩
 ·cases l with
  | nil => simp at hpos
  | cons c t =>
   refine ⟨(c :: t).erase c, [c], mdel_rep hM c, rfl, rfl, by omega, ?_, inv_start hnd⟩
   rw [List.erase_cons_head]
   simp only [List.length_cons] at hl; omega
 rintro ⟨es, k, o, n, w⟩ ⟨L, R, i1, i2, i3, i4, i5, i6⟩
 simp only at i1 i2 i3 i4 i5 i6 ⊢
 subst i2 i3
 simp only [unK_flat]
 refine ⟨fun hw => ?_, fun hw => ?_⟩
 ·obtain ⟨v, rfl⟩ : ∃ v, w = v + 1 := ⟨w - 1, by omega⟩
  rw [show (((v + 1 : Nat) : Int) - 1) = (v : Int) by omega]
  simp only [Int.toNat_natCast]
  have g1 : v < R.length := by omega
  obtain ⟨b0, b1, b2⟩ := krow g1
  have eW : R.take (v + 1) = R.take v ++ [(kX R v, kY R v, kQ R v)] := take_at g1
  rw [eW] at i6
  have hD := inv_pop i6
  refine ⟨by omega, by omega, by omega, b0, b1, b2, by omega, by omega, by omega, ⟨L, R, 0, rfl, by omega, i1, rfl, rfl, by omega, by omega, by omega, hD⟩, ?_⟩
  have hcl := hD.1.1
  have hcv := hv _ hcl
  have hcq := hq0 _ hcl
  simp only at hcq
  generalize kX R v = x at *
  generalize kY R v = y at *
  generalize kQ R v = q at *
  rintro ⟨e, es1, k1, o1, n1, w1⟩ ⟨L1, R1, j, j1, j2, j3, j4, j5, j6, j7, j8, j9⟩
  simp only at j1 j2 j3 j4 j5 j6 j7 j8 j9 ⊢
  subst j1 j4 j5
  simp only [Int.toNat_natCast]
  have hll := rep_len j3
  refine ⟨fun hlt => ⟨⟨hcv, by omega, by omega, by omega⟩, fun hn => ?_, fun hn => ?_⟩, fun hge => ?_⟩
  ·obtain ⟨m0, m1, m2, m3⟩ := nb_kq hn
   rw [m1, m2, m3]
   have ek : [(nbC (x, y, q) (j : Int)).1, (nbC (x, y, q) (j : Int)).2.1, (nbC (x, y, q) (j : Int)).2.2] = kyC (nbC (x, y, q) (j : Int)) := rfl
   rw [ek, mval_rep j3]
   refine ⟨fun hm => ?_, fun hm => ?_⟩
   ·have hin := hasL_iff.1 hm
    have hdl := mdel_rep j3 (nbC (x, y, q) (j : Int))
    have hl1 := rep_len hdl
    have hl2 : (L1.erase (nbC (x, y, q) (j : Int))).length = L1.length - 1 := List.length_erase_of_mem hin
    have hl3 : 0 < L1.length := List.length_pos_of_mem hin
    obtain ⟨r1, r2, r3⟩ := put_row j6 (nbC (x, y, q) (j : Int))
    refine ⟨by omega, by omega, ⟨L1.erase (nbC (x, y, q) (j : Int)), R1.take w1 ++ [nbC (x, y, q) (j : Int)] ++ R1.drop (w1 + 1), j + 1, by omega, by omega, hdl, r1, r2, by omega, by omega, by omega, ?_⟩, by omega⟩
    rw [r3]
    exact inv_push j9 (by omega) (by omega) j3.2 hin
   ·have hno := hasL_no.1 hm
    exact ⟨by omega, ⟨L1, R1, j + 1, by omega, by omega, j3, rfl, rfl, j6, j7, j8, inv_skip j9 hno⟩, by omega⟩
  ·have hbad := nb_kno hn
   have hno : nbC (x, y, q) (j : Int) ∉ L1 := fun hm => by
    have := hv _ (j9.2.1 _ hm)
    rw [hbad] at this; cases this
   exact ⟨by omega, ⟨L1, R1, j + 1, by omega, by omega, j3, rfl, rfl, j6, j7, j8, inv_skip j9 hno⟩, by omega⟩
  ·have e3 : j = 3 := by omega
   subst e3
   exact ⟨⟨L1, R1, j3, rfl, rfl, j6, j7, inv_done j9⟩, j8⟩
 ·have hw0 : w = 0 := by omega
  subst hw0
  rw [List.take_zero] at i6
  rw [rep_len i1, eX, inv_end i6]
  exact ⟨rfl, h0.symm⟩
end Go.Proofs.YtmnaghfndigfkaaDoor.X
