/-
 The contracts of the functions on whole patterns.
-/
import Derived.Test.YtfpcbimohikhmaaDoorC6Z
import Derived.Test.YtfpcbimohikhmaaDoorO5Z
set_option maxRecDepth 1000000
set_option linter.unusedVariables false
set_option linter.unusedSimpArgs false
namespace Go.Proofs.YtfpcbimohikhmaaDoor.X
open Go Go.Ab

/-! ### The reference's check -/
theorem badL_step {l : List Cr} {n : Nat} (h : n < l.length) : badL (l.drop n) = (!kdB (cK l n) || badL (l.drop (n + 1))) := by
 rw [drop_at h, cAt h]; rfl
theorem cQ4ok : CtsOk Tryd.prog G cQ4' := ⟨ct29, cWok⟩
theorem CQ4ok : TabOk Tryd.prog G CQ4 := tabL_ok noCh_ok cQ4ok
theorem sp30 (w h : Int) (l : List Cr) (hz : l.length < 1000000000) (hs : okS w h = true → s5 w h) : SpecP Tryd.prog G 30 [patV w h l] (.int .i64 (rchI w h l)) [] := by
 refine fnP_spec hcm hmx CQ4ok ok30 rfl (ob_o30 w h l) ?_
 unfold rchI
 rcases bool_or (okS w h) with hS | hS
 ·have h5 := hs hS
  have hu := units_len h5
  rw [hS]
  refine ⟨fun h => by simp [bI] at h, fun _ => ?_⟩
  simp only [ltb_iff, ltb_no, leb_iff, leb_no, len'_iff, ltn_iff, inR_i64, inR_u8, and_true, true_and, size_vals, cond_true, implies_true, imp_self]
  refine ⟨⟨0, by simp, by omega, by simp⟩, ?_⟩
  rintro ⟨i⟩ ⟨n, hi, hn, he⟩
  simp only at hi he ⊢
  subst hi
  simp only [Int.toNat_natCast]
  refine ⟨fun hlt => ?_, fun hge => ?_⟩
  ·have g1 : n < l.length := by omega
   obtain ⟨a0, a1, a2⟩ := cgetd g1
   have hst := badL_step g1
   refine ⟨by omega, by omega, by rw [flatC_len]; omega, a2, fun hk => ?_, fun hk => ⟨by omega, by omega, by rw [flatC_len]; omega, a2, fun hk2 => ?_, fun hk2 => ?_⟩⟩
   ·have : kdB (cK l n) = false := kdB_no.2 (by omega)
    rw [this] at hst
    rw [← he, hst]; rfl
   ·have : kdB (cK l n) = false := kdB_no.2 (by omega)
    rw [this] at hst
    rw [← he, hst]; rfl
   ·have : kdB (cK l n) = true := kdB_iff.2 (by omega)
    rw [this] at hst
    refine ⟨by omega, ⟨n + 1, by omega, by omega, ?_⟩, by omega⟩
    rw [← he, hst]; rfl
  ·have g1 : l.drop n = [] := List.drop_eq_nil_of_le (by omega)
   rw [g1] at he
   rw [← he]
   refine ⟨h5, ⟨0, by simp, by omega, rfl⟩, ?_⟩
   rw [show (bif badL [] then (1 : Int) else rck (units w h) (-1) 0 l) = rck (units w h) (-1) 0 l from rfl]
   generalize units w h = us at *
   rintro ⟨i, p, o⟩ ⟨n, hi, hn, he⟩
   simp only at hi he ⊢
   subst hi
   simp only [Int.toNat_natCast]
   refine ⟨fun hlt => ⟨⟨0, by simp, by omega, rfl⟩, ?_⟩, fun hge => ?_⟩
   ·have g1 : n < l.length := by omega
    obtain ⟨a0, a1, a2⟩ := cgetd g1
    rintro ⟨j, m⟩ ⟨k, hj, hk, hm⟩
    simp only at hj hm ⊢
    subst hj
    simp only [Int.toNat_natCast]
    refine ⟨fun hlt2 => ?_, fun hge2 => ?_⟩
    ·have g2 : k < us.length := by omega
     obtain ⟨b0, b1⟩ := uget g2
     obtain ⟨u1, u2, u3⟩ := uAt g2
     have hst : lkI (cC l n) (cE l n) m k (us.drop k) = lkI (cC l n) (cE l n) (cond (uC us k == cC l n && uE us k == cE l n) k m) ((k : Int) + 1) (us.drop (k + 1)) := by
      rw [drop_at g2, u2, u3]; rfl
     have b0' : (List.drop (k * 2) (flatU us))[0]? = some (.int .i64 (uC us k)) := by rw [List.drop_zero] at b0; exact b0
     have b1' : (List.drop (k * 2) (flatU us))[1]? = some (.int .u8 (uE us k)) := (List.getElem?_drop ..).symm.trans b1
     refine ⟨by omega, by omega, by rw [flatU_len]; omega, b0', b1', by omega, by omega, by rw [flatC_len]; omega, a0, by omega, by omega, by rw [flatC_len]; omega, a1, fun hc => ?_, fun hc => ?_⟩
     ·rw [hc, cond_true] at hst
      refine ⟨by omega, ⟨k + 1, by omega, by omega, ?_⟩, by omega⟩
      rw [← hm, hst]; rfl
     ·rw [hc, cond_false] at hst
      refine ⟨by omega, ⟨k + 1, by omega, by omega, ?_⟩, by omega⟩
      rw [← hm, hst]; rfl
    ·have g2 : us.drop k = [] := List.drop_eq_nil_of_le (by omega)
     rw [g2] at hm
     have hm' : m = lkI (cC l n) (cE l n) (-1) 0 us := hm
     have hst : rck us p o (l.drop n) = cond (ltb m 0) 7 (rck us m (cond (leb m p) 6 o) (l.drop (n + 1))) := by
      rw [drop_at g1, cAt g1, hm']; rfl
     refine ⟨fun h0 => ?_, fun h0 => ⟨fun h1 => ?_, fun h1 => ?_⟩⟩
     ·have : ltb m 0 = true := by rw [ltb_iff]; exact h0
      rw [this, cond_true] at hst
      rw [← he, hst]
     ·have e1 : ltb m 0 = false := by rw [ltb_no]; exact h0
      have e2 : leb m p = true := by rw [leb_iff]; exact h1
      rw [e1, e2, cond_false, cond_true] at hst
      refine ⟨by omega, ⟨n + 1, by omega, by omega, ?_⟩, by omega⟩
      rw [← hst]; exact he
     ·have e1 : ltb m 0 = false := by rw [ltb_no]; exact h0
      have e2 : leb m p = false := by rw [leb_no]; exact h1
      rw [e1, e2, cond_false, cond_false] at hst
      refine ⟨by omega, ⟨n + 1, by omega, by omega, ?_⟩, by omega⟩
      rw [← hst]; exact he
   ·have g1 : l.drop n = [] := List.drop_eq_nil_of_le (by omega)
    rw [g1] at he
    exact he
 ·rw [hS]
  exact ⟨fun _ => ⟨rfl, trivial⟩, fun h => by simp [bI] at h⟩
end Go.Proofs.YtfpcbimohikhmaaDoor.X
