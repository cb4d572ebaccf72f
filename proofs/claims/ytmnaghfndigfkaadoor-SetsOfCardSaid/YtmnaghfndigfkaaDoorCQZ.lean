/-
 The law on errors.
-/
import Derived.Test.YtmnaghfndigfkaaDoorOIZ
import Derived.Test.YtmnaghfndigfkaaDoorCPZ
import Derived.Test.YtmnaghfndigfkaaDoorCLZ
import Derived.Test.YtmnaghfndigfkaaDoorCMZ
set_option maxRecDepth 1000000
set_option linter.unusedVariables false
set_option linter.unusedSimpArgs false
namespace Go.Proofs.YtmnaghfndigfkaaDoor.X
open Go Go.Ab

theorem TO52ok : TabOk Tryd.prog G TO52 := tabL_ok noCh_ok ⟨ct41, ct103, trivial⟩
theorem bI0 (b : Bool) : (bI b 1 0 == 0) = !b := by cases b <;> rfl
theorem ct52 : CtOk Tryd.prog G 52 e52 := by
 intro args r h hp
 unfold e52 at h
 split at h <;> cases h
 obtain ⟨h1, h2, hz⟩ := hp
 generalize unK _ = l at *
 subst h1 h2
 refine (fnP_spec hcm hmx TO52ok ok52 rfl (ob_o52 l) ?_ : SpecP Tryd.prog G 52 [cls l] _ []).caps
 simp only [ltb_iff, ltb_no, leb_iff, leb_no, len'_iff, ltn_iff, inR_i64, and_true, true_and, size_vals, iI, flatK_len, bI0, Bool.not_eq_true', Bool.not_eq_false']
 refine ⟨fun h => ?_, fun h0 => ⟨⟨0, rfl, by omega, rfl⟩, ?_⟩⟩
 ·unfold chkI; rw [decide_eq_true (by omega)]; rfl
 rintro ⟨i⟩ ⟨n, hi, hn, he⟩
 simp only at hi he ⊢
 subst hi
 simp only [Int.toNat_natCast]
 refine ⟨fun hlt => ?_, fun hge => ⟨⟨0, by omega, by omega, rfl⟩, ?_⟩⟩
 ·have g1 : n < l.length := by omega
  obtain ⟨a0, a1, a2⟩ := kget g1
  rw [drop_at g1] at he
  simp only [badL] at he
  refine ⟨by omega, by omega, by omega, a0, a1, a2, fun hb => ?_, fun hb => ⟨by omega, ⟨n + 1, by omega, by omega, ?_⟩, by omega⟩⟩
  ·rw [hb] at he
   unfold chkI; rw [decide_eq_false (by omega), ← he]; rfl
  ·rw [hb] at he; exact he
 have hbad : badL l = false := by
  rw [← he, List.drop_eq_nil_of_le (by omega)]; rfl
 have hc : chkI l = bI (srtB l) 0 6 := by unfold chkI; rw [decide_eq_false (by omega), hbad]; rfl
 rintro ⟨i⟩ ⟨n, hi, hn, he⟩
 simp only at hi he ⊢
 subst hi
 rw [show (((n + 1 : Nat) : Int) - 1) = (n : Int) by omega]
 simp only [Int.toNat_natCast]
 refine ⟨fun hlt => ?_, fun hge => ?_⟩
 ·have g1 : n < l.length := by omega
  have g2 : n + 1 < l.length := by omega
  obtain ⟨a0, a1, a2⟩ := kget g1
  obtain ⟨b0, b1, b2⟩ := kget g2
  rw [drop_at g1, drop_at g2] at he
  simp only [srtB] at he
  rw [← drop_at g2] at he
  refine ⟨by omega, by omega, by omega, by omega, a0, a1, a2, by omega, by omega, by omega, b0, b1, b2, fun hq => ?_, fun hq => ⟨by omega, ⟨n + 1, by omega, by omega, ?_⟩, by omega⟩⟩
  ·rw [hq] at he
   rw [hc, ← he]; rfl
  ·rw [hq] at he
   exact he
 ·have : srtB (l.drop n) = true := by
   rcases Nat.lt_or_ge n l.length with g | g
   ·rw [drop_at g, List.drop_eq_nil_of_le (by omega)]; rfl
   ·rw [List.drop_eq_nil_of_le (by omega)]; rfl
  rw [this] at he
  rw [hc, ← he]; rfl
end Go.Proofs.YtmnaghfndigfkaaDoor.X
