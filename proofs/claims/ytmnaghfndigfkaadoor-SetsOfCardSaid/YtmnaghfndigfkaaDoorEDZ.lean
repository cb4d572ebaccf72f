/-
 The law on Of.
-/
import Derived.Test.YtmnaghfndigfkaaDoorOEAZ
import Derived.Test.YtmnaghfndigfkaaDoorECZ
import Derived.Test.YtmnaghfndigfkaaDoorCQZ
set_option maxRecDepth 1000000
set_option linter.unusedVariables false
set_option linter.unusedSimpArgs false
namespace Go.Proofs.YtmnaghfndigfkaaDoor.X
open Go Go.Ab

theorem TE14ok : TabOk Tryd.prog G TE14 := tabL_ok noCh_ok ⟨ct59, ct60, ct47, ct61, ct52, ct41, ct62, ct35, ct63, ct37, trivial⟩
theorem bI14 (b : Bool) : (bI b 1 0 == 0) = !b := by cases b <;> rfl
theorem bI14' (b : Bool) : (bI b 1 0 == 1) = b := by cases b <;> rfl
theorem sp14 (l : List Cl) (c : Cl) (hq : okQ l) : SpecP Tryd.prog G 14 [cls l, clV c] (.bool true) [] := by
 obtain ⟨x, y, q⟩ := c
 refine fnP_spec hcm hmx TE14ok ok14 rfl (ob_o14 l x y q) ?_
 simp only [unK_flat, ltb_iff, ltb_no, leb_iff, leb_no, len'_iff, ltn_iff, inR_i64, and_true, true_and, size_vals, iI, flatK_len, bI14, bI14', Bool.not_eq_true', Bool.not_eq_false', List.nil_append, Nat.zero_add, Bool.not_not, beq_self_eq_true, bne_self_eq_false, imp_self, forall_const]
 refine ⟨fun _ => trivial, fun hl => ?_⟩
 have hL : okL (flatK l) l.length := okL_flat (by omega)
 have hle := ofL_len l
 refine ⟨⟨hL, hq, by omega⟩, hL, hL, ⟨hL, hq⟩, hL, ⟨0, rfl, by omega, rfl⟩, ?_⟩
 rintro ⟨i⟩ ⟨n, hi, hn, he⟩
 simp only at hi he ⊢
 subst hi
 simp only [Int.toNat_natCast]
 refine ⟨fun hlt => ?_, fun hge => ?_⟩
 ·have g1 : n < l.length := by omega
  obtain ⟨a0, a1, a2⟩ := kget g1
  rw [drop_at g1] at he
  simp only [badL] at he
  refine ⟨by omega, by omega, by omega, a0, a1, a2, fun hb => ?_, fun hb => ⟨by omega, ⟨n + 1, by omega, by omega, ?_⟩, by omega⟩⟩
  ·rw [hb] at he
   have hb : badL l = true := he.symm
   have e : ofX l = [] := by unfold ofX; rw [hb]; rfl
   rw [e]
   exact ⟨hb, rfl⟩
  ·rw [hb] at he; exact he
 ·rw [List.drop_eq_nil_of_le (by omega)] at he
  have hb : badL l = false := he.symm
  have e : ofX l = ofL l := by unfold ofX; rw [hb]; rfl
  obtain ⟨o1, o2⟩ := ofL_srt l
  have hv := badL_vld hb
  have hS : okS (ofL l) := okM_S (n := 40) ⟨o1, fun x hx => ⟨hv x ((o2 x).1 hx), (hq x ((o2 x).1 hx)).1⟩, by omega⟩ (by omega)
  have hO : okL (flatK (ofL l)) (ofL l).length := okL_flat (by omega)
  have this : eqLC (ofL l) l = eqLC l (ofL l) := by
   cases h : eqLC l (ofL l) with
   | true => exact eqLC_iff.2 (eqLC_iff.1 h).symm
   | false => exact eqLC_no.2 fun e => eqLC_no.1 h e.symm
  have q1 : eqLC (ofL l) (ofL l) = true := eqLC_iff.2 rfl
  have q2 : Nat.beq (l.length : Int).toNat l.length = true := by rw [Int.toNat_natCast]; exact Nat.beq_refl _
  simp only [e, hb, hS.2, q1, q2, Nat.beq_refl, Bool.true_and, Bool.and_true, beq_self_eq_true, true_and, and_true, hL, hO, hS.1, this]
  omega
end Go.Proofs.YtmnaghfndigfkaaDoor.X
