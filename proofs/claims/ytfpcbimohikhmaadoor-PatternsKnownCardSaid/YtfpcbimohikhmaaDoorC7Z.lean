/-
 The contracts of the functions on whole patterns.
-/
import Derived.Test.YtfpcbimohikhmaaDoorC6Z
import Derived.Test.YtfpcbimohikhmaaDoorO5Z
set_option maxRecDepth 1000000
set_option linter.unusedVariables false
set_option linter.unusedSimpArgs false
namespace Go.Proofs.YtfpcbimohikhmaaDoor.X
open Go Go.Ab

theorem sp67 (a b : List Cr) (hz : a.length < 1000000000) : SpecP Tryd.prog G 67 [.imm (.vals (flatC a)) a.length none, .imm (.vals (flatC b)) b.length none] (.bool (eqC a b)) [] := by
 refine fnP_spec hcm hmx T0ok ok67 rfl (ob_o67 a b) ?_
 simp only [ltb_iff, ltb_no, leb_iff, leb_no, len'_iff, ltn_iff, inR_i64, inR_u8, and_true, true_and, size_vals]
 refine ⟨fun hl => ?_, fun hl => ⟨⟨0, by simp, by omega, rfl⟩, ?_⟩⟩
 ·symm
  unfold eqC
  rw [decide_eq_false_iff_not]
  rintro rfl
  simp at hl
 ·have hl' : a.length = b.length := by simp at hl; omega
  rintro ⟨i⟩ ⟨n, hi, hn, he⟩
  simp only at hi he ⊢
  subst hi
  simp only [Int.toNat_natCast]
  refine ⟨fun hlt => ?_, fun hge => ?_⟩
  ·have g1 : n < a.length := by omega
   have g2 : n < b.length := by omega
   obtain ⟨a0, a1, a2⟩ := cget g1
   obtain ⟨b0, b1, b2⟩ := cget g2
   have hst := eqC_step g1 g2
   rw [cAt g1, cAt g2] at hst
   refine ⟨by omega, by omega, by rw [flatC_len]; omega, a0, a1, a2, by omega, by omega, by rw [flatC_len]; omega, b0, b1, b2, fun hne => ?_, fun hq => ?_⟩
   ·have : decide ((cC a n, cE a n, cK a n) = (cC b n, cE b n, cK b n)) = false := by
     rw [decide_eq_false_iff_not]
     simp only [Prod.mk.injEq]
     rintro ⟨e1, e2, e3⟩
     simp [e1, e2, e3] at hne
    rw [this, Bool.false_and] at hst
    rw [← he, hst]
   ·have : decide ((cC a n, cE a n, cK a n) = (cC b n, cE b n, cK b n)) = true := by
     rw [decide_eq_true_iff]
     simp only [Prod.mk.injEq]
     simp at hq
     exact hq
    rw [this, Bool.true_and] at hst
    exact ⟨by omega, ⟨n + 1, by omega, by omega, by rw [← hst]; exact he⟩, by omega⟩
  ·have g1 : a.drop n = [] := List.drop_eq_nil_of_le (by omega)
   have g2 : b.drop n = [] := List.drop_eq_nil_of_le (by omega)
   rw [g1, g2] at he
   rw [← he]; rfl
theorem ct67 : CtOk Tryd.prog G 67 e67 := by
 intro args r h hp
 unfold e67 at h
 split at h <;> cases h
 rename_i a n _ b m _
 obtain ⟨⟨h1, h2, h3⟩, h4, h5, h6⟩ := hp
 generalize unC a = l at *
 generalize unC b = l' at *
 subst h1 h2 h4 h5
 exact (sp67 _ _ h3).caps
theorem cQ1ok : CtsOk Tryd.prog G cQ1' := ⟨ct62, trivial⟩
theorem CQ1ok : TabOk Tryd.prog G CQ1 := tabL_ok noCh_ok cQ1ok
theorem sp69 (c e k c' e' k' : Int) : SpecP Tryd.prog G 69 [.agg [.int .i64 c, .int .u8 e, .int .u8 k], .agg [.int .i64 c', .int .u8 e', .int .u8 k']] (.bool (fitB (c, e, k) (c', e', k'))) [] := by
 refine fnP_spec hcm hmx CQ1ok ok69 rfl (ob_o69 c e k c' e' k') ?_
 unfold fitB
 by_cases h1 : c = c' <;> by_cases h2 : e = e' <;> by_cases h3 : k = k' <;> by_cases h4 : k' = 3 <;> simp [h1, h2, h3, h4]
theorem ct69 : CtOk Tryd.prog G 69 e69 := by
 intro args r h hp
 unfold e69 at h
 split at h <;> cases h
 exact (sp69 _ _ _ _ _ _).caps
theorem cQ2ok : CtsOk Tryd.prog G cQ2' := ⟨ct69, ct67, trivial⟩
theorem CQ2ok : TabOk Tryd.prog G CQ2 := tabL_ok noCh_ok cQ2ok
theorem fitL_len : ∀ {a b : List Cr}, fitL a b = true → a.length = b.length
 | [], [], _ => rfl
 | [], _ :: _, h => by simp [fitL] at h
 | _ :: _, [], h => by simp [fitL] at h
 | x :: a, y :: b, h => by
  simp only [fitL, Bool.and_eq_true] at h
  simp [fitL_len h.2]
theorem fitL_step {a b : List Cr} {n : Nat} (h1 : n < a.length) (h2 : n < b.length) : fitL (a.drop n) (b.drop n) = (fitB (cC a n, cE a n, cK a n) (cC b n, cE b n, cK b n) && fitL (a.drop (n + 1)) (b.drop (n + 1))) := by
 rw [drop_at h1, drop_at h2, cAt h1, cAt h2]; rfl
theorem sp68 (a b : List Cr) (hz : a.length < 1000000000) : SpecP Tryd.prog G 68 [.imm (.vals (flatC a)) a.length none, .imm (.vals (flatC b)) b.length none, .fn 69 [] []] (.bool (fitL a b)) [] := by
 refine fnP_spec hcm hmx CQ2ok ok68 rfl (ob_o68 a b) ?_
 simp only [ltb_iff, ltb_no, leb_iff, leb_no, len'_iff, ltn_iff, inR_i64, inR_u8, and_true, true_and, size_vals]
 refine ⟨fun hl => ?_, fun hl => ⟨⟨0, by simp, by omega, rfl⟩, ?_⟩⟩
 ·cases hh : fitL a b with
  | false => rfl
  | true =>
   have := fitL_len hh
   rw [this] at hl; simp at hl
 ·have hl' : a.length = b.length := by simp at hl; omega
  rintro ⟨i⟩ ⟨n, hi, hn, he⟩
  simp only at hi he ⊢
  subst hi
  simp only [Int.toNat_natCast]
  refine ⟨fun hlt => ?_, fun hge => ?_⟩
  ·have g1 : n < a.length := by omega
   have g2 : n < b.length := by omega
   obtain ⟨a0, a1, a2⟩ := cget g1
   obtain ⟨b0, b1, b2⟩ := cget g2
   have hst := fitL_step g1 g2
   refine ⟨by omega, by omega, by rw [flatC_len]; omega, a0, a1, a2, by omega, by omega, by rw [flatC_len]; omega, b0, b1, b2, fun hne => ?_, fun hq => ?_⟩
   ·have : fitB (cC a n, cE a n, cK a n) (cC b n, cE b n, cK b n) = false := by simpa using hne
    rw [this, Bool.false_and] at hst
    rw [← he, hst]
   ·have : fitB (cC a n, cE a n, cK a n) (cC b n, cE b n, cK b n) = true := by simpa using hq
    rw [this, Bool.true_and] at hst
    exact ⟨by omega, ⟨n + 1, by omega, by omega, by rw [← hst]; exact he⟩, by omega⟩
  ·have g1 : a.drop n = [] := List.drop_eq_nil_of_le (by omega)
   have g2 : b.drop n = [] := List.drop_eq_nil_of_le (by omega)
   rw [g1, g2] at he
   rw [← he]; rfl
theorem ct68 : CtOk Tryd.prog G 68 e68 := by
 intro args r h hp
 unfold e68 at h
 split at h <;> cases h
 rename_i a n _ b m _
 obtain ⟨⟨h1, h2, h3⟩, h4, h5, h6⟩ := hp
 generalize unC a = l at *
 generalize unC b = l' at *
 subst h1 h2 h4 h5
 exact (sp68 _ _ h3).caps
theorem cQ3ok : CtsOk Tryd.prog G cQ3' := ⟨ct68, cQ2ok⟩
theorem CQ3ok : TabOk Tryd.prog G CQ3 := tabL_ok noCh_ok cQ3ok
theorem sp32 (w h w' h' : Int) (a b : List Cr) (hz : a.length < 1000000000) (hy : b.length < 1000000000) : SpecP Tryd.prog G 32 [patV w h a, patV w' h' b] (.bool (shEq w h w' h' && eqC a b)) [] := by
 refine fnP_spec hcm hmx CQ3ok ok32 rfl (ob_o32 w h w' h' a b) ?_
 rw [unC_flat, unC_flat]
 have ha := okA_flat hz
 have hb := okA_flat hy
 unfold shEq
 cases (w == w' && h == h') <;> simp [ha, hb]
theorem ct32 : CtOk Tryd.prog G 32 e32 := by
 intro args r h hp
 unfold e32 at h
 split at h <;> cases h
 rename_i w h a n _ w' h' b m _
 obtain ⟨⟨h1, h2, h3⟩, h4, h5, h6⟩ := hp
 generalize unC a = l at *
 generalize unC b = l' at *
 subst h1 h2 h4 h5
 exact (sp32 _ _ _ _ _ _ h3 h6).caps
theorem sp33 (w h w' h' : Int) (a b : List Cr) (hz : a.length < 1000000000) (hy : b.length < 1000000000) : SpecP Tryd.prog G 33 [patV w h a, patV w' h' b] (.bool (shEq w h w' h' && fitL a b)) [] := by
 refine fnP_spec hcm hmx CQ3ok ok33 rfl (ob_o33 w h w' h' a b) ?_
 rw [unC_flat, unC_flat]
 have ha := okA_flat hz
 have hb := okA_flat hy
 unfold shEq
 cases (w == w' && h == h') <;> simp [ha, hb]
theorem ct33 : CtOk Tryd.prog G 33 e33 := by
 intro args r h hp
 unfold e33 at h
 split at h <;> cases h
 rename_i w h a n _ w' h' b m _
 obtain ⟨⟨h1, h2, h3⟩, h4, h5, h6⟩ := hp
 generalize unC a = l at *
 generalize unC b = l' at *
 subst h1 h2 h4 h5
 exact (sp33 _ _ _ _ _ _ h3 h6).caps
theorem cntN_step {l : List Cr} {n : Nat} (k : Int) (h : n < l.length) : cntN (l.take (n + 1)) k = cntN (l.take n) k + (if cK l n = k then 1 else 0) := by
 unfold cntN
 rw [take_at h, List.countP_append, cAt h]
 congr 1
 simp [List.countP_cons]
theorem cntN_le (l : List Cr) (k : Int) : cntN l k ≤ l.length := List.countP_le_length
theorem sp34 (w h k : Int) (l : List Cr) (hz : l.length < 1000000000) : SpecP Tryd.prog G 34 [patV w h l, .int .u8 k] (.int .i64 (cntN l k)) [] := by
 refine fnP_spec hcm hmx T0ok ok34 rfl (ob_o34 w h k l) ?_
 simp only [ltb_iff, ltb_no, leb_iff, leb_no, len'_iff, ltn_iff, inR_i64, inR_u8, and_true, true_and, size_vals, beq_iff_eq, beq_eq_false_iff_ne, ne_eq]
 refine ⟨⟨0, by simp, by omega, by simp [cntN]⟩, ?_⟩
 rintro ⟨i, m⟩ ⟨n, hi, hn, he⟩
 simp only at hi he ⊢
 subst hi; subst he
 simp only [Int.toNat_natCast]
 have hle := cntN_le (l.take n) k
 rw [List.length_take] at hle
 refine ⟨fun hlt => ?_, fun hge => ?_⟩
 ·have g1 : n < l.length := by omega
  obtain ⟨a0, a1, a2⟩ := cget g1
  have hst := cntN_step k g1
  refine ⟨by omega, by omega, by rw [flatC_len]; omega, a0, a1, a2, fun hk => ?_, fun hk => ?_⟩
  ·rw [if_pos hk] at hst
   exact ⟨by omega, by omega, ⟨n + 1, by omega, by omega, by omega⟩, by omega⟩
  ·rw [if_neg hk] at hst
   exact ⟨by omega, ⟨n + 1, by omega, by omega, by omega⟩, by omega⟩
 ·rw [List.take_of_length_le (by omega)]
theorem ct34 : CtOk Tryd.prog G 34 e34 := by
 intro args r h hp
 unfold e34 at h
 split at h <;> cases h
 rename_i w h a n _ k
 obtain ⟨h1, h2, h3⟩ := hp
 generalize unC a = l at *
 subst h1 h2
 exact (sp34 _ _ _ _ h3).caps
/-! ### The reference's check -/
theorem badL_step {l : List Cr} {n : Nat} (h : n < l.length) : badL (l.drop n) = (!kdB (cK l n) || badL (l.drop (n + 1))) := by
 rw [drop_at h, cAt h]; rfl
theorem cQ4ok : CtsOk Tryd.prog G cQ4' := ⟨ct29, cWok⟩
theorem CQ4ok : TabOk Tryd.prog G CQ4 := tabL_ok noCh_ok cQ4ok
theorem sp30 (w h : Int) (l : List Cr) (hz : l.length < 1000000000) (hs : okS w h = true → s5 w h) : SpecP Tryd.prog G 30 [patV w h l] (.int .i64 (rchI w h l)) [] := by
 refine fnP_spec hcm hmx CQ4ok ok30 rfl (ob_o30 w h l) ?_
 unfold rchI
 rcases bool_or (okS w h) with hS | hS
 ·have h5 := hs hS
  have hu := units_len h5
  rw [hS]
  refine ⟨fun h => by simp [bI] at h, fun _ => ?_⟩
  simp only [ltb_iff, ltb_no, leb_iff, leb_no, len'_iff, ltn_iff, inR_i64, inR_u8, and_true, true_and, size_vals, cond_true, implies_true, imp_self]
  refine ⟨⟨0, by simp, by omega, by simp⟩, ?_⟩
  rintro ⟨i⟩ ⟨n, hi, hn, he⟩
  simp only at hi he ⊢
  subst hi
  simp only [Int.toNat_natCast]
  refine ⟨fun hlt => ?_, fun hge => ?_⟩
  ·have g1 : n < l.length := by omega
   obtain ⟨a0, a1, a2⟩ := cgetd g1
   have hst := badL_step g1
   refine ⟨by omega, by omega, by rw [flatC_len]; omega, a2, fun hk => ?_, fun hk => ⟨by omega, by omega, by rw [flatC_len]; omega, a2, fun hk2 => ?_, fun hk2 => ?_⟩⟩
   ·have : kdB (cK l n) = false := kdB_no.2 (by omega)
    rw [this] at hst
    rw [← he, hst]; rfl
   ·have : kdB (cK l n) = false := kdB_no.2 (by omega)
    rw [this] at hst
    rw [← he, hst]; rfl
   ·have : kdB (cK l n) = true := kdB_iff.2 (by omega)
    rw [this] at hst
    refine ⟨by omega, ⟨n + 1, by omega, by omega, ?_⟩, by omega⟩
    rw [← he, hst]; rfl
  ·have g1 : l.drop n = [] := List.drop_eq_nil_of_le (by omega)
   rw [g1] at he
   rw [← he]
   refine ⟨h5, ⟨0, by simp, by omega, rfl⟩, ?_⟩
   rw [show (bif badL [] then (1 : Int) else rck (units w h) (-1) 0 l) = rck (units w h) (-1) 0 l from rfl]
   generalize units w h = us at *
   rintro ⟨i, p, o⟩ ⟨n, hi, hn, he⟩
   simp only at hi he ⊢
   subst hi
   simp only [Int.toNat_natCast]
   refine ⟨fun hlt => ⟨⟨0, by simp, by omega, rfl⟩, ?_⟩, fun hge => ?_⟩
   ·have g1 : n < l.length := by omega
    obtain ⟨a0, a1, a2⟩ := cgetd g1
    rintro ⟨j, m⟩ ⟨k, hj, hk, hm⟩
    simp only at hj hm ⊢
    subst hj
    simp only [Int.toNat_natCast]
    refine ⟨fun hlt2 => ?_, fun hge2 => ?_⟩
    ·have g2 : k < us.length := by omega
     obtain ⟨b0, b1⟩ := uget g2
     obtain ⟨u1, u2, u3⟩ := uAt g2
     have hst : lkI (cC l n) (cE l n) m k (us.drop k) = lkI (cC l n) (cE l n) (cond (uC us k == cC l n && uE us k == cE l n) k m) ((k : Int) + 1) (us.drop (k + 1)) := by
      rw [drop_at g2, u2, u3]; rfl
     have b0' : (List.drop (k * 2) (flatU us))[0]? = some (.int .i64 (uC us k)) := by rw [List.drop_zero] at b0; exact b0
     have b1' : (List.drop (k * 2) (flatU us))[1]? = some (.int .u8 (uE us k)) := (List.getElem?_drop ..).symm.trans b1
     refine ⟨by omega, by omega, by rw [flatU_len]; omega, b0', b1', by omega, by omega, by rw [flatC_len]; omega, a0, by omega, by omega, by rw [flatC_len]; omega, a1, fun hc => ?_, fun hc => ?_⟩
     ·rw [hc, cond_true] at hst
      refine ⟨by omega, ⟨k + 1, by omega, by omega, ?_⟩, by omega⟩
      rw [← hm, hst]; rfl
     ·rw [hc, cond_false] at hst
      refine ⟨by omega, ⟨k + 1, by omega, by omega, ?_⟩, by omega⟩
      rw [← hm, hst]; rfl
    ·have g2 : us.drop k = [] := List.drop_eq_nil_of_le (by omega)
     rw [g2] at hm
     have hm' : m = lkI (cC l n) (cE l n) (-1) 0 us := hm
     have hst : rck us p o (l.drop n) = cond (ltb m 0) 7 (rck us m (cond (leb m p) 6 o) (l.drop (n + 1))) := by
      rw [drop_at g1, cAt g1, hm']; rfl
     refine ⟨fun h0 => ?_, fun h0 => ⟨fun h1 => ?_, fun h1 => ?_⟩⟩
     ·have : ltb m 0 = true := by rw [ltb_iff]; exact h0
      rw [this, cond_true] at hst
      rw [← he, hst]
     ·have e1 : ltb m 0 = false := by rw [ltb_no]; exact h0
      have e2 : leb m p = true := by rw [leb_iff]; exact h1
      rw [e1, e2, cond_false, cond_true] at hst
      refine ⟨by omega, ⟨n + 1, by omega, by omega, ?_⟩, by omega⟩
      rw [← hst]; exact he
     ·have e1 : ltb m 0 = false := by rw [ltb_no]; exact h0
      have e2 : leb m p = false := by rw [leb_no]; exact h1
      rw [e1, e2, cond_false, cond_false] at hst
      refine ⟨by omega, ⟨n + 1, by omega, by omega, ?_⟩, by omega⟩
      rw [← hst]; exact he
   ·have g1 : l.drop n = [] := List.drop_eq_nil_of_le (by omega)
    rw [g1] at he
    exact he
 ·rw [hS]
  exact ⟨fun _ => ⟨rfl, trivial⟩, fun h => by simp [bI] at h⟩
end Go.Proofs.YtfpcbimohikhmaaDoor.X
