/-
 The contracts of the back side of a pattern, of the ends of a unit, of the reference's back side.
-/
import Derived.Test.YtfpcbimohikhmaaDoorC9Z
import Derived.Test.YtfpcbimohikhmaaDoorO6Z
set_option maxRecDepth 1000000
set_option linter.unusedVariables false
set_option linter.unusedSimpArgs false
namespace Go.Proofs.YtfpcbimohikhmaaDoor.X
open Go Go.Ab

def mirOk (w h i e : Int) : Bool := ltb (nbI w h i e) 0 || (leb 0 (mId w i) && (ltb (mId w i) (4 * w * h) && leb 0 (nbI w h (mId w i) (mE e))))
theorem mir_all : overS 5 mirOk = true := by kernel_rfl
theorem mE_ok {e : Int} (h : 0 ≤ e ∧ e ≤ 2) : 0 ≤ mE e ∧ mE e ≤ 2 ∧ [AV.int .u8 0, AV.int .u8 2, AV.int .u8 1][e.toNat]? = some (AV.int .u8 (mE e)) := by
 obtain rfl | rfl | rfl := e3 h.1 h.2
 all_goals exact ⟨by decide, by decide, rfl⟩
theorem mQ_ok {q : Int} (h : 0 ≤ q ∧ q ≤ 3) : 0 ≤ mQ q ∧ mQ q ≤ 3 ∧ [AV.int .u8 0, AV.int .u8 3, AV.int .u8 2, AV.int .u8 1][q.toNat]? = some (AV.int .u8 (mQ q)) := by
 obtain rfl | rfl | rfl | rfl : q = 0 ∨ q = 1 ∨ q = 2 ∨ q = 3 := by omega
 all_goals exact ⟨by decide, by decide, rfl⟩
/-- What is known of a crease on a unit. -/
theorem unit_ok {w h : Int} {x : Cr} (hx : unitB w h x = true) (he : 0 ≤ x.2.1) : okS w h = true ∧ hasB w h x.1 = true ∧ okI w h x.1 = true ∧ x.2.1 ≤ 2 ∧ 0 ≤ nbI w h x.1 x.2.1 ∧ x.1 ≤ nbI w h x.1 x.2.1 := by
 unfold unitB okN at hx
 simp only [Bool.and_eq_true, decide_eq_true_eq, leb_iff] at hx
 obtain ⟨⟨h1, h2, h3⟩, h4⟩ := hx
 have h1' := h1
 unfold okI at h1'
 simp only [Bool.and_eq_true] at h1'
 exact ⟨h1'.1, h1'.2, h1, h2, h3, h4⟩
/-- The mirror image of a crease on a unit. -/
theorem mir_ok {w h c e : Int} (hs : s5 w h) (hb : hasB w h c = true) (he : 0 ≤ e ∧ e ≤ 2) (hn : 0 ≤ nbI w h c e) : hasB w h (mId w c) = true ∧ 0 ≤ nbI w h (mId w c) (mE e) ∧ okN w h (mId w c) (mE e) = true ∧
  nmC w h (mId w c) (mE e) = min (mId w c) (nbI w h (mId w c) (mE e)) ∧ nmE w h (mId w c) (mE e) = mE e ∧ nbI w h (mId w c) (mE e) < 4 * w * h := by
 obtain ⟨s1, s2, s3, s4⟩ := id hs
 have h1 := overS_ok mir_all ⟨s1, s2⟩ ⟨s3, s4⟩ (hasB_iff.1 hb) he
 unfold mirOk at h1
 simp only [Bool.or_eq_true, ltb_iff, Bool.and_eq_true, leb_iff] at h1
 rcases h1 with h1 | ⟨h1, h2, h3⟩
 ·omega
 ·have hB : hasB w h (mId w c) = true := hasB_iff.2 ⟨h1, h2⟩
  have hm := mE_ok he
  have hN : okN w h (mId w c) (mE e) = true := by
   unfold okN okI
   rw [okS_of hs, hB]
   simp only [Bool.and_true, Bool.true_and, Bool.and_eq_true, decide_eq_true_eq, leb_iff]
   exact ⟨hm.2.1, h3⟩
  refine ⟨hB, h3, hN, ?_, ?_, ?_⟩
  ·unfold nmC; rw [hN]; rfl
  ·unfold nmE; rw [hN]; rfl
  ·have := (nbI_ok (okS_of hs) hB ⟨hm.1, hm.2.1⟩).1
   omega
theorem mrL_len (w h : Int) (l : List Cr) : (mrL w h l).length = l.length := by simp [mrL]
theorem cR1ok : CtsOk Tryd.prog G cR1' := ⟨ct25, ct56, ct57, ct58, trivial⟩
theorem CR1ok (w h : Int) (l : List Cr) : TabOk Tryd.prog G (CR1 w h l) := tabL_ok (ch24ok w h l) cR1ok
theorem op_unit {w h : Int} {l : List Cr} (hl : l.all (unitB w h) = true) {x : Cr} (hx : x ∈ opL l) : unitB w h x = true := by
 unfold opL at hx
 rw [List.mem_map] at hx
 obtain ⟨y, hy, rfl⟩ := hx
 exact List.all_eq_true.1 hl y hy
theorem op_edg {l : List Cr} (hl : edg l) : edg (opL l) := fun x hx => by
 unfold opL at hx
 rw [List.mem_map] at hx
 obtain ⟨y, hy, rfl⟩ := hx
 exact hl y hy
theorem mr_bnd {w h : Int} {l : List Cr} (hs : s5 w h) (hl : ∀ x ∈ l, unitB w h x = true) (hg : edg l) : ∀ x ∈ mrL w h l, bndC x := fun x hx => by
 unfold mrL at hx
 rw [List.mem_map] at hx
 obtain ⟨y, hy, rfl⟩ := hx
 obtain ⟨h1, h2, h3, h4, h5, h6⟩ := unit_ok (hl y hy) (hg y hy).1
 have he := (hg y hy).1
 obtain ⟨m1, m2, m3, m4, m5, m6⟩ := mir_ok hs h2 ⟨he, h4⟩ h5
 have hB := hasB_iff.1 m1
 have hm := mE_ok ⟨he, h4⟩
 have hz := s5_len hs
 unfold bndC mrC
 simp only
 omega
theorem sp24 (w h : Int) (l : List Cr) (hz : l.length < 1000000) (hg : edg l) (hs : okS w h = true → s5 w h) : SpecP Tryd.prog G 24 [patV w h l] (.tup [patR (chkI w h l == 0) w h (trL w h l), .int .i64 (chkI w h l)]) [blkR (trL w h l)] := by
 refine fnP_spec hcm hmx (CR1ok w h (opL l)) ok24 rfl (ob_o24 w h l) ?_
 rw [unC_flat]
 refine ⟨⟨okA_flat (by omega), hz, hg⟩, fun h0 => ?_, fun h0 => ?_⟩
 ·have h0' : (chkI w h l == 0) = false := by rw [beq_eq_false_iff_ne]; simpa using h0
  have hR : trL w h l = [] := by unfold trL; rw [h0']; rfl
  rw [hR, h0']
  simp [bI, flatC]
 ·have h0' : chkI w h l = 0 := by simpa using h0
  obtain ⟨hsr, hS, hb, hall, -⟩ := chk_ok hg h0'
  have h5 := hs hS
  have hR : opR w h l = opL l := by unfold opR; rw [h0']; rfl
  have hT : trL w h l = srtC (mrL w h (opL l)) := by unfold trL; rw [h0']; rfl
  have hU : ∀ x ∈ opL l, unitB w h x = true := fun x hx => op_unit hall hx
  have hE := op_edg hg
  have hbd := mr_bnd h5 hU hE
  have hsl : (srtC (mrL w h (opL l))).length = l.length := by rw [(srtC_ok hbd).1.length_eq, mrL_len, opL_len]
  rw [hR, hT, h0', hsl]
  have hol := opL_len l
  rw [← hol] at hz ⊢
  generalize opL l = L at *
  obtain ⟨s1, s2, s3, s4⟩ := id h5
  simp only [ltb_iff, ltb_no, leb_iff, leb_no, len'_iff, ltn_iff, inR_i64, inR_u8, and_true, true_and, size_vals, Int.toNat_natCast]
  refine ⟨⟨0, by simp, by omega, by simp⟩, ?_⟩
  rintro ⟨i, a⟩ ⟨n, hi, hn, ha⟩
  simp only at hi ha ⊢
  subst hi; subst ha
  simp only [Int.toNat_natCast]
  have hml := mix_len (mrL_len w h L) hn
  refine ⟨fun hlt => ?_, fun hge => ?_⟩
  ·have g1 : n < L.length := by omega
   have g2 : n < ((mrL w h L).take n ++ L.drop n).length := by omega
   have hma := mix_at (mrL_len w h L) g1
   have e1 : cC ((mrL w h L).take n ++ L.drop n) n = cC L n := by unfold cC; rw [Int.toNat_natCast, hma]
   have e2 : cE ((mrL w h L).take n ++ L.drop n) n = cE L n := by unfold cE; rw [Int.toNat_natCast, hma]
   have e3 : cK ((mrL w h L).take n ++ L.drop n) n = cK L n := by unfold cK; rw [Int.toNat_natCast, hma]
   obtain ⟨a0, a1, a2⟩ := cget g2
   rw [List.getElem?_drop, e1] at a0
   rw [List.getElem?_drop, e2] at a1
   rw [List.getElem?_drop, e3] at a2
   have hux := hU _ (List.getElem_mem g1)
   have hex := (hE _ (List.getElem_mem g1)).1
   rw [cAt g1] at hux hex
   obtain ⟨-, u2, u3, u4, u5, u6⟩ := unit_ok hux hex
   simp only at u2 u3 u4 u5 u6 hex
   obtain ⟨m1, m2, m3, m4, m5, m6⟩ := mir_ok h5 u2 ⟨hex, u4⟩ u5
   obtain ⟨⟨k1, k2⟩, ⟨k3, k4⟩, ⟨k5, k6⟩, k7, k8, k9, k10, k11⟩ := cell_ok hS u2
   have hq := mQ_ok (q := qQ (cC L n)) ⟨k5, k6⟩
   have hme := mE_ok (e := cE L n) ⟨hex, u4⟩
   rw [u3]
   simp only [bI, cond_true]
   have hin : inB w h (w - 1 - qX w (cC L n)) (qY w (cC L n)) = true := inB_iff.2 ⟨by omega, by omega, by omega, by omega⟩
   rw [hin, cond_true]
   have hid : 4 * (qY w (cC L n) * w + (w - 1 - qX w (cC L n))) + mQ (qQ (cC L n)) = mId w (cC L n) := rfl
   rw [hid, m4, m5]
   have hx : (min (mId w (cC L n)) (nbI w h (mId w (cC L n)) (mE (cE L n))), mE (cE L n), cK L n) = (mrL w h L)[n]'(by rw [mrL_len]; exact g1) := by
    unfold mrL; rw [List.getElem_map, cAt g1]; rfl
   refine ⟨by omega, by omega, a0, a1, a2, by omega, by omega, by omega, by omega, hq.2.2, ⟨hS, hq.1, hq.2.1, ⟨by omega, by omega⟩, by omega, by omega⟩, ⟨by omega, by omega, hme.2.2, hme.1, rfl, rfl⟩, ?_⟩
   rintro ⟨c', e'⟩ ⟨rfl, rfl⟩
   simp only
   rw [set3 g2, hx, mix_set (mrL_len w h L) g1]
   refine ⟨by omega, by omega, by rw [flatC_len, hml]; omega, by omega, ⟨n + 1, by omega, by omega, rfl⟩, by omega⟩
  ·have hnn : n = L.length := by omega
   subst hnn
   have : (mrL w h L).take L.length ++ L.drop L.length = mrL w h L := by
    rw [List.drop_length, List.append_nil, List.take_of_length_le (by rw [mrL_len]; omega)]
   rw [this]
   exact ⟨rfl, (mrL_len w h L).symm, hz, hbd⟩
end Go.Proofs.YtfpcbimohikhmaaDoor.X
