/-
 Index, Contains, Equal, Clone, Compact on lists of cells.
-/
import Derived.Test.YtmnaghfndigfkaaDoorOYZ
import Derived.Test.YtmnaghfndigfkaaDoorCPZ
set_option maxRecDepth 1000000
set_option linter.unusedVariables false
set_option linter.unusedSimpArgs false
namespace Go.Proofs.YtmnaghfndigfkaaDoor.X
open Go Go.Ab

theorem idx_has : ∀ (l : List Cl) (c : Cl) (i : Nat), leb 0 (idxL l c i) = hasL l c
 | [], c, i => rfl
 | a :: r, c, i => by
  simp only [idxL, hasL]
  cases eqCl a c with
  | true => rw [cond_true, cond_true, leb_iff]; omega
  | false => exact idx_has r c (i + 1)
theorem ct150 : CtOk Tryd.prog G 150 e150 := by
 intro args r h hp
 unfold e150 at h
 split at h <;> cases h
 obtain ⟨h1, h2, hz⟩ := hp
 generalize unK _ = l at *
 subst h1 h2
 refine (fnP_spec hcm hmx T0ok ok150 rfl (ob_o150 l _ _ _) ?_ : SpecP Tryd.prog G 150 [cls l, _] _ []).caps
 simp only [ltb_iff, ltb_no, leb_iff, leb_no, len'_iff, ltn_iff, inR_i64, and_true, true_and, size_vals, iI, flatK_len]
 refine ⟨⟨0, rfl, by omega, rfl⟩, ?_⟩
 rintro ⟨i⟩ ⟨n, hi, hn, he⟩
 simp only at hi he ⊢
 subst hi
 simp only [Int.toNat_natCast]
 refine ⟨fun hlt => ?_, fun hge => ?_⟩
 ·have g1 : n < l.length := by omega
  obtain ⟨a0, a1, a2⟩ := kget g1
  rw [drop_at g1] at he
  simp only [idxL] at he
  refine ⟨by omega, by omega, by omega, a0, a1, a2, fun hb => ?_, fun hb => ⟨by omega, ⟨n + 1, by omega, by omega, ?_⟩, by omega⟩⟩
  ·have := eqCl_iff.1 (show eqCl (_, _, _) (kX l n, kY l n, kQ l n) = true from hb)
   rw [← he, eqCl_iff.2 this.symm]; rfl
  ·have := eqCl_no.1 (show eqCl (_, _, _) (kX l n, kY l n, kQ l n) = false from hb)
   rw [eqCl_no.2 fun h => this h.symm] at he
   exact he
 ·rw [List.drop_eq_nil_of_le (by omega)] at he
  exact he
theorem TY118ok : TabOk Tryd.prog G TY118 := tabL_ok noCh_ok ⟨ct150, trivial⟩
theorem ct118 : CtOk Tryd.prog G 118 eHasB := by
 intro args r h hp
 unfold eHasB at h
 split at h <;> cases h
 obtain ⟨h1, h2, hz⟩ := hp
 generalize unK _ = l at *
 subst h1 h2
 refine (fnP_spec hcm hmx TY118ok ok118 rfl (ob_o118 l _ _ _) ?_ : SpecP Tryd.prog G 118 [cls l, _] _ []).caps
 simp only [unK_flat, and_true]
 exact ⟨okL_flat hz, idx_has l _ 0⟩
theorem TY60ok : TabOk Tryd.prog G TY60 := tabL_ok noCh_ok ⟨ct118, trivial⟩
theorem ct60 : CtOk Tryd.prog G 60 eHasB := by
 intro args r h hp
 unfold eHasB at h
 split at h <;> cases h
 obtain ⟨h1, h2, hz⟩ := hp
 generalize unK _ = l at *
 subst h1 h2
 refine (fnP_spec hcm hmx TY60ok ok60 rfl (ob_o60 l _ _ _) ?_ : SpecP Tryd.prog G 60 [cls l, _] _ []).caps
 simp only [unK_flat, and_true]
 exact okL_flat hz
theorem ct119 : CtOk Tryd.prog G 119 eSame := by
 intro args r h hp
 unfold eSame at h
 split at h <;> cases h
 obtain ⟨⟨h1, h2, hz⟩, k1, k2, hy⟩ := hp
 generalize unK _ = a at *
 generalize unK _ = b at *
 subst h1 h2 k1 k2
 refine (fnP_spec hcm hmx T0ok ok119 rfl (ob_o119 a b) ?_ : SpecP Tryd.prog G 119 [cls a, cls b] _ []).caps
 simp only [ltb_iff, ltb_no, leb_iff, leb_no, len'_iff, ltn_iff, inR_i64, and_true, true_and, size_vals, iI, flatK_len, bne_iff_ne, bne_eq_false_iff_eq, ne_eq]
 refine ⟨fun h => ?_, fun h => ⟨⟨0, rfl, by omega, rfl⟩, ?_⟩⟩
 ·refine (eqLC_no.2 fun e => h ?_).symm
  rw [e]
 rintro ⟨i⟩ ⟨n, hi, hn, he⟩
 simp only at hi he ⊢
 subst hi
 simp only [Int.toNat_natCast, Bool.not_eq_true', Bool.not_eq_false']
 refine ⟨fun hlt => ?_, fun hge => ?_⟩
 ·have g1 : n < a.length := by omega
  have g2 : n < b.length := by omega
  obtain ⟨a0, a1, a2⟩ := kget g1
  obtain ⟨b0, b1, b2⟩ := kget g2
  rw [drop_at g1, drop_at g2] at he
  simp only [eqLC] at he
  refine ⟨by omega, by omega, by omega, a0, a1, a2, by omega, by omega, by omega, b0, b1, b2, fun hb => ?_, fun hb => ⟨by omega, ⟨n + 1, by omega, by omega, ?_⟩, by omega⟩⟩
  ·rw [show eqCl (kX a n, kY a n, kQ a n) (kX b n, kY b n, kQ b n) = false from hb] at he
   exact he
  ·rw [show eqCl (kX a n, kY a n, kQ a n) (kX b n, kY b n, kQ b n) = true from hb] at he
   exact he
 ·rw [List.drop_eq_nil_of_le (by omega), List.drop_eq_nil_of_le (by omega)] at he
  exact he
theorem TY63ok : TabOk Tryd.prog G TY63 := tabL_ok noCh_ok ⟨ct119, trivial⟩
theorem ct63 : CtOk Tryd.prog G 63 eSame := by
 intro args r h hp
 unfold eSame at h
 split at h <;> cases h
 obtain ⟨⟨h1, h2, hz⟩, k1, k2, hy⟩ := hp
 generalize unK _ = a at *
 generalize unK _ = b at *
 subst h1 h2 k1 k2
 refine (fnP_spec hcm hmx TY63ok ok63 rfl (ob_o63 a b) ?_ : SpecP Tryd.prog G 63 [cls a, cls b] _ []).caps
 simp only [unK_flat, and_true]
 exact ⟨okL_flat hz, okL_flat hy⟩
theorem ct116 : CtOk Tryd.prog G 116 e116 := by
 intro args r h hp
 unfold e116 at h
 split at h <;> cases h
 obtain ⟨⟨h1, h2, hz⟩, h0⟩ := hp
 generalize unK _ = l at *
 subst h1 h2
 refine (fnP_spec hcm hmx T0ok ok116 rfl (ob_o116 l) ?_ : SpecP Tryd.prog G 116 [cls l] _ [rwB (flatK l) l.length]).caps
 simp only [len'_iff, ltn_iff, size_vals, flatK_len, List.nil_append, Nat.zero_add, and_true, true_and]
 omega
/-! ### Compact -/
theorem cpt_snoc : ∀ (l : List Cl) (a b : Cl), cptL (l ++ [a, b]) = cond (eqCl a b) (cptL (l ++ [a])) (cptL (l ++ [a]) ++ [b])
 | [], a, b => by
  simp only [List.nil_append, cptL]
  cases h : eqCl a b with
  | true => rw [eqCl_iff.1 h]; rfl
  | false => rfl
 | [c], a, b => by
  have ih := cpt_snoc [] a b
  simp only [List.nil_append] at ih
  simp only [List.cons_append, List.nil_append, cptL] at ih ⊢
  rw [ih]
  cases eqCl c a <;> cases eqCl a b <;> rfl
 | c :: d :: l, a, b => by
  have ih := cpt_snoc (d :: l) a b
  simp only [List.cons_append, cptL] at ih ⊢
  rw [ih]
  cases eqCl c d <;> cases eqCl a b <;> rfl
theorem cpt_step {d : List Cl} {n : Nat} (h1 : 1 ≤ n) (h : n < d.length) : cptL (d.take (n + 1)) = cond (eqCl (kC d n) (kC d (n - 1))) (cptL (d.take n)) (cptL (d.take n) ++ [kC d n]) := by
 obtain ⟨m, rfl⟩ : ∃ m, n = m + 1 := ⟨n - 1, by omega⟩
 rw [take_at h, take_at (show m < d.length by omega), List.append_assoc]
 have := cpt_snoc (d.take m) (kX d m, kY d m, kQ d m) (kX d (m + 1 : Nat), kY d (m + 1 : Nat), kQ d (m + 1 : Nat))
 refine this.trans ?_
 have e : (((m + 1 : Nat) : Int) - 1) = (m : Int) := by omega
 rw [e]
 have e2 : eqCl (kX d m, kY d m, kQ d m) (kX d (m + 1 : Nat), kY d (m + 1 : Nat), kQ d (m + 1 : Nat)) = eqCl (kC d (m + 1 : Nat)) (kC d m) := by
  unfold kC
  cases h : eqCl (kX d (m + 1 : Nat), kY d (m + 1 : Nat), kQ d (m + 1 : Nat)) (kX d m, kY d m, kQ d m) with
  | true => exact eqCl_iff.2 (eqCl_iff.1 h).symm
  | false => exact eqCl_no.2 fun e => eqCl_no.1 h e.symm
 rw [e2]; rfl
theorem cptL_len : ∀ l : List Cl, (cptL l).length ≤ l.length
 | [] => Nat.le_refl _
 | [a] => Nat.le_refl _
 | a :: b :: r => by
  have := cptL_len (b :: r)
  simp only [cptL]
  cases eqCl a b with
  | true => rw [cond_true, List.length_cons]; omega
  | false => rw [cond_false, List.length_cons, List.length_cons]; omega
theorem cpR_id {d : List Cl} (h : cptL d = d) : cpR d = d := by unfold cpR; rw [h, Nat.sub_self, List.replicate_zero, List.append_nil]
theorem gK_drop {R d : List Cl} {k n : Nat} (h : R.drop k = d.drop k) (hk : k ≤ n) : gK R n = gK d n := by
 unfold gK
 have : R[(n : Int).toNat]? = d[(n : Int).toNat]? := by
  obtain ⟨j, rfl⟩ : ∃ j, n = k + j := ⟨n - k, by omega⟩
  rw [Int.toNat_natCast, ← List.getElem?_drop, ← List.getElem?_drop, h]
 rw [this]
theorem take_set_succ {R : List Cl} {k : Nat} (c : Cl) (h : k < R.length) : (R.set k c).take (k + 1) = R.take k ++ [c] := by
 rw [List.take_add_one, List.getElem?_set_self h]
 congr 1
 apply List.ext_getElem?
 intro j
 simp only [List.getElem?_take, List.getElem?_set]
 split
 ·rw [if_neg (by omega)]
 ·rfl
theorem take_step {d : List Cl} {n : Nat} (h : n < d.length) (h1 : 1 ≤ n) (hc : cptL (d.take n) = d.take n) (e : eqCl (kC d n) (kC d (n - 1)) = false) : cptL (d.take (n + 1)) = d.take (n + 1) := by
 rw [cpt_step h1 h, e, cond_false, hc, take_at h]; rfl
theorem sp117 (d : List Cl) (hz : d.length < 1000000) : SpecD Tryd.prog G (.fn 117 [] []) [.full 16448 d.length] [(16448, .blk (rwB (flatK d) d.length))] (.vw 16448 d.length 3 0 (cptL d).length) [(16448, .blk (rwB (flatK (cpR d)) d.length))] [] := by
 refine fnD_spec hcm hmx T0ok ok117 rfl (ob_d_117 d) ?_
 simp only [ltb_iff, ltb_no, leb_iff, leb_no, len'_iff, ltn_iff, inR_i64, and_true, true_and, size_vals, iI, flatK_len, az_eq, forall_const, true_imp_iff]
 refine ⟨fun h => ?_, fun h => ⟨⟨⟨1, rfl, by omega, by omega, ?_⟩, ?_⟩, fun e => ⟨by rw [cpR_id e], by rw [e]⟩⟩⟩
 ·have e : cptL d = d := by
   match d, h with
   | [], _ => rfl
   | [a], _ => rfl
   | a :: b :: r, h => simp only [List.length_cons] at h; omega
  exact ⟨by rw [cpR_id e], by rw [e]⟩
 ·match d, h with
  | a :: r, _ => rfl
  | [], h => simp only [List.length_nil] at h; omega
 rintro ⟨i⟩ ⟨n, hi, h1, hn, hc⟩
 simp only at hi hc ⊢
 subst hi
 have en : ((n : Int) - 1) = ((n - 1 : Nat) : Int) := by omega
 simp only [Int.toNat_natCast]
 refine ⟨fun hlt => ?_, fun hge => ?_⟩
 ·have g1 : n < d.length := by omega
  obtain ⟨a0, a1, a2⟩ := krow g1
  obtain ⟨b0, b1, b2⟩ := krow (show n - 1 < d.length by omega)
  rw [en]
  simp only [Int.toNat_natCast]
  refine ⟨by omega, by omega, a0, a1, a2, by omega, by omega, by omega, b0, b1, b2, fun hq => ?_, fun hq => ?_⟩
  ·have hq : eqCl (kC d n) (kC d ((n : Int) - 1)) = true := by rw [en]; exact hq
   refine ⟨by omega, g1, ⟨d, n, 1, rfl, rfl, rfl, rfl, by omega, by omega, by omega, ?_, rfl⟩, ?_⟩
   ·rw [cpt_step h1 g1, hq, cond_true, hc]
   rintro ⟨k, j, o⟩ ⟨R, k, m, i1, i2, i3, i4, i5, i6, i7, i8, i9⟩
   simp only at i1 i2 i3 ⊢
   subst i1 i2 i3
   simp only [Int.toNat_natCast, unK_flat, flatK_len]
   refine ⟨fun hj => ?_, fun hj => ?_⟩
   ·have g2 : n + m < d.length := by omega
    have e1 : ((n : Int) + (m : Int)) = ((n + m : Nat) : Int) := by omega
    have e2 : ((n : Int) + (m : Int) - 1) = ((n + m - 1 : Nat) : Int) := by omega
    have e3 : ((m : Int) - 1) = ((m - 1 : Nat) : Int) := by omega
    have e4 : n + (m - 1) = n + m - 1 := by omega
    rw [e2, e1, e3]
    simp only [Int.toNat_natCast, e4]
    have r1 : gK R (n + m : Nat) = gK d (n + m : Nat) := gK_drop i9 (by omega)
    have r2 : gK R (n + m - 1 : Nat) = gK d (n + m - 1 : Nat) := gK_drop i9 (by omega)
    have c1 : kC R (n + m : Nat) = kC d (n + m : Nat) := by unfold kC kX kY kQ; rw [r1]
    have c2 : kC R (n + m - 1 : Nat) = kC d (n + m - 1 : Nat) := by unfold kC kX kY kQ; rw [r2]
    have st := cpt_step (d := d) (n := n + m) (by omega) g2
    rw [show (((n + m : Nat) : Int) - 1) = ((n + m - 1 : Nat) : Int) by omega, ← c1, ← c2] at st
    have dr : List.drop (n + (m + 1) - 1) R = List.drop (n + (m + 1) - 1) d := by
     rw [show n + (m + 1) - 1 = (n + m - 1) + 1 by omega, ← List.drop_drop, i9, List.drop_drop]
    obtain ⟨x0, x1, x2⟩ := krow (l := R) (n := n + m) (by omega)
    obtain ⟨y0, y1, y2⟩ := krow (l := R) (n := n + m - 1) (by omega)
    refine ⟨by omega, by omega, x0, x1, x2, by omega, by omega, by omega, y0, y1, y2, fun hq => ?_, fun hq => ?_⟩
    ·rw [Bool.not_eq_true'] at hq
     have hq : eqCl (kC R (n + m : Nat)) (kC R (n + m - 1 : Nat)) = false := hq
     rw [hq, cond_false] at st
     refine ⟨by omega, by omega, x0, x1, x2, by omega, by omega, by omega, by omega, by omega, ⟨R.set k (kC R (n + m : Nat)), k + 1, m + 1, by omega, by omega, ?_, by rw [List.length_set]; exact i4, by omega, by omega, by omega, ?_, ?_⟩, by omega⟩
     ·exact flatK_set R k (kC R (n + m : Nat)) (by omega)
     ·rw [take_set_succ _ (by omega), i8, ← Nat.add_assoc, st]
     ·rw [List.drop_set_of_lt (by omega)]; exact dr
    ·rw [Bool.not_eq_false'] at hq
     have hq : eqCl (kC R (n + m : Nat)) (kC R (n + m - 1 : Nat)) = true := hq
     rw [hq, cond_true] at st
     refine ⟨by omega, ⟨R, k, m + 1, rfl, by omega, rfl, i4, by omega, by omega, by omega, ?_, dr⟩, by omega⟩
     rw [i8, ← Nat.add_assoc, st]
   ·have em : n + m = d.length := by omega
    have et : R.take k = cptL d := by rw [i8, em, List.take_length]
    have el : k = (cptL d).length := by rw [← et, List.length_take]; omega
    refine ⟨by omega, by omega, by omega, by omega, by omega, ?_, el⟩
    rw [zeroK, ← flatK_take, ← flatK_dropn, et, List.drop_eq_nil_of_le (by omega)]
    unfold cpR
    rw [← el, flatK_app]
    simp [flatK]
  ·have hq : eqCl (kC d n) (kC d ((n : Int) - 1)) = false := by rw [en]; exact hq
   exact ⟨by omega, ⟨n + 1, by omega, by omega, by omega, take_step g1 h1 hc hq⟩, by omega⟩
 ·have : n = d.length := by omega
  subst this
  rw [List.take_length] at hc
  exact hc
end Go.Proofs.YtmnaghfndigfkaaDoor.X
