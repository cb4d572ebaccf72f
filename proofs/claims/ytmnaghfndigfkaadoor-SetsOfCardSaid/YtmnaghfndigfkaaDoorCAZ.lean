/-
 The contracts of the functions on cells and lists of cells.
-/
import Derived.Test.YtmnaghfndigfkaaDoorOAZ
set_option maxRecDepth 1000000
set_option linter.unusedVariables false
set_option linter.unusedSimpArgs false
namespace Go.Proofs.YtmnaghfndigfkaaDoor.X
open Go Go.Ab

theorem unK_flat : ∀ (l : List Cl), unK (flatK l) = l
 | [] => rfl
 | (c, e, k) :: l => by
  have ih := unK_flat l
  show (c, e, k) :: unK (flatK l) = _
  rw [ih]
theorem okL_flat {l : List Cl} (h : l.length < 1000000) : okL (flatK l) l.length := by
 unfold okL; rw [unK_flat]; exact ⟨rfl, rfl, h⟩
theorem flatK_len (l : List Cl) : (flatK l).length = l.length * 3 := RCl.flat_len l
theorem flatK_app (a b : List Cl) : flatK (a ++ b) = flatK a ++ flatK b := by unfold flatK; rw [List.flatMap_append]
theorem kget {l : List Cl} {n : Nat} (h : n < l.length) : (List.drop (n * 3) (flatK l))[0]? = some (.int .i64 (kX l n)) ∧ (List.drop (n * 3) (flatK l))[1]? = some (.int .i64 (kY l n)) ∧ (List.drop (n * 3) (flatK l))[2]? = some (.int .u8 (kQ l n)) := by
 unfold flatK kX kY kQ gK
 simp only [List.getElem?_drop, Int.toNat_natCast]
 rw [flatMap_row (k := 3) (by decide) RCl.av_len, flatMap_row (k := 3) (by decide) RCl.av_len, flatMap_row (k := 3) (by decide) RCl.av_len]
 rw [show (n * 3 + 0) / 3 = n by omega, show (n * 3 + 1) / 3 = n by omega, show (n * 3 + 2) / 3 = n by omega, show (n * 3 + 0) % 3 = 0 by omega, show (n * 3 + 1) % 3 = 1 by omega, show (n * 3 + 2) % 3 = 2 by omega, List.getElem?_eq_getElem h]
 exact ⟨rfl, rfl, rfl⟩
theorem kAt {l : List Cl} {n : Nat} (h : n < l.length) : l[n] = (kX l n, kY l n, kQ l n) := by
 unfold kX kY kQ gK
 rw [Int.toNat_natCast, List.getElem?_eq_getElem h]; rfl
theorem drop_at {l : List Cl} {n : Nat} (h : n < l.length) : l.drop n = (kX l n, kY l n, kQ l n) :: l.drop (n + 1) := by rw [← kAt h]; exact List.drop_eq_getElem_cons h
theorem take_at {l : List Cl} {n : Nat} (h : n < l.length) : l.take (n + 1) = l.take n ++ [(kX l n, kY l n, kQ l n)] := by rw [← kAt h, List.take_add_one, List.getElem?_eq_getElem h]; rfl
theorem eqCl_iff {a b : Cl} : eqCl a b = true ↔ a = b := by
 obtain ⟨x, y, q⟩ := a
 obtain ⟨x', y', q'⟩ := b
 unfold eqCl
 simp only [Bool.and_eq_true, beq_iff_eq, Prod.mk.injEq]
theorem eqCl_no {a b : Cl} : eqCl a b = false ↔ a ≠ b := by
 rw [ne_eq, ← eqCl_iff]; cases eqCl a b <;> simp
theorem ltC_iff {a b : Cl} : ltC a b = true ↔ a.2.1 < b.2.1 ∨ (a.2.1 = b.2.1 ∧ (a.1 < b.1 ∨ (a.1 = b.1 ∧ a.2.2 < b.2.2))) := by unfold ltC; rw [decide_eq_true_iff]
theorem ltC_no {a b : Cl} : ltC a b = false ↔ ¬ (a.2.1 < b.2.1 ∨ (a.2.1 = b.2.1 ∧ (a.1 < b.1 ∨ (a.1 = b.1 ∧ a.2.2 < b.2.2)))) := by unfold ltC; rw [decide_eq_false_iff_not]
theorem hasL_iff {l : List Cl} {c : Cl} : hasL l c = true ↔ c ∈ l := by
 induction l with
 | nil => simp [hasL]
 | cons a r ih =>
  simp only [hasL, cond_eq_ite]
  by_cases h : eqCl a c = true
  ·have e := eqCl_iff.1 h
   subst e
   simp [h]
  ·have h' := eqCl_no.1 (by simpa using h)
   simp [h, ih, Ne.symm h']
theorem hasL_no {l : List Cl} {c : Cl} : hasL l c = false ↔ c ∉ l := by
 rw [← hasL_iff]; cases hasL l c <;> simp
theorem eqLC_iff : ∀ {a b : List Cl}, eqLC a b = true ↔ a = b
 | [], [] => by simp [eqLC]
 | [], _ :: _ => by simp [eqLC]
 | _ :: _, [] => by simp [eqLC]
 | x :: a, y :: b => by
  simp only [eqLC, cond_eq_ite]
  by_cases h : eqCl x y = true
  ·have e := eqCl_iff.1 h
   subst e
   simp [h, eqLC_iff (a := a) (b := b)]
  ·have h' := eqCl_no.1 (by simpa using h)
   simp [h, h']
theorem eqLC_no {a b : List Cl} : eqLC a b = false ↔ a ≠ b := by
 rw [ne_eq, ← eqLC_iff]; cases eqLC a b <;> simp
theorem bI_eq (b : Bool) : (bI b 1 0 == 1) = b := by cases b <;> rfl
/-! ### Cells -/
theorem ct103 : CtOk Tryd.prog G 103 e103 := by
 intro args r h hp
 unfold e103 at h
 split at h <;> cases h
 rename_i x y q x' y' q'
 refine fnP_spec hcm hmx T0ok ok103 rfl (ob_o103 _ _ _ _ _ _) ?_
 have yes : ∀ {n : Int}, ltC (x, y, q) (x', y', q') = true → n = 1 → n = bI (ltC (x, y, q) (x', y', q')) 1 0 := fun h e => by rw [h, e]; rfl
 have no : ∀ {n : Int}, ltC (x, y, q) (x', y', q') = false → n = 0 → n = bI (ltC (x, y, q) (x', y', q')) 1 0 := fun h e => by rw [h, e]; rfl
 simp only [ltb_iff, ltb_no, and_true, beq_iff_eq, beq_eq_false_iff_ne]
 refine ⟨fun h => yes (ltC_iff.2 ?_) rfl, fun h => ⟨fun h2 => ⟨fun h3 => yes (ltC_iff.2 ?_) rfl, fun h3 => ⟨fun h4 => ⟨fun h5 => yes (ltC_iff.2 ?_) rfl, fun h5 => no (ltC_no.2 ?_) rfl⟩, fun h4 => no (ltC_no.2 ?_) rfl⟩⟩, fun h2 => no (ltC_no.2 ?_) rfl⟩⟩ <;>
  (simp only; omega)
theorem vldC_iff {c : Cl} : vldC c = true ↔ -4096 ≤ c.1 ∧ c.1 ≤ 4096 ∧ -4096 ≤ c.2.1 ∧ c.2.1 ≤ 4096 ∧ c.2.2 ≤ 3 := by unfold vldC; rw [decide_eq_true_iff]
theorem vldC_no {c : Cl} : vldC c = false ↔ ¬ (-4096 ≤ c.1 ∧ c.1 ≤ 4096 ∧ -4096 ≤ c.2.1 ∧ c.2.1 ≤ 4096 ∧ c.2.2 ≤ 3) := by unfold vldC; rw [decide_eq_false_iff_not]
theorem ct41 : CtOk Tryd.prog G 41 e41 := by
 intro args r h hp
 unfold e41 at h
 split at h <;> cases h
 rename_i x y q
 refine fnP_spec hcm hmx T0ok ok41 rfl (ob_o41 _ _ _) ?_
 have yes : ∀ {n : Int}, vldC (x, y, q) = true → n = 1 → n = bI (vldC (x, y, q)) 1 0 := fun h e => by rw [h, e]; rfl
 have no : ∀ {n : Int}, vldC (x, y, q) = false → n = 0 → n = bI (vldC (x, y, q)) 1 0 := fun h e => by rw [h, e]; rfl
 simp only [ltb_iff, ltb_no, and_true]
 refine ⟨fun h => no (vldC_no.2 ?_) rfl, fun h => ⟨fun h2 => no (vldC_no.2 ?_) rfl, fun h2 => ⟨fun h3 => no (vldC_no.2 ?_) rfl, fun h3 => ⟨fun h4 => no (vldC_no.2 ?_) rfl, fun h4 => ⟨fun h5 => no (vldC_no.2 ?_) rfl, fun h5 => yes (vldC_iff.2 ?_) rfl⟩⟩⟩⟩⟩ <;>
  (simp only; omega)
theorem ct86 : CtOk Tryd.prog G 86 e86 := by
 intro args r h hp
 unfold e86 at h
 split at h <;> cases h
 rename_i x y q
 refine fnP_spec hcm hmx T0ok ok86 rfl (ob_o86 _ _ _) ?_
 have yes : ∀ {n : Int}, vldC (x, y, q) = true → n = 0 → n = bI (vldC (x, y, q)) 0 1 := fun h e => by rw [h, e]; rfl
 have no : ∀ {n : Int}, vldC (x, y, q) = false → n = 1 → n = bI (vldC (x, y, q)) 0 1 := fun h e => by rw [h, e]; rfl
 simp only [ltb_iff, ltb_no, and_true]
 refine ⟨fun h => no (vldC_no.2 ?_) rfl, fun h => ⟨fun h2 => no (vldC_no.2 ?_) rfl, fun h2 => ⟨fun h3 => no (vldC_no.2 ?_) rfl, fun h3 => ⟨fun h4 => no (vldC_no.2 ?_) rfl, fun h4 => ⟨fun h5 => no (vldC_no.2 ?_) rfl, fun h5 => yes (vldC_iff.2 ?_) rfl⟩⟩⟩⟩⟩ <;>
  (simp only; omega)
theorem ct202 : CtOk Tryd.prog G 202 e202 := by
 intro args r h hp
 unfold e202 at h
 split at h <;> cases h
 refine fnP_spec hcm hmx T0ok ok202 rfl (ob_o202 _) ?_
 simp
theorem TB1ok : TabOk Tryd.prog G TB1 := tabL_ok noCh_ok ⟨ct202, trivial⟩
theorem cmp_ob (x y : Int) : (ltb x y = true → -1 = cmpI x y ∧ True) ∧ (ltb x y = false → (ltb y x = true → 1 = cmpI x y ∧ True) ∧ (ltb y x = false → 0 = cmpI x y ∧ True)) := by
 unfold cmpI
 simp only [ltb_iff, ltb_no, and_true]
 refine ⟨fun h => by rw [if_pos h], fun h => ⟨fun h2 => by rw [if_neg (by omega), if_pos h2], fun h2 => by rw [if_neg (by omega), if_neg (by omega)]⟩⟩
theorem ct163 : CtOk Tryd.prog G 163 e163 := by
 intro args r h hp
 unfold e163 at h
 split at h <;> cases h
 exact fnP_spec hcm hmx TB1ok ok163 rfl (ob_o163 _ _) (cmp_ob _ _)
theorem TB2ok : TabOk Tryd.prog G TB2 := tabL_ok noCh_ok ⟨ct163, ct202, trivial⟩
theorem ord_ob (a b c d e f : Int) : (Cont.vals [AV.int IntKind.i64 a, AV.int IntKind.i64 b, AV.int IntKind.i64 c, AV.int IntKind.i64 d, AV.int IntKind.i64 e, AV.int IntKind.i64 f] = Cont.vals [AV.int IntKind.i64 a, AV.int IntKind.i64 b,
AV.int IntKind.i64 c, AV.int IntKind.i64 d, AV.int IntKind.i64 e, AV.int IntKind.i64 f] ∧ 3 = 3 ∧ iI 3 = 3 ∧ iI 0 = 0 ∧ ((iI 0 ≤ iI 0 ∧ iI 0 ≤ iI 3) ∧ (iI 1 ≤ iI 0 → cmpI a b = 0) ∧ (iI 2 ≤ iI 0 →
cmpI c d = 0) ∧ (iI 3 ≤ iI 0 → cmpI e f = 0)) ∧ ∀ (b_1 : L1), (0 ≤ b_1.i ∧ b_1.i ≤ 3) ∧ (1 ≤ b_1.i → cmpI a b = 0) ∧ (2 ≤ b_1.i → cmpI c d = 0) ∧ (3 ≤ b_1.i → cmpI e f = 0) → (ltb b_1.i 3 = true → leb
0 b_1.i = true ∧ ltb b_1.i 3 = true ∧ (List.drop (Int.toNat b_1.i * 2) [AV.int IntKind.i64 a, AV.int IntKind.i64 b, AV.int IntKind.i64 c, AV.int IntKind.i64 d, AV.int IntKind.i64 e, AV.int IntKind.i64
f])[0]? = some (AV.int IntKind.i64 (p3 a c e b_1.i)) ∧ (List.drop (Int.toNat b_1.i * 2) [AV.int IntKind.i64 a, AV.int IntKind.i64 b, AV.int IntKind.i64 c, AV.int IntKind.i64 d, AV.int IntKind.i64 e,
AV.int IntKind.i64 f])[1]? = some (AV.int IntKind.i64 (p3 b d f b_1.i)) ∧ ((cmpI (List.getD [p3 a c e b_1.i, p3 b d f b_1.i] 0 0) (List.getD [p3 a c e b_1.i, p3 b d f b_1.i] 1 0) != 0) = true → cmpI
(List.getD [p3 a c e b_1.i, p3 b d f b_1.i] 0 0) (List.getD [p3 a c e b_1.i, p3 b d f b_1.i] 1 0) = ord3 a b c d e f ∧ True) ∧ ((cmpI (List.getD [p3 a c e b_1.i, p3 b d f b_1.i] 0 0) (List.getD [p3 a
c e b_1.i, p3 b d f b_1.i] 1 0) != 0) = false → inR IntKind.i64 (b_1.i + 1) = true ∧ Cont.vals [AV.int IntKind.i64 a, AV.int IntKind.i64 b, AV.int IntKind.i64 c, AV.int IntKind.i64 d, AV.int
IntKind.i64 e, AV.int IntKind.i64 f] = Cont.vals [AV.int IntKind.i64 a, AV.int IntKind.i64 b, AV.int IntKind.i64 c, AV.int IntKind.i64 d, AV.int IntKind.i64 e, AV.int IntKind.i64 f] ∧ 3 = 3 ∧ iI 3 = 3
∧ b_1.i + 1 = b_1.i + 1 ∧ ((0 ≤ b_1.i + 1 ∧ b_1.i + 1 ≤ 3) ∧ (1 ≤ b_1.i + 1 → cmpI a b = 0) ∧ (2 ≤ b_1.i + 1 → cmpI c d = 0) ∧ (3 ≤ b_1.i + 1 → cmpI e f = 0)) ∧ 3 - Int.toNat (b_1.i + 1) < 3 -
Int.toNat b_1.i ∧ True)) ∧ (ltb b_1.i 3 = false → 0 = ord3 a b c d e f ∧ True)) := by
 simp only [ltb_iff, ltb_no, leb_iff, inR_i64, and_true, true_and, iI]
 refine ⟨⟨by decide, fun h => by omega, fun h => by omega, fun h => by omega⟩, ?_⟩
 rintro ⟨i⟩ ⟨⟨h0, h3⟩, g1, g2, g3⟩
 simp only at h0 h3 g1 g2 g3 ⊢
 have hd : ∀ x y : Int, List.getD [x, y] 0 0 = x ∧ List.getD [x, y] 1 0 = y := fun x y => ⟨rfl, rfl⟩
 simp only [(hd _ _).1, (hd _ _).2, bne_iff_ne, ne_eq, bne_eq_false_iff_eq]
 have hi : i = 0 ∨ i = 1 ∨ i = 2 ∨ i = 3 := by omega
 rcases hi with rfl | rfl | rfl | rfl
 ·refine ⟨fun _ => ⟨by decide, by decide, rfl, rfl, fun hne => ?_, fun he => ⟨by decide, ⟨by decide, fun _ => he, fun h => by omega, fun h => by omega⟩, by decide⟩⟩, fun h => by omega⟩
  have hne : ¬ cmpI a b = 0 := hne
  show cmpI a b = _
  unfold ord3; rw [if_pos hne]
 ·have e1 := g1 (by omega)
  refine ⟨fun _ => ⟨by decide, by decide, rfl, rfl, fun hne => ?_, fun he => ⟨by decide, ⟨by decide, fun _ => e1, fun _ => he, fun h => by omega⟩, by decide⟩⟩, fun h => by omega⟩
  have hne : ¬ cmpI c d = 0 := hne
  show cmpI c d = _
  unfold ord3; rw [if_neg (by omega), if_pos hne]
 ·have e1 := g1 (by omega)
  have e2 := g2 (by omega)
  refine ⟨fun _ => ⟨by decide, by decide, rfl, rfl, fun hne => ?_, fun he => ⟨by decide, ⟨by decide, fun _ => e1, fun _ => e2, fun _ => he⟩, by decide⟩⟩, fun h => by omega⟩
  show cmpI e f = _
  unfold ord3; rw [if_neg (by omega), if_neg (by omega)]
 ·have e1 := g1 (by omega)
  have e2 := g2 (by omega)
  have e3 := g3 (by omega)
  refine ⟨fun h => by omega, fun _ => ?_⟩
  unfold ord3; rw [if_neg (by omega), if_neg (by omega), e3]
theorem ct127 : CtOk Tryd.prog G 127 e127 := by
 intro args r h hp
 unfold e127 at h
 split at h <;> cases h
 rename_i a b c d e f n _
 subst hp
 exact (fnP_spec hcm hmx TB2ok ok127 rfl (ob_o127 a b c d e f) (ord_ob a b c d e f) : SpecP Tryd.prog G 127 _ _ []).caps
theorem TB3ok : TabOk Tryd.prog G TB3 := tabL_ok noCh_ok ⟨ct127, ct163, ct202, trivial⟩
theorem ct79 : CtOk Tryd.prog G 79 e79 := by
 intro args r h hp
 unfold e79 at h
 split at h <;> cases h
 refine fnP_spec hcm hmx TB3ok ok79 rfl (ob_o79 _ _ _ _ _ _) ?_
 obtain ⟨h0, h1, h2, h3⟩ := hp
 simp only [inR_i64, and_true, true_and]
 exact ⟨by omega, by omega, rfl⟩
/-! ### Lists -/
theorem ct47 : CtOk Tryd.prog G 47 e47 := by
 intro args r h hp
 unfold e47 at h
 split at h <;> cases h
 rename_i a n _ x y q
 obtain ⟨h1, h2, hz⟩ := hp
 generalize unK a = l at *
 subst h1 h2
 refine (fnP_spec hcm hmx T0ok ok47 rfl (ob_o47 l x y q) ?_ : SpecP Tryd.prog G 47 [cls l, _] _ []).caps
 simp only [ltb_iff, ltb_no, leb_iff, leb_no, len'_iff, ltn_iff, inR_i64, and_true, true_and, size_vals, iI]
 refine ⟨⟨0, by simp, by omega, rfl⟩, ?_⟩
 rintro ⟨i⟩ ⟨n, hi, hn, he⟩
 simp only at hi he ⊢
 subst hi
 simp only [Int.toNat_natCast]
 refine ⟨fun hlt => ?_, fun hge => ?_⟩
 ·have g1 : n < l.length := by omega
  obtain ⟨a0, a1, a2⟩ := kget g1
  rw [drop_at g1] at he
  refine ⟨by omega, by omega, by rw [flatK_len]; omega, a0, a1, a2, fun hq => ?_, fun hq => ⟨by omega, ⟨n + 1, by omega, by omega, ?_⟩, by omega⟩⟩
  ·have : hasL l (x, y, q) = true := by
    rw [← he]
    simp only [hasL]
    have : eqCl (kX l n, kY l n, kQ l n) (x, y, q) = true := hq
    rw [this]; rfl
   rw [this]; rfl
  ·rw [← he]
   simp only [hasL]
   have : eqCl (kX l n, kY l n, kQ l n) (x, y, q) = false := hq
   rw [this]; rfl
 ·rw [List.drop_eq_nil_of_le (by omega)] at he
  rw [← he]; rfl
theorem caps2 {f : Nat} {a b v : AV} {bs : List Blk} (h : SpecP Tryd.prog G f [a, capsV b] v bs) : SpecP Tryd.prog G f [a, b] v bs := h.args fun w F xs h => by
 cases h with
 | cons _ _ _ _ h1 h2 =>
  cases h2 with
  | cons _ _ _ _ h3 h4 => exact .cons _ _ _ _ h1 (.cons _ _ _ _ h3.caps h4)
theorem ct35 : CtOk Tryd.prog G 35 e35 := by
 intro args r h hp
 unfold e35 at h
 split at h <;> cases h
 rename_i a n k b m _
 obtain ⟨⟨h1, h2, hz⟩, h3, h4, hy⟩ := hp
 generalize unK a = a at *
 generalize unK b = b at *
 subst h1 h2 h3 h4
 refine caps2 (fnP_spec hcm hmx T0ok ok35 rfl (ob_o35 a b k) ?_ : SpecP Tryd.prog G 35 [_, cls b] _ [])
 have no : ∀ {n : Int}, (Nat.beq k a.length && eqLC a b) = false → n = 0 → n = bI (Nat.beq k a.length && eqLC a b) 1 0 := fun h e => by rw [h, e]; rfl
 simp only [ltb_iff, ltb_no, leb_iff, leb_no, len'_iff, ltn_iff, inR_i64, and_true, true_and, size_vals, iI, bne_iff_ne, ne_eq, bne_eq_false_iff_eq, Int.natCast_inj]
 refine ⟨fun h => no ?_ rfl, fun hl => ⟨fun h => no ?_ rfl, fun hk => ⟨⟨0, by simp, by omega, rfl⟩, ?_⟩⟩⟩
 ·rw [eqLC_no.2 (fun e => h (by rw [e])), Bool.and_false]
 ·have : Nat.beq k a.length = false := by
   cases hb : Nat.beq k a.length
   ·rfl
   ·exact absurd (Nat.eq_of_beq_eq_true hb) h
  rw [this]; rfl
 rintro ⟨i⟩ ⟨n, hi, hn, he⟩
 simp only at hi he ⊢
 subst hi
 simp only [Int.toNat_natCast]
 have hkk : Nat.beq k a.length = true := by rw [hk]; exact Nat.beq_refl _
 refine ⟨fun hlt => ?_, fun hge => ?_⟩
 ·have g1 : n < a.length := by omega
  have g2 : n < b.length := by omega
  obtain ⟨a0, a1, a2⟩ := kget g1
  obtain ⟨b0, b1, b2⟩ := kget g2
  rw [drop_at g1, drop_at g2] at he
  simp only [eqLC] at he
  refine ⟨by omega, by omega, by rw [flatK_len]; omega, a0, a1, a2, by omega, by omega, by rw [flatK_len]; omega, b0, b1, b2, fun hq => ?_, fun hq => ⟨by omega, ⟨n + 1, by omega, by omega, ?_⟩, by omega⟩⟩
  ·have : eqCl (kX a n, kY a n, kQ a n) (kX b n, kY b n, kQ b n) = false := by rwa [Bool.not_eq_true'] at hq
   rw [this] at he
   exact no (by rw [← he]; exact Bool.and_false _) rfl
  ·have : eqCl (kX a n, kY a n, kQ a n) (kX b n, kY b n, kQ b n) = true := by rwa [Bool.not_eq_false'] at hq
   rw [this] at he
   exact he
 ·rw [List.drop_eq_nil_of_le (by omega), List.drop_eq_nil_of_le (by omega)] at he
  rw [hkk, ← he]; rfl
/-! ### Add, Of -/
theorem anyG_app (c : Cl) : ∀ (p : List Cl) (a : Cl), anyG c (p ++ [a]) = (anyG c p || ltC c a)
 | [], a => by
  show cond (ltC c a) true false = _
  cases ltC c a <;> rfl
 | b :: p, a => by
  simp only [List.cons_append, anyG]
  rw [anyG_app c p a]
  cases ltC c b <;> rfl
theorem insP_no (c : Cl) : ∀ (p : List Cl), anyG c p = false → insP c p = p
 | [], _ => rfl
 | b :: p, h => by
  simp only [anyG] at h
  simp only [insP]
  cases hb : ltC c b with
  | true => rw [hb] at h; cases h
  | false =>
   rw [hb] at h
   show b :: insP c p = _
   rw [insP_no c p h]
theorem insP_app (c : Cl) : ∀ (p : List Cl) (a : Cl), insP c (p ++ [a]) = cond (anyG c p) (insP c p ++ [a]) (cond (ltC c a) (p ++ [c, a]) (p ++ [a]))
 | [], a => by
  show cond (ltC c a) (c :: a :: []) (a :: []) = _
  cases ltC c a <;> rfl
 | b :: p, a => by
  simp only [List.cons_append, insP, anyG]
  rw [insP_app c p a]
  cases ltC c b with
  | true => rfl
  | false => cases anyG c p <;> cases ltC c a <;> rfl
theorem insP_len (c : Cl) (p : List Cl) : (insP c p).length ≤ p.length + 1 := by
 induction p with
 | nil => simp [insP]
 | cons b p ih =>
  simp only [insP, cond_eq_ite]
  split <;> simp <;> omega
theorem addL_len (l : List Cl) (c : Cl) : (addL l c).length ≤ l.length + 1 := by
 unfold addL insL
 have := insP_len c l
 cases hasL l c <;> cases anyG c l <;> simp <;> omega
theorem ofL_snoc (l : List Cl) (c : Cl) : ofL (l ++ [c]) = addL (ofL l) c := by unfold ofL; rw [List.foldl_append]; rfl
theorem ofL_len (l : List Cl) : (ofL l).length ≤ l.length := by
 suffices ∀ (l a : List Cl), (l.foldl addL a).length ≤ a.length + l.length by
  have := this l []; simpa [ofL] using this
 intro l
 induction l with
 | nil => intro a; simp
 | cons c l ih =>
  intro a
  have := ih (addL a c)
  have := addL_len a c
  simp only [List.foldl_cons, List.length_cons]
  omega
theorem TA1ok : TabOk Tryd.prog G TA1 := tabL_ok noCh_ok ⟨ct47, ct103, trivial⟩
theorem ct92 : CtOk Tryd.prog G 92 e92 := by
 intro args r h hp
 unfold e92 at h
 split at h <;> cases h
 rename_i a n _ x y q
 obtain ⟨h1, h2, hz⟩ := hp
 generalize unK a = l at *
 subst h1 h2
 refine (fnP_spec hcm hmx TA1ok ok92 rfl (ob_o92 l x y q) ?_ : SpecP Tryd.prog G 92 [cls l, _] _ []).caps
 simp only [ltb_iff, ltb_no, leb_iff, leb_no, len'_iff, ltn_iff, inR_i64, and_true, true_and, size_vals, iI, iL, bI_eq, unK_flat]
 refine ⟨okL_flat hz, fun hh => ?_, fun hh => ⟨⟨0, by simp, by omega, rfl, rfl, rfl⟩, ?_⟩⟩
 ·unfold addL; rw [hh]; exact ⟨rfl, rfl⟩
 have hadd : addL l (x, y, q) = insL (x, y, q) l := by unfold addL; rw [hh]; rfl
 rintro ⟨i, d, o, m⟩ ⟨n, hi, hn, hd, ho, hm⟩
 simp only at hi hd ho hm ⊢
 subst hi hd ho hm
 simp only [Int.toNat_natCast]
 have hlen := insP_len (x, y, q) (l.take n)
 rw [List.length_take, Nat.min_eq_left hn] at hlen
 have hd0 : ∀ b : Bool, (bI b 1 0 == 0) = !b := fun b => by cases b <;> rfl
 rw [hd0]
 refine ⟨fun hlt => ?_, fun hge => ?_⟩
 ·have g1 : n < l.length := by omega
  obtain ⟨a0, a1, a2⟩ := kget g1
  have hlt2 : 0 < (flatK l).length := by rw [flatK_len]; omega
  have e1 := take_at g1
  have eA := anyG_app (x, y, q) (l.take n) (kX l n, kY l n, kQ l n)
  have eP := insP_app (x, y, q) (l.take n) (kX l n, kY l n, kQ l n)
  rw [← e1] at eA eP
  have hc : (bif !anyG (x, y, q) (l.take n) then ltC (x, y, q) (kX l n, kY l n, kQ l n) else false) = (!anyG (x, y, q) (l.take n) && ltC (x, y, q) (kX l n, kY l n, kQ l n)) := by
   cases anyG (x, y, q) (l.take n) <;> rfl
  rw [hc]
  refine ⟨fun h => h, fun h => h, fun _ => by omega, fun _ => by omega, fun _ => hlt2, fun h => h, fun _ => a0, fun _ => a1, fun _ => a2, fun h => h, fun h => h, fun h => h, ?_, fun hb => ?_, fun hb => ?_⟩
  ·cases anyG (x, y, q) (l.take n) <;> rfl
  ·rw [Bool.and_eq_true, Bool.not_eq_true'] at hb
   have eq1 : insP (x, y, q) (l.take n) = l.take n := insP_no _ _ hb.1
   rw [hb.1, hb.2] at eP
   rw [hb.1, hb.2] at eA
   have el : (insP (x, y, q) (l.take (n + 1))).length = (insP (x, y, q) (l.take n)).length + 1 + 1 := by rw [eP, eq1]; simp
   refine ⟨by omega, by omega, by omega, hlt2, a0, a1, a2, by omega, by omega, ⟨n + 1, by omega, by omega, by rw [eA]; rfl, ?_, el.symm⟩, by omega⟩
   rw [eP, eq1]
   show _ = flatK (l.take n ++ [(x, y, q), (kX l n, kY l n, kQ l n)])
   rw [flatK_app, List.append_assoc]; rfl
  ·have eB : bI (anyG (x, y, q) (l.take n)) 1 0 = bI (anyG (x, y, q) (l.take (n + 1))) 1 0 ∧ insP (x, y, q) (l.take (n + 1)) = insP (x, y, q) (l.take n) ++ [(kX l n, kY l n, kQ l n)] := by
    rw [eA, eP]
    cases hg : anyG (x, y, q) (l.take n) with
    | true => exact ⟨rfl, rfl⟩
    | false =>
     rw [hg] at hb
     have hb : ltC (x, y, q) (kX l n, kY l n, kQ l n) = false := by simpa using hb
     rw [hb, insP_no _ _ hg]; exact ⟨rfl, e1⟩
   refine ⟨by omega, by omega, hlt2, a0, a1, a2, by omega, by omega, ⟨n + 1, by omega, by omega, eB.1, ?_, by rw [eB.2]; simp⟩, by omega⟩
   rw [eB.2, flatK_app]; rfl
 ·have e1 : l.take n = l := List.take_of_length_le (by omega)
  rw [e1]
  rw [e1] at hlen
  refine ⟨fun hg => ?_, fun hg => ?_⟩
  ·rw [Bool.not_eq_true'] at hg
   rw [hadd, insP_no _ _ hg]
   unfold insL
   rw [hg]
   refine ⟨by omega, ?_, by simp⟩
   show _ = Cont.vals (flatK (l ++ [(x, y, q)]))
   rw [flatK_app]; rfl
  ·rw [Bool.not_eq_false'] at hg
   rw [hadd]
   unfold insL
   rw [hg]
   exact ⟨rfl, rfl⟩
theorem TA2ok : TabOk Tryd.prog G TA2 := tabL_ok noCh_ok ⟨ct92, trivial⟩
theorem ct62 : CtOk Tryd.prog G 62 e62 := by
 intro args r h hp
 unfold e62 at h
 split at h <;> cases h
 rename_i a n _
 obtain ⟨h1, h2, hz⟩ := hp
 generalize unK a = l at *
 subst h1 h2
 refine (fnP_spec hcm hmx TA2ok ok62 rfl (ob_o62 l) ?_ : SpecP Tryd.prog G 62 [cls l] _ []).caps
 simp only [ltb_iff, ltb_no, leb_iff, leb_no, len'_iff, ltn_iff, inR_i64, and_true, true_and, size_vals, iI]
 refine ⟨⟨0, by simp, by omega, rfl, rfl⟩, ?_⟩
 rintro ⟨i, o, m⟩ ⟨n, hi, hn, ho, hm⟩
 simp only at hi ho hm ⊢
 subst hi ho hm
 simp only [Int.toNat_natCast, unK_flat]
 have hlen := ofL_len (l.take n)
 rw [List.length_take, Nat.min_eq_left hn] at hlen
 refine ⟨fun hlt => ?_, fun hge => ?_⟩
 ·have g1 : n < l.length := by omega
  obtain ⟨a0, a1, a2⟩ := kget g1
  have e1 : ofL (l.take (n + 1)) = addL (ofL (l.take n)) (kX l n, kY l n, kQ l n) := by rw [take_at g1, ofL_snoc]
  exact ⟨by omega, by omega, by rw [flatK_len]; omega, a0, a1, a2, okL_flat (by omega), by omega, ⟨n + 1, by omega, by omega, by rw [e1], by rw [e1]⟩, by omega⟩
 ·rw [List.take_of_length_le (by omega)]; exact ⟨rfl, rfl⟩
end Go.Proofs.YtmnaghfndigfkaaDoor.X
