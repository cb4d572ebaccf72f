/-
 Cones: the contracts of the law's functions.
-/
import Derived.Test.YthiammkiobbclaaGreatDoorO11Z
import Derived.Test.YthiammkiobbclaaGreatDoorP4Z
set_option maxRecDepth 1000000
set_option linter.unusedVariables false
set_option linter.unusedSimpArgs false
namespace Go.Proofs.YthiammkiobbclaaGreatDoor.X
open Go Go.Ab

theorem okA_at {a : List Int} (hA : okA a) {m : Nat} (g : m < a.length) : 1 ≤ a[m]?.getD 0 ∧ a[m]?.getD 0 ≤ 8 := by
 have h1 := okA_get hA g
 have : a[m]?.getD 0 ≤ a.sum := by
  have e : (a.take m).sum + (a.drop m).sum = a.sum := by rw [← List.sum_append, List.take_append_drop]
  have e2 : (a.drop m).sum = a[m]?.getD 0 + (a.drop (m + 1)).sum := by rw [List.drop_eq_getElem_cons g, List.sum_cons, List.getElem?_eq_getElem g]; rfl
  have := okA_drop hA (m + 1)
  have : 0 ≤ (a.take m).sum := sum_nonneg fun x hx => by have := hA.1 x (List.mem_of_mem_take hx); omega
  omega
 have := hA.2
 omega
theorem rays_0 (a : List Int) : [0] = (raysL a).take 1 := by
 show [0] = (rayL 0 true a).take 1
 cases a <;> rfl
theorem ctc28 : CtOk Tryz.prog G 28 e28c := by
 intro args r h hp
 unfold e28c at h
 split at h <;> cases h
 rename_i a n _ k m _
 obtain ⟨rfl, rfl, hA⟩ := hp
 refine fan_caps (fnP_spec hcm hmx T0ok ok28 rfl (ob_o28c a k) ?_)
 dsimp -failIfUnchanged -proj -eta -iota -zeta only
 have hl := okA_len hA
 have hrb := rays_bd hA
 have hrl := raysL_len a
 have hr0 := rays_0 a
 have iL0 : iL [0] = [0] := rfl
 simp only [iL0, inR_i64, and_true, true_and, leb_iff, ltb_iff, ltb_no, ltn_iff, len'_iff, iI, size_ints, List.length_drop, List.length_append, List.length_cons, List.length_nil, List.getD_eq_getElem?_getD, List.getElem?_drop, Nat.add_zero, Nat.zero_add, beq_iff_eq, beq_eq_false_iff_ne, ne_eq, forall_const, true_imp_iff]
 refine ⟨⟨0, rfl, by omega, hr0⟩, ?_⟩
 rintro ⟨i, r⟩ ⟨m, hi, hm, hr⟩
 simp only at hi hr ⊢
 subst hi hr
 simp only [Int.toNat_natCast]
 refine ⟨fun hlt => ?_, fun hge => ?_⟩
 ·have g : m < a.length := by omega
  have hst := rays_step g
  have htl : ((raysL a).take (m + 1)).length = m + 1 := by rw [List.length_take]; omega
  have ha := okA_at hA g
  have hy : -8 ≤ ((raysL a).take (m + 1))[m]?.getD 0 ∧ ((raysL a).take (m + 1))[m]?.getD 0 ≤ 8 := by
   have hm1 : m < ((raysL a).take (m + 1)).length := by omega
   rw [List.getElem?_eq_getElem hm1]
   exact hrb _ (List.mem_of_mem_take (List.getElem_mem hm1))
  have ht : (m : Int).tmod 2 = 0 ∨ (m : Int).tmod 2 = 1 := by rw [Int.tmod_eq_emod_of_nonneg (by omega)]; omega
  generalize hq : (raysL a).take (m + 1) = q at *
  refine ⟨by omega, by omega, by omega, by omega, fun h1 => ?_, fun h1 => ?_⟩
  ·rw [h1, show ∀ x y : Int, x + y * (1 - 2 * 1) = x + (0 - y) from fun x y => by omega] at hst
   refine ⟨by omega, by omega, by omega, by omega, by omega, by omega, by omega, ⟨m + 1, by omega, by omega, hst.symm⟩, by omega⟩
  ·have h2 : (m : Int).tmod 2 = 0 := by omega
   rw [h2, show ∀ x y : Int, x + y * (1 - 2 * 0) = x + y from fun x y => by omega] at hst
   refine ⟨by omega, by omega, by omega, by omega, by omega, by omega, ⟨m + 1, by omega, by omega, hst.symm⟩, by omega⟩
 ·rw [List.take_of_length_le (by omega)]
  exact ⟨rfl, rfl⟩
theorem T35ok : TabOk Tryz.prog G T35 := tabL_ok noCh_ok ⟨ctc28, trivial⟩
theorem fitS_cons {n : Nat} {r o S : List Int} {y : Int} {g : Bool} {m : Nat} (h : m < o.length) : fitS n r y g S (o.drop m) =
  (bif skG r g y (gR o m) then fitS n r y g S (o.drop (m + 1)) else bif ltb (crI n r y (gR o m)) 0 then (bif ltb 0 (S.length : Int) then false else fitS n r y g S (o.drop (m + 1)))
   else bif lastB S (crI n r y (gR o m)) then fitS n r y g S.dropLast (o.drop (m + 1)) else bif memB S (crI n r y (gR o m)) then false else fitS n r y g (S ++ [crI n r y (gR o m)]) (o.drop (m + 1))) := by
 have e : gR o (m : Int) = o[m] := by
  unfold gR; rw [Int.toNat_natCast, List.getElem?_eq_getElem h]; rfl
 rw [e, List.drop_eq_getElem_cons h]; rfl
theorem ctc35 : CtOk Tryz.prog G 35 e35c := by
 intro args r h hp
 unfold e35c at h
 split at h <;> cases h
 rename_i a n _ k m _ o p _ y g
 obtain ⟨rfl, rfl, rfl, hA, hz, ho⟩ := hp
 refine fan_caps2 (fnP_spec hcm hmx T35ok ok35 rfl (ob_o35c a k o y g) ?_)
 dsimp -failIfUnchanged -proj -eta -iota -zeta only
 have hl := okA_len hA
 have hrl := raysL_len a
 have d1 : ∀ x y : Int, (if y < x then y else x) = mnI x y := fun _ _ => rfl
 have d2 : ∀ x y : Int, (if y > x then y else x) = mxI x y := fun _ _ => rfl
 simp only [gR0, d1, d2, inR_i64, and_true, true_and, leb_iff, leb_no, ltb_iff, ltb_no, ltn_iff, len'_iff, iI, size_ints, List.length_drop, List.length_append, List.length_cons, List.length_nil, Nat.add_zero, Nat.zero_add, beq_iff_eq, beq_eq_false_iff_ne, ne_eq, forall_const, true_imp_iff, Bool.not_eq_true', Bool.not_eq_false', List.take_nil, List.take_zero]
 refine ⟨hA, ⟨0, rfl, by omega, by omega, by omega, rfl⟩, ?_⟩
 rintro ⟨i, c, q, l⟩ ⟨m, hi, hm, hq, hlq, hlm, hf⟩
 simp only at hi hq hlq hlm hf ⊢
 subst hi hq
 simp only [Int.toNat_natCast]
 refine ⟨fun hlt => ?_, fun hge => ?_⟩
 ·have hmo : m < o.length := by omega
  have hK := ho _ (List.getElem_mem hmo)
  have e : gR o (m : Int) = o[m] := by
   unfold gR; rw [Int.toNat_natCast, List.getElem?_eq_getElem hmo]; rfl
  rw [← e] at hK
  rw [fitS_cons hmo] at hf
  generalize gR o (m : Int) = K at *
  have htl : (c.take l).length = l := by rw [List.length_take]; omega
  rw [htl] at hf
  have NX : fitS a.length (raysL a) y g (c.take l) (o.drop (m + 1)) = fitL a.length (raysL a) o y g → ((-9223372036854775808 ≤ (m : Int) + 1 ∧ (m : Int) + 1 ≤ 9223372036854775807) ∧
    (∃ m_1 : Nat, (m : Int) + 1 = m_1 ∧ m_1 ≤ o.length ∧ True ∧ l ≤ c.length ∧ l ≤ m_1 ∧ fitS a.length (raysL a) y g (c.take l) (o.drop m_1) = fitL a.length (raysL a) o y g) ∧ o.length - ((m : Int) + 1).toNat < o.length - m) :=
   fun h => ⟨by omega, ⟨m + 1, by omega, by omega, trivial, hlq, by omega, h⟩, by omega⟩
  have SK : skG (raysL a) g y K = true → fitS a.length (raysL a) y g (c.take l) (o.drop (m + 1)) = fitL a.length (raysL a) o y g := fun h => by
   rw [h, cond_true] at hf; exact hf
  refine ⟨by omega, by omega, by omega, by omega, by omega, by omega, by omega, by omega, by omega, by omega, by omega, by omega, by omega, by omega, by omega, by omega, by omega, by omega, by omega, by omega, by omega, by omega, ⟨?_, ?_⟩, ?_⟩
  ·intro hg
   subst hg
   exact ⟨fun h1 => NX (SK (by show (ltb _ _ || _) = true; rw [ltb_iff.2 h1]; rfl)), fun h1 => ⟨fun h2 => NX (SK (by show (_ || leb _ _) = true; rw [leb_iff.2 h2, Bool.or_true])), fun h2 => ⟨fun h => (by cases h), fun _ => (by show (ltb _ _ || leb _ _) = false; rw [ltb_no.2 h1, leb_no.2 h2]; rfl)⟩⟩⟩
  ·intro hg
   subst hg
   exact ⟨fun _ => ⟨fun h1 => NX (SK (by show (leb _ _ || _) = true; rw [leb_iff.2 h1]; rfl)), fun h1 => ⟨fun h2 => NX (SK (by show (_ || ltb _ _) = true; rw [ltb_iff.2 h2, Bool.or_true])), fun h2 => (by show (leb _ _ || ltb _ _) = false; rw [leb_no.2 h1, ltb_no.2 h2]; rfl)⟩⟩, fun h => (by cases h)⟩
  intro hsk
  rw [hsk, cond_false] at hf
  refine ⟨⟨by omega, by omega, by omega, by omega, fun h => by rw [if_pos h], fun h => by rw [if_neg h]⟩, ?_⟩
  rintro ⟨v3⟩ hv3
  simp only at hv3 ⊢
  refine ⟨⟨by omega, by omega, by omega, by omega, by omega, fun h => ⟨by omega, by omega, by unfold crI; rw [if_pos h]⟩, fun h => by unfold crI; rw [if_neg h]; exact hv3⟩, ?_⟩
  rintro ⟨v⟩ hv
  simp only at hv ⊢
  rw [← hv] at hf
  rw [← hv]
  have gT : ∀ t : Nat, t < l → gR (c.take l) (t : Int) = c.getD t 0 := fun t ht => by
   unfold gR
   rw [Int.toNat_natCast, List.getElem?_take_of_lt ht, List.getD_eq_getElem?_getD]
  have LB : 0 < l → (lastB (c.take l) v = true ↔ c.getD ((l : Int) - 1).toNat 0 = v) := fun h => by
   unfold lastB
   rw [htl, ltb_iff.2 (by omega), Bool.true_and, beq_iff_eq]
   have := gT (l - 1) (by omega)
   rw [show (((l - 1 : Nat) : Int)) = (l : Int) - 1 by omega] at this
   rw [this, show ((l : Int) - 1).toNat = l - 1 by omega]
  refine ⟨fun h1 => ⟨fun h2 => ?_, fun h2 => NX ?_⟩, fun h1 => ⟨⟨fun h2 => ⟨by omega, by omega, by omega, by omega, fun h3 => ⟨by omega, by omega, by omega, by omega, ⟨m + 1, by omega, by omega, trivial, by omega, by omega, ?_⟩, by omega⟩, fun h3 => ?_⟩, fun h2 => ?_⟩, fun h2 => ⟨⟨0, rfl, by omega, fun j hj => by omega⟩, ?_⟩⟩⟩
  ·rw [ltb_iff.2 h1, cond_true, ltb_iff.2 h2, cond_true] at hf; exact hf
  ·rw [ltb_iff.2 h1, cond_true, ltb_no.2 h2, cond_false] at hf; exact hf
  ·rw [ltb_no.2 h1, cond_false, (LB (by omega)).2 h3, cond_true] at hf
   have : (c.take l).dropLast = c.take ((l : Int) - 1).toNat := by
    rw [List.dropLast_eq_take, htl, List.take_take]; congr 1; omega
   rw [this] at hf; exact hf
  ·rw [← Bool.not_eq_true, LB (by omega)]; exact h3
  ·unfold lastB
   rw [htl, ltb_no.2 (by omega)]; rfl
  ·rw [ltb_no.2 h1, cond_false, h2, cond_false] at hf
   rintro ⟨x⟩ ⟨t, hx, ht, hj⟩
   simp only at hx ⊢
   subst hx
   simp only [Int.toNat_natCast]
   refine ⟨fun h3 => ⟨by omega, by omega, by omega, fun h4 => ?_, fun h4 => ⟨by omega, ⟨t + 1, by omega, by omega, fun j hj' => ?_⟩, by omega⟩⟩, fun h3 => ⟨by omega, by omega, ⟨m + 1, by omega, by omega, ?_, by omega, by omega, ?_⟩, by omega⟩⟩
   ·have hm : v ∈ c.take l := by
     rw [← h4, ← gT t (by omega)]
     unfold gR
     rw [Int.toNat_natCast, List.getElem?_eq_getElem (by omega : t < (c.take l).length)]
     exact List.getElem_mem _
    rw [memB_true.2 hm, cond_true] at hf; exact hf
   ·by_cases hj2 : j < t
    ·exact hj j hj2
    ·rw [show j = t by omega, gT t (by omega)]; exact h4
   ·rw [htl]; omega
   ·have hm : v ∉ c.take l := fun hm => by
     obtain ⟨j, hj1, hj2⟩ := List.getElem_of_mem hm
     have := hj j (by omega)
     unfold gR at this
     rw [Int.toNat_natCast, List.getElem?_eq_getElem hj1] at this
     exact this hj2
    rw [memB_no.2 hm, cond_false] at hf
    rw [List.take_left' (by rw [List.length_append, htl]; rfl)]
    exact hf
 ·rw [List.drop_eq_nil_of_le (by omega)] at hf
  exact hf
theorem T14ok : TabOk Tryz.prog G T14 := tabL_ok noCh_ok ⟨ctc28, ctc35, trivial⟩
theorem rkA_step {o p : List Int} {m : Nat} (h : m < o.length) : rkA (p.set (gR o m).toNat (m : Int)) ((m + 1 : Nat) : Int) (o.drop (m + 1)) = rkA p m (o.drop m) := by
 have e : gR o (m : Int) = o[m] := by
  unfold gR; rw [Int.toNat_natCast, List.getElem?_eq_getElem h]; rfl
 rw [e, List.drop_eq_getElem_cons h]
 show _ = rkA (p.set o[m].toNat m) ((m : Int) + 1) _
 rfl
theorem chk_bad {a k o : List Int} {m : Nat} (h : m < a.length) (hb : badF a.length (raysL a) o m = true) : chkE a k o = 12 := by
 unfold chkE
 rw [if_pos (anyN_iff.2 ⟨m, h, hb⟩)]
theorem chk_wr {a k o : List Int} {m : Nat} (hf : ∀ j : Nat, j < a.length → badF a.length (raysL a) o j = false) (h : m < a.length) (hb : wrC1 a.length k (posL o) m = true) : chkE a k o = 13 := by
 unfold chkE
 rw [anyN_noI.2 hf, if_neg (by decide), if_pos (anyN_iff.2 ⟨m, h, hb⟩)]
theorem chk_ok0 {a k o : List Int} (hf : ∀ j : Nat, j < a.length → badF a.length (raysL a) o j = false) (hw : ∀ j : Nat, j < a.length → wrC1 a.length k (posL o) j = false) : chkE a k o = 0 := by
 unfold chkE
 rw [anyN_noI.2 hf, if_neg (by decide), anyN_noI.2 hw, if_neg (by decide)]
theorem posL_len (o : List Int) : (posL o).length = o.length := by
 unfold posL
 rw [rkF_len, List.length_replicate]
theorem ctc14 : CtOk Tryz.prog G 14 e14c := by
 intro args r h hp
 unfold e14c at h
 split at h <;> cases h
 rename_i a n _ k m _ o p _
 obtain ⟨rfl, rfl, rfl, hA, hk, hpm⟩ := hp
 refine fan_caps2 (fnP_spec hcm hmx T14ok ok14 rfl (ob_o14c a k o) ?_)
 dsimp -failIfUnchanged -proj -eta -iota -zeta only
 have hl := okA_len hA
 have hrl := raysL_len a
 have hol : o.length = a.length := perm_len hpm
 have hmem : ∀ x ∈ o, 0 ≤ x ∧ x < a.length := fun x hx => idO_mem.1 (hpm.mem_iff.1 hx)
 have hpl := posL_len o
 simp only [gR0, inR_i64, and_true, true_and, leb_iff, leb_no, ltb_iff, ltb_no, ltn_iff, len'_iff, iI, size_ints, List.length_drop, List.length_replicate, List.length_set, Nat.add_zero, Nat.zero_add, Int.toNat_natCast, ne_eq, forall_const, true_imp_iff, imp_self]
 refine ⟨hA, ⟨0, rfl, by omega, fun j hj => by omega⟩, ?_⟩
 rintro ⟨i⟩ ⟨m, hi, hm, hf⟩
 simp only at hi ⊢
 subst hi
 simp only [Int.toNat_natCast]
 refine ⟨fun hlt => ?_, fun hge => ?_⟩
 ·have hb : ∀ j : Nat, badF a.length (raysL a) o j = (!fitL a.length (raysL a) o (gR (raysL a) j) true || !fitL a.length (raysL a) o (gR (raysL a) j) false) := fun _ => rfl
  have hbm := hb m
  generalize fitL a.length (raysL a) o (gR (raysL a) m) true = b1 at *
  generalize fitL a.length (raysL a) o (gR (raysL a) m) false = b2 at *
  have e1 : (bif !b1 then true else !b2) = badF a.length (raysL a) o m := by rw [hbm]; cases b1 <;> cases b2 <;> rfl
  have e2 : (bif !b1 then true else !!b1 && true) = true := by cases b1 <;> rfl
  rw [e1]
  refine ⟨by omega, by omega, by omega, by omega, ⟨hA, by omega, hmem⟩, fun _ => by omega, fun _ => by omega, fun _ => by omega, fun _ => by omega, fun _ => ⟨hA, by omega, hmem⟩, e2, fun h => (chk_bad (by omega) h).symm, fun h => ⟨by omega, ⟨m + 1, by omega, by omega, fun j hj => ?_⟩, by omega⟩⟩
  by_cases hj' : j < m
  ·exact hf j hj'
  ·rw [show j = m by omega]; exact h
 ·have hf : ∀ j : Nat, j < a.length → badF a.length (raysL a) o j = false := fun j hj => hf j (by omega)
  refine ⟨by omega, by omega, ⟨0, rfl, by omega, by unfold posL; rw [hol]; rfl⟩, ?_⟩
  rintro ⟨i, p⟩ ⟨q, hi, hq, hpl2, hrk⟩
  simp only at hi hpl2 hrk ⊢
  subst hi
  simp only [Int.toNat_natCast]
  refine ⟨fun hlt => ?_, fun hge2 => ?_⟩
  ·have hqo : q < o.length := by omega
   have hK := hmem _ (List.getElem_mem hqo)
   have e : gR o (q : Int) = o[q] := by
    unfold gR; rw [Int.toNat_natCast, List.getElem?_eq_getElem hqo]; rfl
   rw [← e] at hK
   have hst := rkA_step (p := p) hqo
   generalize gR o (q : Int) = K at *
   refine ⟨by omega, by omega, by omega, by omega, by omega, by omega, by omega, by omega, ⟨q + 1, by omega, by omega, hpl2, hst.trans hrk⟩, by omega⟩
  ·have hqe : q = o.length := by omega
   subst hqe
   rw [List.drop_length] at hrk
   have hp : p = posL o := hrk
   subst hp
   refine ⟨⟨0, rfl, by omega, fun j hj => by omega⟩, ?_⟩
   rintro ⟨i⟩ ⟨m, hi, hm, hw⟩
   simp only at hi ⊢
   subst hi
   simp only [Int.toNat_natCast]
   have hbf := fun h : m < a.length => bfI_rng (n := a.length) (c := m) (by omega) (by omega)
   have hod : m < a.length → 0 ≤ odI a.length m ∧ odI a.length m < a.length := fun h => by have := hbf h; unfold odI; split <;> omega
   have hev : m < a.length → 0 ≤ evI a.length m ∧ evI a.length m < a.length := fun h => by have := hbf h; unfold evI; split <;> omega
   have hw1 : wrC1 a.length k (posL o) m = ((gR k m == 2 && ltb (gR (posL o) (odI a.length m)) (gR (posL o) (evI a.length m))) || (gR k m == 1 && ltb (gR (posL o) (evI a.length m)) (gR (posL o) (odI a.length m)))) := rfl
   have f1 : (((m : Int).tmod 2 == 0) = true → ((m : Int) + a.length - 1).tmod a.length = odI a.length m ∧ (m : Int) = evI a.length m) := fun h => by
    have h := beq_iff_eq.1 h
    unfold odI evI
    rw [if_pos h, if_pos h]; exact ⟨rfl, rfl⟩
   have f2 : (((m : Int).tmod 2 == 0) = false → (m : Int) = odI a.length m ∧ ((m : Int) + a.length - 1).tmod a.length = evI a.length m) := fun h => by
    have h := beq_eq_false_iff_ne.1 h
    unfold odI evI
    rw [if_neg h, if_neg h]; exact ⟨rfl, rfl⟩
   simp only [bAnd]
   generalize hX : (gR k m == 2 && ltb (gR (posL o) (odI a.length m)) (gR (posL o) (evI a.length m))) = X at *
   generalize (gR k m == 2) = Y at *
   generalize (gR k m == 1) = Z at *
   generalize ltb (gR (posL o) (evI a.length m)) (gR (posL o) (odI a.length m)) = W at *
   refine ⟨fun hlt => ⟨by omega, by omega, by rw [beq_false_of_ne (by omega : (a.length : Int) ≠ 0)]; rfl, ⟨f1, f2⟩, by omega, by omega, by omega, by omega, fun _ => by omega, fun _ => by omega, fun _ => by omega, fun _ => by omega, fun _ => by omega, fun _ => by omega, fun _ => by omega, fun _ => by omega, by cases Y <;> rfl, fun _ => by omega, fun _ => by omega, fun _ => by omega, fun _ => by omega, fun _ => by omega, fun _ => by omega, fun _ => by omega, fun _ => by omega, fun _ => by omega, fun _ => by omega, fun _ => by omega, fun _ => by omega, ?_⟩, fun hge3 => ?_⟩
   ·have e3 : (bif X then true else Z && W) = wrC1 a.length k (posL o) m := by rw [hw1]; cases X <;> rfl
    rw [e3]
    refine ⟨by cases X <;> simp, by cases X <;> cases Z <;> simp, by cases X <;> rfl, fun h => (chk_wr hf (by omega) h).symm, fun h => ⟨by omega, ⟨m + 1, by omega, by omega, fun j hj => ?_⟩, by omega⟩⟩
    by_cases hj' : j < m
    ·exact hw j hj'
    ·rw [show j = m by omega]; exact h
   ·exact (chk_ok0 hf fun j hj => hw j (by omega)).symm
/-! ### Orders as plain data -/
theorem idN_snoc (m : Nat) : idN (m + 1) = idN m ++ [(m : Int)] := by
 unfold idN
 rw [List.range_succ, List.map_append]; rfl
theorem idN_len (n : Nat) : (idN n).length = n := by unfold idN; rw [List.length_map, List.length_range]
theorem pkX_ok {x : List Int} (hx : ∀ y ∈ x, 0 ≤ y ∧ y < 256) {i : Nat} {n : Nat} (hn : 0 < n) : 0 ≤ pkX x i n ∧ pkX x i n < n := by
 unfold pkX
 split
 ·rename_i h
  have hi : i < x.length := by omega
  have := hx _ (List.getElem_mem hi)
  have e : gR x (i : Int) = x[i] := by
   unfold gR; rw [Int.toNat_natCast, List.getElem?_eq_getElem hi]; rfl
  rw [e, Int.tmod_eq_emod_of_nonneg this.1]
  exact ⟨Int.emod_nonneg _ (by omega), Int.emod_lt_of_pos _ (by omega)⟩
 ·omega
theorem remL_len {l : List Int} {k : Int} (h0 : 0 ≤ k) (h1 : k < l.length) : (remL l k).length = l.length - 1 := by
 unfold remL
 rw [List.length_append, List.length_take, List.length_drop]; omega
theorem ctc25 : CtOk Tryz.prog G 25 e25c := by
 intro args r h hp
 unfold e25c at h
 split at h <;> cases h
 rename_i x p _ n
 obtain ⟨rfl, hx, hn0, hn1⟩ := hp
 refine (fnP_spec hcm hmx T0ok ok25 rfl (ob_o25c x n) ?_ : SpecP Tryz.prog G 25 [immN .u8 x, .int .i64 n] _ []).args fun w F xs h => by
  cases h with
  | cons _ _ _ _ h1 h2 => exact .cons _ _ _ _ h1.caps h2
 simp only [gR0, inR_i64, and_true, true_and, leb_iff, leb_no, ltb_iff, ltb_no, ltn_iff, len'_iff, iI, size_ints, List.length_drop, List.length_append, List.length_cons, List.length_nil, Nat.add_zero, Nat.zero_add, ne_eq, beq_iff_eq, beq_eq_false_iff_ne, forall_const, true_imp_iff]
 refine ⟨⟨0, rfl, by omega, rfl⟩, ?_⟩
 rintro ⟨i, l⟩ ⟨m, hi, hm, hl⟩
 simp only at hi hl ⊢
 subst hi hl
 rw [idN_len]
 refine ⟨fun hlt => ⟨by omega, by omega, ⟨m + 1, by omega, by omega, (idN_snoc m).symm⟩, by omega⟩, fun hge => ?_⟩
 have hmn : m = n.toNat := by omega
 subst hmn
 refine ⟨⟨0, rfl, by omega, by omega, rfl, rfl⟩, ?_⟩
 rintro ⟨i, l, p⟩ ⟨m, hi, hm, hl, hpl, ho⟩
 simp only at hi hl hpl ho ⊢
 subst hi
 simp only [Int.toNat_natCast]
 refine ⟨fun hlt => ?_, fun hge => ?_⟩
 ·have hf : n.toNat - m = (n.toNat - (m + 1)) + 1 := by omega
  have hk := pkX_ok hx (i := m) (n := l.length) (by omega)
  rw [hf] at ho
  rw [oxR] at ho
  have hrl := remL_len hk.1 hk.2
  have hg : (m : Int) < x.length → 0 ≤ gR x m ∧ gR x m < 256 := fun h => by
   have hi : m < x.length := by omega
   have e : gR x (m : Int) = x[m] := by
    unfold gR; rw [Int.toNat_natCast, List.getElem?_eq_getElem hi]; rfl
   rw [e]; exact hx _ (List.getElem_mem hi)
  refine ⟨⟨fun h => ⟨by omega, by omega, by omega, by omega, by have := hg h; omega, by rw [beq_false_of_ne (by omega : (l.length : Int) ≠ 0)]; rfl, by unfold pkX; rw [if_pos h]⟩, fun h => by unfold pkX; rw [if_neg (by omega)]⟩, ?_⟩
  rintro ⟨v⟩ hv
  simp only at hv ⊢
  rw [← hv] at ho hk hrl ⊢
  have htl : (List.take v.toNat l).length = v.toNat := by rw [List.length_take]; omega
  have hrm : remL l v = l.take v.toNat ++ l.drop (v + 1).toNat := rfl
  have em : ((m + 1 : Nat) : Int) = (m : Int) + 1 := by omega
  rw [htl]
  rw [hrm] at ho
  refine ⟨by omega, by omega, by omega, by omega, by omega, fun h => ⟨by omega, by omega, by omega, by omega, by omega, by omega, by omega, by omega, by omega, ⟨m + 1, by omega, by omega, by omega, by omega, ?_⟩, by omega⟩, fun h => ⟨by omega, by omega, by omega, by omega, by omega, by omega, rfl, by omega, by omega, by omega, rfl, ⟨m + 1, by omega, by omega, by omega, by omega, ?_⟩, by omega⟩⟩
  ·rw [List.drop_eq_nil_of_le (by omega), List.append_nil] at ho
   rw [List.append_assoc, em]; exact ho
  ·rw [List.append_assoc, em]; exact ho
 ·have : m = n.toNat := by omega
  subst this
  rw [Nat.sub_self] at ho
  simp only [oxR, List.append_nil] at ho
  rw [ho]
  exact ⟨rfl, rfl⟩
end Go.Proofs.YthiammkiobbclaaGreatDoor.X
