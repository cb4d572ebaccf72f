/-
 Sets that are moved: the contracts.
-/
import Derived.Test.YtmnaghfndigfkaaDoorCVZ
set_option maxRecDepth 1000000
set_option linter.unusedVariables false
set_option linter.unusedSimpArgs false
namespace Go.Proofs.YtmnaghfndigfkaaDoor.X
open Go Go.Ab

theorem mvL_q {t a b : Int} (h : isT t) {l : List Cl} (hq : ∀ x ∈ l, 0 ≤ x.2.2 ∧ x.2.2 ≤ 3) : ∀ x ∈ mvL t a b l, 0 ≤ x.2.2 ∧ x.2.2 ≤ 3 := fun x hx => by
 obtain ⟨c, hc, rfl⟩ := List.mem_map.1 hx
 exact (mvQ_sd h (hq c hc).1 (hq c hc).2).1
theorem mvL_len (t a b : Int) (l : List Cl) : (mvL t a b l).length = l.length := List.length_map ..
theorem mvL_snoc (t a b : Int) (l : List Cl) (c : Cl) : mvL t a b (l ++ [c]) = mvL t a b l ++ [mvC t a b c] := by unfold mvL; rw [List.map_append]; rfl
theorem out_snoc (t a b : Int) (l : List Cl) (x y q : Int) : mvOut t a b (l ++ [(x, y, q)]) = (mvOut t a b l && mvB t a b x y q) := by
 unfold mvOut
 rw [mvL_snoc, List.all_append]
 show (_ && (mvB t a b x y q && true)) = _
 rw [Bool.and_true]
theorem out_false {t a b : Int} {l : List Cl} {n : Nat} (g : n < l.length) (h : mvB t a b (kX l n) (kY l n) (kQ l n) = false) : mvOut t a b l = false := by
 cases hh : mvOut t a b l with
 | false => rfl
 | true =>
  unfold mvOut at hh
  have := List.all_eq_true.1 hh (mvC t a b (kX l n, kY l n, kQ l n)) (List.mem_map.2 ⟨_, by rw [← kAt g]; exact List.getElem_mem g, rfl⟩)
  exact absurd this (by rw [show vldC (mvC t a b (kX l n, kY l n, kQ l n)) = mvB t a b (kX l n) (kY l n) (kQ l n) from rfl, h]; decide)
theorem TV38ok (d : List Cl) : TabOk Tryd.prog G (TV38 d) := tabL_ok (ch94ok 450 d) ⟨ct55, ct61, ct93, trivial⟩
theorem mvR_no {t a b : Int} {l : List Cl} (h : mvE t a b l ≠ 0) : mvR t a b l = [] := by
 unfold mvR
 rw [show (mvE t a b l == 0) = false by simpa using h]; rfl
theorem ct38 : CtOk Tryd.prog G 38 e38 := by
 intro args r h hp
 unfold e38 at h
 split at h <;> cases h
 rename_i t a b _ _ _
 obtain ⟨ht, ⟨h1, h2, hz⟩, hq0⟩ := hp
 generalize unK _ = l at *
 subst h1 h2
 refine caps2 (fnP_spec hcm hmx (TV38ok (mvL t a b l)) ok38 rfl (ob_o38 t a b l) ?_ : SpecP Tryd.prog G 38 [_, cls l] _ [])
 simp only [unK_flat, ltb_iff, ltb_no, leb_iff, leb_no, len'_iff, ltn_iff, inR_i64, and_true, true_and, size_vals, iI, flatK_len, Int.toNat_natCast]
 refine ⟨ht, fun hV => ?_, fun hV => ?_⟩
 ·have e : mvE t a b l = 1 := by
   cases hv : mvV t a b with
   | true => rw [hv] at hV; cases hV
   | false => unfold mvE; rw [hv]; rfl
  rw [mvR_no (by rw [e]; decide), e]; exact ⟨rfl, rfl, rfl, rfl⟩
 have hv : mvV t a b = true := by
  cases hv : mvV t a b with
  | true => rfl
  | false => rw [hv] at hV; cases hV
 have hm := V_mvO hv ht.1
 refine ⟨⟨okL_flat hz, hq0⟩, fun hb => ?_, fun hb => ?_⟩
 ·have e : mvE t a b l = chkI l := by
   unfold mvE
   rw [hv, cond_true]; exact chkX hb _ _
  have hne : chkI l ≠ 0 := by simpa using hb
  rw [mvR_no (by rw [e]; exact hne), e]; exact ⟨rfl, rfl, rfl, rfl⟩
 have h0 : chkI l = 0 := by simpa using hb
 obtain ⟨hl, hvl, hs⟩ := chk0 h0
 have eE : mvE t a b l = bI (mvOut t a b l) 0 3 := by
  unfold mvE
  rw [hv, cond_true]; exact chkY h0 _ _
 have hq3 : ∀ x ∈ l, 0 ≤ x.2.2 ∧ x.2.2 ≤ 3 := fun x hx => ⟨(hq0 x hx).1, (vldC_iff.1 (hvl x hx)).2.2.2.2⟩
 refine ⟨by omega, by omega, ⟨List.replicate l.length (0, 0, 0), 0, rfl, by omega, zeroK _, List.length_replicate .., by simp [mvL], rfl⟩, ?_⟩
 rintro ⟨i, o⟩ ⟨R, n, i1, i2, i3, i4, i5, i6⟩
 simp only at i1 i3 ⊢
 subst i1 i3
 simp only [Int.toNat_natCast]
 refine ⟨fun hlt => ?_, fun hge => ?_⟩
 ·have g1 : n < l.length := by omega
  obtain ⟨a0, a1, a2⟩ := kget g1
  have hc : vldC (kX l n, kY l n, kQ l n) = true := by rw [← kAt g1]; exact hvl _ (List.getElem_mem g1)
  have hq := okQ_at hq0 g1
  refine ⟨by omega, by omega, by omega, a0, a1, a2, ⟨hm, hc, hq.1⟩, fun hB => ?_, fun hB => ?_⟩
  ·have hb : mvB t a b (kX l n) (kY l n) (kQ l n) = false := by
    cases hb : mvB t a b (kX l n) (kY l n) (kQ l n) with
    | false => rfl
    | true => rw [hb] at hB; cases hB
   have e3 : mvE t a b l = 3 := by rw [eE, out_false g1 hb]; rfl
   rw [mvR_no (by rw [e3]; decide), e3, hb]; exact ⟨rfl, rfl, rfl, rfl⟩
  ·have hb : mvB t a b (kX l n) (kY l n) (kQ l n) = true := by
    cases hb : mvB t a b (kX l n) (kY l n) (kQ l n) with
    | true => rfl
    | false => rw [hb] at hB; cases hB
   rw [hb]
   refine ⟨by omega, by omega, by rw [flatK_len]; omega, by omega, ⟨R.set n (mvC t a b (kX l n, kY l n, kQ l n)), n + 1, by omega, by omega, flatK_set R n (mvC t a b (kX l n, kY l n, kQ l n)) (by omega), by rw [List.length_set]; exact i4, ?_, ?_⟩, by omega⟩
   ·rw [take_at g1, mvL_snoc, ← i5, List.take_add_one, List.getElem?_set_self (by omega)]
    congr 1
    apply List.ext_getElem?
    intro j
    simp only [List.getElem?_take, List.getElem?_set]
    split
    ·rw [if_neg (by omega)]
    ·rfl
   ·rw [take_at g1, out_snoc, i6, hb]; rfl
 ·have e : n = l.length := by omega
  subst e
  have eR : R = mvL t a b l := by
   rw [List.take_length, ← i4, List.take_length] at i5
   exact i5
  subst eR
  rw [List.take_length] at i6
  have e0 : mvE t a b l = 0 := by rw [eE, i6]; rfl
  have eX : mvR t a b l = srtQ (mvL t a b l) := by unfold mvR; rw [e0]; rfl
  have hmq : okQ (mvL t a b l) := fun x hx => by have := mvL_q hm.1 hq3 x hx; omega
  rw [eX, srtQ_len, e0, mvL_len]
  exact ⟨⟨rfl, rfl, by omega, hmq⟩, rfl, rfl, rfl, rfl⟩
theorem TV40ok : TabOk Tryd.prog G TV40 := tabL_ok noCh_ok ⟨ct95, ct92, trivial⟩
theorem ct40 : CtOk Tryd.prog G 40 e40 := by
 intro args r h hp
 unfold e40 at h
 split at h <;> cases h
 rename_i t a b _ _ _
 obtain ⟨hm, ⟨h1, h2, hz⟩, hv, hl⟩ := hp
 generalize unK _ = l at *
 subst h1 h2
 refine caps2 (fnP_spec hcm hmx TV40ok ok40 rfl (ob_o40 t a b l) ?_ : SpecP Tryd.prog G 40 [_, cls l] _ [])
 simp only [unK_flat, ltb_iff, ltb_no, leb_iff, leb_no, len'_iff, ltn_iff, inR_i64, and_true, true_and, size_vals, iI, flatK_len, Int.toNat_natCast]
 refine ⟨⟨0, rfl, by omega, rfl, rfl⟩, ?_⟩
 rintro ⟨i, o, m⟩ ⟨n, i1, i2, i3, i4⟩
 simp only at i1 i3 i4 ⊢
 subst i1 i3 i4
 simp only [Int.toNat_natCast, unK_flat]
 refine ⟨fun hlt => ?_, fun hge => ?_⟩
 ·have g1 : n < l.length := by omega
  obtain ⟨a0, a1, a2⟩ := kget g1
  have hc := hv _ (List.getElem_mem g1)
  rw [kAt g1] at hc
  have hlen := ofL_len (mvL t a b (l.take n))
  rw [mvL_len, List.length_take] at hlen
  have e : ofL (mvL t a b (l.take (n + 1))) = addL (ofL (mvL t a b (l.take n))) (mvX' t a (kX l n) (kY l n), mvY' t b (kX l n) (kY l n), mvQ t (kQ l n)) := by
   rw [take_at g1, mvL_snoc, ofL_snoc]; rfl
  exact ⟨by omega, by omega, by omega, a0, a1, a2, ⟨hm, hc.1, hc.2⟩, okL_flat (by omega), by omega, ⟨n + 1, by omega, by omega, by rw [e], by rw [e]⟩, by omega⟩
 ·rw [List.take_of_length_le (by omega)]
  exact ⟨rfl, rfl⟩
end Go.Proofs.YtmnaghfndigfkaaDoor.X
