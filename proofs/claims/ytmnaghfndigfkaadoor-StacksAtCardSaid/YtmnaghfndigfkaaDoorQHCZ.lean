/-
 Stacks: the contracts of the functions that look at them.
-/
import Derived.Test.YtmnaghfndigfkaaDoorQOHAZ
import Derived.Test.YtmnaghfndigfkaaDoorQCAZ
set_option maxRecDepth 1000000
set_option linter.unusedVariables false
set_option linter.unusedSimpArgs false
namespace Go.Proofs.YtmnaghfndigfkaaDoor.X
open Go Go.Ab

theorem eqK_iff : ∀ {a b : List Int}, eqK a b = true ↔ a = b
 | [], [] => by simp [eqK]
 | [], _ :: _ => by simp [eqK]
 | _ :: _, [] => by simp [eqK]
 | x :: a, y :: b => by
  simp only [eqK, cond_eq_ite]
  by_cases h : x = y
  ·subst h; simp [eqK_iff (a := a) (b := b)]
  ·have : (x == y) = false := by simp [h]
   rw [this]; simp [h]
theorem eqK_no {a b : List Int} : eqK a b = false ↔ a ≠ b := by
 rw [ne_eq, ← eqK_iff]; cases eqK a b <;> simp
theorem eqT_iff : ∀ {a b : List Sk}, eqT a b = true ↔ a = b
 | [], [] => by simp [eqT]
 | [], _ :: _ => by simp [eqT]
 | _ :: _, [] => by simp [eqT]
 | x :: a, y :: b => by
  simp only [eqT, cond_eq_ite]
  by_cases h : (eqCl x.1 y.1 && eqK x.2 y.2) = true
  ·have h' := h
   rw [Bool.and_eq_true, eqCl_iff, eqK_iff] at h'
   have : x = y := Prod.ext h'.1 h'.2
   subst this
   rw [h]; simp [eqT_iff (a := a) (b := b)]
  ·rw [Bool.not_eq_true] at h
   rw [h]
   simp only [Bool.false_eq_true, if_false, List.cons.injEq, false_iff, not_and]
   intro e
   subst e
   have : (eqCl x.1 x.1 && eqK x.2 x.2) = true := by rw [eqCl_iff.2 rfl, eqK_iff.2 rfl]; rfl
   rw [this] at h; cases h
theorem eqT_no {a b : List Sk} : eqT a b = false ↔ a ≠ b := by
 rw [ne_eq, ← eqT_iff]; cases eqT a b <;> simp
theorem unT_flat : ∀ (l : List Sk), unT (flatT l) = l
 | [] => rfl
 | ((x, y, q), ks) :: l => by
  have ih := unT_flat l
  show ((x, y, q), ks) :: unT (flatT l) = _
  rw [ih]
theorem flatT_len (l : List Sk) : (flatT l).length = l.length * 4 := by
 induction l with
 | nil => rfl
 | cons s l ih =>
  show (skV s ++ flatT l).length = _
  rw [List.length_append, ih, List.length_cons]
  show 4 + _ = _
  omega
theorem skV_len (s : Sk) : (skV s).length = 4 := rfl
theorem flatT_app (a b : List Sk) : flatT (a ++ b) = flatT a ++ flatT b := by unfold flatT; rw [List.flatMap_append]
theorem tget {l : List Sk} {n : Nat} (h : n < l.length) : (List.drop (n * 4) (flatT l))[0]? = some (.int .i64 (tX l n)) ∧ (List.drop (n * 4) (flatT l))[1]? = some (.int .i64 (tY l n)) ∧ (List.drop (n * 4) (flatT l))[2]? = some (.int .u8 (tQ l n)) ∧ (List.drop (n * 4) (flatT l))[3]? = some (.imm (.ints .i64 (tK l n)) (tK l n).length none) := by
 unfold flatT tX tY tQ tK gT
 simp only [List.getElem?_drop, Int.toNat_natCast]
 rw [flatMap_row (k := 4) (by decide) skV_len, flatMap_row (k := 4) (by decide) skV_len, flatMap_row (k := 4) (by decide) skV_len, flatMap_row (k := 4) (by decide) skV_len]
 rw [show (n * 4 + 0) / 4 = n by omega, show (n * 4 + 1) / 4 = n by omega, show (n * 4 + 2) / 4 = n by omega, show (n * 4 + 3) / 4 = n by omega, show (n * 4 + 0) % 4 = 0 by omega, show (n * 4 + 1) % 4 = 1 by omega, show (n * 4 + 2) % 4 = 2 by omega, show (n * 4 + 3) % 4 = 3 by omega, List.getElem?_eq_getElem h]
 exact ⟨rfl, rfl, rfl, rfl⟩
theorem ptV_len (s : Sk) : (ptV s).length = 4 := rfl
theorem rget {l : List Sk} {n : Nat} (h : n < l.length) : (List.drop (n * 4) (flatR l))[0]? = some (.int .i8 (tX l n)) ∧ (List.drop (n * 4) (flatR l))[1]? = some (.int .i8 (tY l n)) ∧ (List.drop (n * 4) (flatR l))[2]? = some (.int .u8 (tQ l n)) ∧ (List.drop (n * 4) (flatR l))[3]? = some (pV l n) := by
 unfold flatR tX tY tQ pV tK gT
 simp only [List.getElem?_drop, Int.toNat_natCast]
 rw [flatMap_row (k := 4) (by decide) ptV_len, flatMap_row (k := 4) (by decide) ptV_len, flatMap_row (k := 4) (by decide) ptV_len, flatMap_row (k := 4) (by decide) ptV_len]
 rw [show (n * 4 + 0) / 4 = n by omega, show (n * 4 + 1) / 4 = n by omega, show (n * 4 + 2) / 4 = n by omega, show (n * 4 + 3) / 4 = n by omega, show (n * 4 + 0) % 4 = 0 by omega, show (n * 4 + 1) % 4 = 1 by omega, show (n * 4 + 2) % 4 = 2 by omega, show (n * 4 + 3) % 4 = 3 by omega, List.getElem?_eq_getElem h]
 exact ⟨rfl, rfl, rfl, rfl⟩
theorem tAt {l : List Sk} {n : Nat} (h : n < l.length) : l[n] = ((tX l n, tY l n, tQ l n), tK l n) := by
 unfold tX tY tQ tK gT
 rw [Int.toNat_natCast, List.getElem?_eq_getElem h]; rfl
theorem tdrop {l : List Sk} {n : Nat} (h : n < l.length) : l.drop n = ((tX l n, tY l n, tQ l n), tK l n) :: l.drop (n + 1) := by rw [← tAt h]; exact List.drop_eq_getElem_cons h
theorem ttake {l : List Sk} {n : Nat} (h : n < l.length) : l.take (n + 1) = l.take n ++ [((tX l n, tY l n, tQ l n), tK l n)] := by rw [← tAt h, List.take_add_one, List.getElem?_eq_getElem h]; rfl
theorem tmem {l : List Sk} {n : Nat} (h : n < l.length) : ((tX l n, tY l n, tQ l n), tK l n) ∈ l := by rw [← tAt h]; exact List.getElem_mem h
theorem okT_flat {l : List Sk} (h : l.length < 1000000) (hk : ∀ s ∈ l, smK s.2) : okT (flatT l) l.length := by
 unfold okT; rw [unT_flat]; exact ⟨rfl, rfl, h, hk⟩
theorem idrop {ks : List Int} {n : Nat} (h : n < ks.length) : ks.drop n = ks[n]?.getD 0 :: ks.drop (n + 1) := by
 rw [List.getElem?_eq_getElem h]; exact List.drop_eq_getElem_cons h
theorem itake {ks : List Int} {n : Nat} (h : n < ks.length) : ks.take (n + 1) = ks.take n ++ [ks[n]?.getD 0] := by
 rw [List.take_add_one, List.getElem?_eq_getElem h]; rfl
theorem getD0 {ks : List Int} {n : Nat} : (List.drop n ks).getD 0 0 = ks[n]?.getD 0 := by
 rw [List.getD_eq_getElem?_getD, List.getElem?_drop, Nat.add_zero]
theorem ct64 : CtOk Tryd.prog G 64 e64 := by
 intro args r h hp
 unfold e64 at h
 split at h <;> cases h
 exact fnP_spec hcm hmx T0ok ok64 rfl (ob_o64 _ _ _) ⟨rfl, rfl, rfl, trivial⟩
theorem ct65 : CtOk Tryd.prog G 65 e65 := by
 intro args r h hp
 unfold e65 at h
 split at h <;> cases h
 rename_i ks n _ c
 obtain ⟨rfl, hz⟩ := hp
 unfold smK at hz
 refine (fnP_spec hcm hmx T0ok ok65 rfl (ob_o65 ks c) ?_ : SpecP Tryd.prog G 65 [layV ks, _] _ []).caps
 simp only [ltb_iff, ltb_no, leb_iff, leb_no, len'_iff, ltn_iff, inR_i64, and_true, true_and, size_ints, iI, getD0, beq_iff_eq, beq_eq_false_iff_ne]
 refine ⟨⟨0, rfl, by omega, rfl⟩, ?_⟩
 rintro ⟨i⟩ ⟨n, hi, hn, he⟩
 simp only at hi he ⊢
 subst hi
 simp only [Int.toNat_natCast, List.length_drop]
 refine ⟨fun hlt => ?_, fun hge => ?_⟩
 ·have g : n < ks.length := by omega
  rw [idrop g] at he
  simp only [ixI, cond_eq_ite, beq_iff_eq] at he
  refine ⟨by omega, by omega, by omega, by omega, fun hc => ?_, fun hc => ⟨by omega, ⟨n + 1, by omega, by omega, ?_⟩, by omega⟩⟩
  ·rw [if_pos hc] at he; exact he
  ·rw [if_neg hc] at he
   exact he
 ·rw [List.drop_eq_nil_of_le (by omega)] at he
  exact he
theorem eqK_ob {a b : List Int} {n : Nat} (ha : n < a.length) (hb : n < b.length) : eqK (a.drop n) (b.drop n) = cond (a[n]?.getD 0 == b[n]?.getD 0) (eqK (a.drop (n + 1)) (b.drop (n + 1))) false := by
 rw [idrop ha, idrop hb]; rfl
theorem ct70 : CtOk Tryd.prog G 70 e70 := by
 intro args r h hp
 unfold e70 at h
 split at h <;> cases h
 rename_i a _ _ b _ _
 obtain ⟨rfl, rfl, hza, hzb⟩ := hp
 unfold smK at hza hzb
 refine (fnP_spec hcm hmx T0ok ok70 rfl (ob_o70 a b) ?_ : SpecP Tryd.prog G 70 [layV a, layV b] _ []).caps
 simp only [ltb_iff, ltb_no, leb_iff, leb_no, len'_iff, ltn_iff, inR_i64, and_true, true_and, size_ints, iI, getD0, bne_iff_ne, ne_eq, bne_eq_false_iff_eq, Int.natCast_inj]
 refine ⟨fun h => (eqK_no.2 fun e => h (by rw [e])).symm, fun hl => ⟨⟨0, rfl, by omega, rfl⟩, ?_⟩⟩
 rintro ⟨i⟩ ⟨n, hi, hn, he⟩
 simp only at hi he ⊢
 subst hi
 simp only [Int.toNat_natCast, List.length_drop]
 refine ⟨fun hlt => ?_, fun hge => ?_⟩
 ·have g1 : n < a.length := by omega
  have g2 : n < b.length := by omega
  rw [eqK_ob g1 g2] at he
  refine ⟨by omega, by omega, by omega, by omega, by omega, by omega, by omega, by omega, fun hc => ?_, fun hc => ⟨by omega, ⟨n + 1, by omega, by omega, ?_⟩, by omega⟩⟩
  ·rw [beq_false_of_ne hc] at he; exact he
  ·rw [hc, beq_self_eq_true] at he; exact he
 ·rw [List.drop_eq_nil_of_le (by omega), List.drop_eq_nil_of_le (by omega)] at he
  exact he
theorem ct67p : CtOk Tryd.prog G 67 e67p := by
 intro args r h hp
 unfold e67p at h
 split at h <;> cases h
 rename_i ks _ _
 obtain ⟨rfl, hz, h0⟩ := hp
 unfold smK at hz
 refine (fnP_spec hcm hmx T0ok ok67 rfl (ob_o67p ks) ?_ : SpecP Tryd.prog G 67 [layV ks] _ _).caps
 simp only [ltn_iff, len'_iff, size_ints, Nat.zero_add, List.nil_append, and_true, true_and]
 omega
theorem ct67f : CtOk Tryd.prog G 67 e67f := by
 intro args r h hp
 unfold e67f at h
 split at h <;> cases h
 rename_i ks _ _
 obtain ⟨rfl, hz⟩ := hp
 unfold smK at hz
 refine (fnP_spec hcm hmx T0ok ok67 rfl (ob_o67f ks) ?_ : SpecP Tryd.prog G 67 [layV ks] _ []).caps
 simp only [ltn_iff, len'_iff, size_ints, Nat.zero_add, List.nil_append, and_true, true_and]
 omega
theorem ct66f : CtOk Tryd.prog G 66 e66f := by
 intro args r h hp
 unfold e66f at h
 split at h <;> cases h
 rename_i ks _ _
 obtain ⟨rfl, hz⟩ := hp
 refine (fnP_spec hcm hmx T0ok ok66 rfl (ob_o66f ks) ?_ : SpecP Tryd.prog G 66 [layV ks] _ []).caps
 simp
theorem sp66d (ks : List Int) : SpecD Tryd.prog G (.fn 66 [] []) [.full 24704 ks.length] [(24704, .blk (bkI ks none))] (.fullc 24704 ks.length ks.length) [] [] :=
 fnD_spec hcm hmx T0ok ok66 rfl (ob_d_66 ks) (by simp)
theorem TH16ok : TabOk Tryd.prog G TH16 := tabL_ok noCh_ok ⟨ct65, trivial⟩
theorem okT_of {a : List AV} {n : Nat} (h : okT a n) : ∃ l, a = flatT l ∧ n = l.length ∧ unT a = l ∧ l.length < 1000000 ∧ ∀ s ∈ l, smK s.2 := ⟨unT a, h.1, h.2.1, rfl, h.2.2⟩
theorem ct16 : CtOk Tryd.prog G 16 e16 := by
 intro args r h hp
 unfold e16 at h
 split at h <;> cases h
 rename_i a n _ c
 obtain ⟨l, rfl, rfl, e, hz, hk⟩ := okT_of hp
 rw [e]
 refine (fnP_spec hcm hmx TH16ok ok16 rfl (ob_o16 l c) ?_ : SpecP Tryd.prog G 16 [lsk l, _] _ []).caps
 simp only [ltb_iff, ltb_no, leb_iff, leb_no, len'_iff, ltn_iff, inR_i64, and_true, true_and, size_vals, iI]
 refine ⟨⟨0, rfl, by omega, rfl⟩, ?_⟩
 rintro ⟨i⟩ ⟨n, hi, hn, he⟩
 simp only at hi he ⊢
 subst hi
 simp only [Int.toNat_natCast]
 refine ⟨fun hlt => ?_, fun hge => ?_⟩
 ·have g : n < l.length := by omega
  obtain ⟨a0, a1, a2, a3⟩ := tget g
  have hs := hk _ (tmem g)
  rw [tdrop g] at he
  simp only [fdS, cond_eq_ite, leb_iff] at he
  refine ⟨by omega, by omega, by rw [flatT_len]; omega, a0, a1, a2, a3, hs, fun hc => ?_, fun hc => ⟨by omega, ⟨n + 1, by omega, by omega, ?_⟩, by omega⟩⟩
  ·rw [if_pos hc] at he; rw [← he]; exact ⟨rfl, rfl, rfl, rfl, rfl⟩
  ·rw [if_neg (by omega)] at he; exact he
 ·rw [List.drop_eq_nil_of_le (by omega)] at he
  rw [← he]; exact ⟨rfl, rfl, rfl, rfl, rfl⟩
theorem hgt_app : ∀ (a b : List Sk), hgt (a ++ b) = Nat.max (hgt a) (hgt b)
 | [], b => by show hgt b = Nat.max 0 _; rw [show Nat.max 0 (hgt b) = max 0 (hgt b) from rfl]; omega
 | s :: a, b => by
  show Nat.max s.2.length (hgt (a ++ b)) = Nat.max (Nat.max s.2.length (hgt a)) (hgt b)
  rw [hgt_app a b]
  show max _ (max _ _) = max (max _ _) _
  omega
theorem ct17 : CtOk Tryd.prog G 17 e17 := by
 intro args r h hp
 unfold e17 at h
 split at h <;> cases h
 rename_i a n _
 obtain ⟨l, rfl, rfl, e, hz, hk⟩ := okT_of hp
 rw [e]
 refine (fnP_spec hcm hmx T0ok ok17 rfl (ob_o17 l) ?_ : SpecP Tryd.prog G 17 [lsk l] _ []).caps
 simp only [ltb_iff, ltb_no, leb_iff, leb_no, len'_iff, ltn_iff, inR_i64, and_true, true_and, size_vals, iI]
 refine ⟨⟨0, rfl, by omega, rfl⟩, ?_⟩
 rintro ⟨i, m⟩ ⟨n, hi, hn, he⟩
 simp only at hi he ⊢
 subst hi he
 simp only [Int.toNat_natCast]
 refine ⟨fun hlt => ?_, fun hge => ?_⟩
 ·have g : n < l.length := by omega
  obtain ⟨a0, a1, a2, a3⟩ := tget g
  refine ⟨by omega, by omega, by rw [flatT_len]; omega, a0, a1, a2, a3, by omega, ⟨n + 1, by omega, by omega, ?_⟩, by omega⟩
  rw [ttake g, hgt_app]
  show _ = ((max (hgt (l.take n)) (max (tK l n).length 0) : Nat) : Int)
  split <;> omega
 ·rw [List.take_of_length_le (by omega)]
theorem sp18p (l : List Sk) (c : Cl) (hz : l.length < 1000000) (hk : ∀ s ∈ l, smK s.2) (h0 : 0 < (atL l c).length) (hT : TabOk Tryd.prog G TH18) : SpecP Tryd.prog G 18 [lsk l, clV c] (.fullc 0 (atL l c).length (atL l c).length) [bkI (atL l c) none] := by
 obtain ⟨x, y, q⟩ := c
 refine fnP_spec hcm hmx hT ok18 rfl (ob_o18p l x y q) ?_
 simp only [ltb_iff, ltb_no, leb_iff, leb_no, len'_iff, ltn_iff, inR_i64, and_true, true_and, size_vals, iI]
 refine ⟨⟨0, rfl, by omega, rfl⟩, ?_⟩
 rintro ⟨i⟩ ⟨n, hi, hn, he⟩
 simp only at hi he ⊢
 subst hi
 simp only [Int.toNat_natCast]
 refine ⟨fun hlt => ?_, fun hge => ?_⟩
 ·have g : n < l.length := by omega
  obtain ⟨a0, a1, a2, a3⟩ := tget g
  have hs := hk _ (tmem g)
  rw [tdrop g] at he
  simp only [atL, cond_eq_ite] at he
  refine ⟨by omega, by omega, by rw [flatT_len]; omega, a0, a1, a2, a3, fun hc => ?_, fun hc => ⟨by omega, ⟨n + 1, by omega, by omega, ?_⟩, by omega⟩⟩
  ·have hc' : eqCl (tX l n, tY l n, tQ l n) (x, y, q) = true := hc
   rw [if_pos hc'] at he
   rw [← he] at h0 ⊢
   simp [hs, h0]
  ·have hc' : eqCl (tX l n, tY l n, tQ l n) (x, y, q) = false := hc
   rw [hc', if_neg (by simp)] at he; exact he
 ·rw [List.drop_eq_nil_of_le (by omega)] at he
  rw [← he] at h0; simp [atL] at h0
theorem ch18ok : ChOk Tryd.prog G ch18 := by
 intro h cv args r hr hp
 unfold ch18 at hr
 split at hr
 ·rw [cond_eq_ite] at hr
  split at hr
  ·rename_i hc
   simp only [Bool.and_eq_true] at hc
   cases Nat.eq_of_beq_eq_true hc.1
   cases Nat.eq_of_beq_eq_true hc.2
   cases hr
   obtain ⟨rfl, rfl⟩ := hp
   exact sp66d _
  ·cases hr
 ·cases hr
theorem TH18ok : TabOk Tryd.prog G TH18 := tabL_ok ch18ok ⟨ct67p, trivial⟩
theorem ct18p : CtOk Tryd.prog G 18 e18p := by
 intro args r h hp
 unfold e18p at h
 split at h <;> cases h
 rename_i a n _ x y q
 obtain ⟨hp, h0⟩ := hp
 obtain ⟨l, rfl, rfl, e, hz, hk⟩ := okT_of hp
 rw [e] at h0 ⊢
 exact (sp18p l (x, y, q) hz hk h0 TH18ok).caps
theorem TH18fok : TabOk Tryd.prog G TH18f := tabL_ok noCh_ok ⟨ct67f, ct66f, trivial⟩
theorem ct18f : CtOk Tryd.prog G 18 e18f := by
 intro args r h hp
 unfold e18f at h
 split at h <;> cases h
 rename_i a n _ x y q
 obtain ⟨l, rfl, rfl, e, hz, hk⟩ := okT_of hp
 rw [e]
 refine (fnP_spec hcm hmx TH18fok ok18 rfl (ob_o18f l x y q) ?_ : SpecP Tryd.prog G 18 [lsk l, .agg [_, _, _]] _ []).caps
 simp only [ltb_iff, ltb_no, leb_iff, leb_no, len'_iff, ltn_iff, inR_i64, and_true, true_and, size_vals, iI]
 refine ⟨⟨0, rfl, by omega, rfl⟩, ?_⟩
 rintro ⟨i⟩ ⟨n, hi, hn, he⟩
 simp only at hi he ⊢
 subst hi
 simp only [Int.toNat_natCast]
 refine ⟨fun hlt => ?_, fun hge => ?_⟩
 ·have g : n < l.length := by omega
  obtain ⟨a0, a1, a2, a3⟩ := tget g
  have hs := hk _ (tmem g)
  rw [tdrop g] at he
  simp only [atL, cond_eq_ite] at he
  refine ⟨by omega, by omega, by rw [flatT_len]; omega, a0, a1, a2, a3, fun hc => ?_, fun hc => ⟨by omega, ⟨n + 1, by omega, by omega, ?_⟩, by omega⟩⟩
  ·have hc' : eqCl (tX l n, tY l n, tQ l n) (x, y, q) = true := hc
   rw [if_pos hc'] at he
   rw [← he]
   simp [hs]
  ·have hc' : eqCl (tX l n, tY l n, tQ l n) (x, y, q) = false := hc
   rw [hc', if_neg (by simp)] at he; exact he
 ·rw [List.drop_eq_nil_of_le (by omega)] at he
  rw [← he]; exact ⟨rfl, rfl, rfl⟩
theorem TH69ok : TabOk Tryd.prog G TH69 := tabL_ok noCh_ok ⟨ct70, trivial⟩
theorem ct69 : CtOk Tryd.prog G 69 e69 := by
 intro args r h hp
 unfold e69 at h
 split at h <;> cases h
 rename_i x y q a _ _ u v p b _ _
 obtain ⟨rfl, rfl, hza, hzb⟩ := hp
 refine (fnP_spec hcm hmx TH69ok ok69 rfl (ob_o69 x y q u v p a b) ?_ : SpecP Tryd.prog G 69 [.agg [_, _, _, layV a], .agg [_, _, _, layV b]] _ []).caps
 simp only [and_true]
 refine ⟨fun h => ⟨by first | exact ⟨hza, hzb⟩ | exact ⟨⟨trivial, hza⟩, hzb⟩ | simp [hza, hzb], ?_⟩, fun h => ?_⟩
 ·have : eqCl (x, y, q) (u, v, p) = true := h
  rw [this]; rfl
 ·have : eqCl (x, y, q) (u, v, p) = false := h
  rw [this]; rfl
theorem TH68ok : TabOk Tryd.prog G TH68 := tabL_ok noCh_ok ⟨ct69, trivial⟩
theorem caps3 {f : Nat} {a b c v : AV} {bs : List Blk} (h : SpecP Tryd.prog G f [capsV a, capsV b, c] v bs) : SpecP Tryd.prog G f [a, b, c] v bs := h.args fun w F xs h => by
 cases h with
 | cons _ _ _ _ h1 h2 =>
  cases h2 with
  | cons _ _ _ _ h3 h4 => exact .cons _ _ _ _ h1.caps (.cons _ _ _ _ h3.caps h4)
theorem ct68 : CtOk Tryd.prog G 68 e68 := by
 intro args r h hp
 unfold e68 at h
 split at h <;> try cases h
 rename_i a n _ b m _ f
 rw [cond_eq_ite] at h
 split at h <;> cases h
 rename_i hf
 cases Nat.eq_of_beq_eq_true hf
 obtain ⟨h1, h2⟩ := hp
 obtain ⟨a, rfl, rfl, e, hz, hk⟩ := okT_of h1
 obtain ⟨b, rfl, rfl, e', hz', hk'⟩ := okT_of h2
 rw [e, e']
 refine caps3 (fnP_spec hcm hmx TH68ok ok68 rfl (ob_o68 a b) ?_ : SpecP Tryd.prog G 68 [lsk a, lsk b, _] _ [])
 simp only [ltb_iff, ltb_no, leb_iff, leb_no, len'_iff, ltn_iff, inR_i64, and_true, true_and, size_vals, iI, bne_iff_ne, ne_eq, bne_eq_false_iff_eq, Int.natCast_inj]
 refine ⟨fun h => (eqT_no.2 fun e => h (by rw [e])).symm, fun hl => ⟨⟨0, rfl, by omega, rfl⟩, ?_⟩⟩
 rintro ⟨i⟩ ⟨n, hi, hn, he⟩
 simp only at hi he ⊢
 subst hi
 simp only [Int.toNat_natCast]
 refine ⟨fun hlt => ?_, fun hge => ?_⟩
 ·have g1 : n < a.length := by omega
  have g2 : n < b.length := by omega
  obtain ⟨a0, a1, a2, a3⟩ := tget g1
  obtain ⟨b0, b1, b2, b3⟩ := tget g2
  have hs1 := hk _ (tmem g1)
  have hs2 := hk' _ (tmem g2)
  rw [tdrop g1, tdrop g2] at he
  simp only [eqT] at he
  refine ⟨by omega, by omega, by rw [flatT_len]; omega, a0, a1, a2, a3, by omega, by omega, by rw [flatT_len]; omega, b0, b1, b2, b3, ⟨hs1, hs2⟩, fun hc => ?_, fun hc => ⟨by omega, ⟨n + 1, by omega, by omega, ?_⟩, by omega⟩⟩
  ·rw [Bool.not_eq_true'] at hc
   rw [hc] at he; exact he
  ·rw [Bool.not_eq_false'] at hc
   rw [hc] at he; exact he
 ·rw [List.drop_eq_nil_of_le (by omega), List.drop_eq_nil_of_le (by omega)] at he
  exact he
theorem TH20ok : TabOk Tryd.prog G TH20 := tabL_ok noCh_ok ⟨ct68, trivial⟩
theorem ct20 : CtOk Tryd.prog G 20 e20 := by
 intro args r h hp
 unfold e20 at h
 split at h <;> cases h
 obtain ⟨h1, h2⟩ := hp
 obtain ⟨a, rfl, rfl, e, hz, hk⟩ := okT_of h1
 obtain ⟨b, rfl, rfl, e', hz', hk'⟩ := okT_of h2
 rw [e, e']
 refine (fnP_spec hcm hmx TH20ok ok20 rfl (ob_o20 a b) ?_ : SpecP Tryd.prog G 20 [lsk a, lsk b] _ []).caps
 rw [e, e']
 exact ⟨⟨okT_flat hz hk, okT_flat hz' hk'⟩, rfl, trivial⟩
theorem bI_ff {b : Bool} (h : b = false) : (0 : Int) = bI b 1 0 := by rw [h]; rfl
theorem bI_tt {b : Bool} (h : b = true) : (1 : Int) = bI b 1 0 := by rw [h]; rfl
theorem ct19 : CtOk Tryd.prog G 19 e19 := by
 intro args r h hp
 unfold e19 at h
 split at h <;> cases h
 rename_i a _ c b _ _
 obtain ⟨rfl, rfl, hza, hzb⟩ := hp
 unfold smK at hza hzb
 refine caps2 (fnP_spec hcm hmx T0ok ok19 rfl (ob_o19 a b c) ?_ : SpecP Tryd.prog G 19 [_, layV b] _ [])
 simp only [ltb_iff, ltb_no, leb_iff, leb_no, len'_iff, ltn_iff, inR_i64, and_true, true_and, size_ints, iI, getD0, bne_iff_ne, ne_eq, bne_eq_false_iff_eq, Int.natCast_inj]
 refine ⟨fun h => bI_ff ?_, fun hl => ⟨fun h => bI_ff ?_, fun hk => ⟨⟨0, rfl, by omega, rfl⟩, ?_⟩⟩⟩
 ·rw [eqK_no.2 (fun e => h (by rw [e])), Bool.and_false]
 ·have : Nat.beq c a.length = false := by
   cases hb : Nat.beq c a.length
   ·rfl
   ·exact absurd (Nat.eq_of_beq_eq_true hb) h
  rw [this]; rfl
 rintro ⟨i⟩ ⟨n, hi, hn, he⟩
 simp only at hi he ⊢
 subst hi
 simp only [Int.toNat_natCast, List.length_drop]
 have hkk : Nat.beq c a.length = true := by rw [hk]; exact Nat.beq_refl _
 refine ⟨fun hlt => ?_, fun hge => ?_⟩
 ·have g1 : n < a.length := by omega
  have g2 : n < b.length := by omega
  rw [eqK_ob g1 g2] at he
  refine ⟨by omega, by omega, by omega, by omega, by omega, by omega, by omega, by omega, fun hc => bI_ff ?_, fun hc => ⟨by omega, ⟨n + 1, by omega, by omega, ?_⟩, by omega⟩⟩
  ·rw [beq_false_of_ne hc] at he; rw [← he]; exact Bool.and_false _
  ·rw [hc, beq_self_eq_true] at he; exact he
 ·rw [List.drop_eq_nil_of_le (by omega), List.drop_eq_nil_of_le (by omega)] at he
  exact bI_tt (by rw [hkk, ← he]; rfl)
theorem sp19d (a b : List Int) (hza : smK a) (hzb : smK b) : SpecD Tryd.prog G (.fn 19 [] []) [.fullc 90240 a.length a.length, layV b] [(90240, .blk (bkI a none))] (.int .i64 (bI (eqK a b) 1 0)) [] [] := by
 unfold smK at hza hzb
 refine fnD_spec hcm hmx T0ok ok19 rfl (ob_d_19 a b) ?_
 simp only [ltb_iff, ltb_no, leb_iff, leb_no, len'_iff, ltn_iff, inR_i64, and_true, true_and, size_ints, iI, getD0, bne_iff_ne, ne_eq, bne_eq_false_iff_eq, Int.natCast_inj, List.getD_eq_getElem?_getD, List.getElem?_drop, Nat.add_zero]
 refine ⟨fun h => bI_ff (eqK_no.2 (fun e => h (by rw [e]))), fun hl => ⟨fun h => absurd trivial h, fun _ => ⟨⟨0, rfl, by omega, rfl⟩, ?_⟩⟩⟩
 rintro ⟨i⟩ ⟨n, hi, hn, he⟩
 simp only at hi he ⊢
 subst hi
 simp only [Int.toNat_natCast, List.length_drop]
 refine ⟨fun hlt => ?_, fun hge => ?_⟩
 ·have g1 : n < a.length := by omega
  have g2 : n < b.length := by omega
  rw [eqK_ob g1 g2] at he
  refine ⟨by omega, by omega, by omega, by omega, by omega, by omega, by omega, fun hc => bI_ff ?_, fun hc => ⟨by omega, ⟨n + 1, by omega, by omega, ?_⟩, by omega⟩⟩
  ·rw [beq_false_of_ne hc] at he; rw [← he]; rfl
  ·rw [hc, beq_self_eq_true] at he; exact he
 ·rw [List.drop_eq_nil_of_le (by omega), List.drop_eq_nil_of_le (by omega)] at he
  exact bI_tt (by rw [← he]; rfl)
/-! ### The stacks of plain data -/
theorem unR : ∀ (l : List Sk), unT (flatR l) = l
 | [] => rfl
 | ((x, y, q), ks) :: l => by
  have ih := unR l
  show ((x, y, q), ks) :: unT (flatR l) = _
  rw [ih]
theorem flatR_len (l : List Sk) : (flatR l).length = l.length * 4 := by
 induction l with
 | nil => rfl
 | cons s l ih =>
  show (ptV s ++ flatR l).length = _
  rw [List.length_append, ih, List.length_cons]
  show 4 + _ = _
  omega
theorem stO_len (l : List Sk) : (stO l).length ≤ 20 := by unfold stO; rw [List.length_map, List.length_take]; omega
theorem stO_lay {l : List Sk} : ∀ s ∈ stO l, s.2.length ≤ 8 := by
 intro s hs
 unfold stO at hs
 obtain ⟨t, _, rfl⟩ := List.mem_map.1 hs
 show (t.2.take 8).length ≤ 8
 rw [List.length_take]; omega
theorem stO_ok (l : List Sk) : okT (flatT (stO l)) (stO l).length := okT_flat (by have := stO_len l; omega) (fun s hs => by have := stO_lay s hs; unfold smK; omega)
theorem stO_rng {l : List Sk} (hr : rawT l) : ∀ s ∈ stO l, ∀ k ∈ s.2, 0 ≤ k ∧ k ≤ 255 := by
 intro s hs k hk
 unfold stO at hs
 obtain ⟨t, ht, rfl⟩ := List.mem_map.1 hs
 exact (hr t (List.mem_of_mem_take ht)).2 k (List.mem_of_mem_take hk)
theorem TH15ok : TabOk Tryd.prog G TH15 := tabL_ok noCh_ok ⟨ct64, trivial⟩
theorem drop0 {α : Type} (l : List α) (a b : Nat) : (List.drop a (List.drop b l))[0]? = (List.drop b l)[a]? := by
 rw [List.getElem?_drop, Nat.add_zero]
theorem ct15 : CtOk Tryd.prog G 15 e15 := by
 intro args r h hp
 unfold e15 at h
 split at h <;> cases h
 rename_i a n _
 obtain ⟨h1, h2, hr⟩ := hp
 generalize unT a = l at *
 subst h1 h2
 refine (fnP_spec hcm hmx TH15ok ok15 rfl (ob_o15 l) ?_ : SpecP Tryd.prog G 15 [.imm (.vals (flatR l)) l.length none] _ []).caps
 simp only [ltb_iff, ltb_no, leb_iff, leb_no, len'_iff, ltn_iff, inR_i64, and_true, true_and, size_vals, size_ints, iI, flatR_len, drop0, List.getD_eq_getElem?_getD, List.getElem?_drop, Nat.add_zero, List.length_drop]
 refine ⟨⟨0, rfl, by omega, by omega, rfl, rfl⟩, ?_⟩
 rintro ⟨i, o, n⟩ ⟨m, hi, hn, h20, ho, hm⟩
 simp only at hi ho hm ⊢
 subst hi ho hm
 simp only [Int.toNat_natCast]
 have fin : n = l.length ∨ 20 ≤ n → (l.take n).map stk = stO l ∧ n = (stO l).length := by
  intro h
  have e : l.take n = l.take 20 := by
   rcases h with h | h
   ·rw [List.take_of_length_le (by omega), List.take_of_length_le (by omega)]
   ·rw [show n = 20 by omega]
  refine ⟨by unfold stO; rw [e], ?_⟩
  unfold stO
  rw [← e, List.length_map, List.length_take]; omega
 refine ⟨fun hlt => ⟨fun hlt2 => ?_, fun hge => ?_⟩, fun hge => ?_⟩
 ·have g : n < l.length := by omega
  obtain ⟨a0, a1, a2, a3⟩ := rget g
  simp only [List.getElem?_drop, Nat.add_zero] at a0 a1 a2 a3
  have hq := hr _ (tmem g)
  obtain ⟨⟨q1, q2, q3, q4⟩, q5⟩ := hq
  simp only at q1 q2 q3 q4 q5
  unfold i8P at q1 q2
  have E : (l.take (n + 1)).map stk = (l.take n).map stk ++ [((tX l n, tY l n, (tQ l n).tmod 4), (tK l n).take 8)] := by
   rw [ttake g, List.map_append]; rfl
  have E2 : ∀ o : List Int, o = (tK l n).take 8 → flatT ((l.take n).map stk) ++ [AV.int .i64 (tX l n), .int .i64 (tY l n), .int .u8 ((tQ l n).tmod 4), .imm (.ints .i64 o) o.length none] = flatT ((l.take (n + 1)).map stk) := by
   intro o ho
   rw [E, flatT_app, ho]; rfl
  refine ⟨by omega, by omega, by omega, a0, by omega, by omega, by omega, by omega, a1, by omega, by omega, by omega, by omega, a2, ⟨0, rfl, by omega, by omega, rfl, rfl⟩, ?_⟩
  rintro ⟨k, o, j⟩ ⟨m, hk, hj, h8, ho, hm⟩
  simp only at hk ho hm ⊢
  subst hk hm
  simp only [Int.toNat_natCast]
  have hol : o.length = j := by rw [ho, List.length_take]; omega
  refine ⟨by omega, by omega, by omega, a3, fun hk => ⟨fun hk2 => ?_, fun hk2 => ?_⟩, fun hk => ?_⟩
  ·have gj : j < (tK l n).length := by omega
   have hkr := q5 _ (List.getElem_mem gj)
   have hkv : (tK l n)[j]?.getD 0 = (tK l n)[j] := by rw [List.getElem?_eq_getElem gj]; rfl
   refine ⟨by omega, by omega, by omega, a3, by omega, by omega, by omega, by omega, by rw [hkv]; omega, by omega, by omega, ⟨j + 1, by omega, by omega, by omega, ?_, rfl⟩, by omega⟩
   rw [itake gj, ho]
  ·refine ⟨by omega, by omega, ⟨n + 1, by omega, by omega, by omega, ?_, rfl⟩, by omega⟩
   rw [← hol]
   exact E2 o (by rw [ho, show j = 8 by omega])
  ·refine ⟨by omega, by omega, ⟨n + 1, by omega, by omega, by omega, ?_, rfl⟩, by omega⟩
   rw [← hol]
   refine E2 o (by rw [ho, List.take_of_length_le (by omega), List.take_of_length_le (by omega)])
 ·obtain ⟨f1, f2⟩ := fin (.inr (by omega))
  rw [f1, ← f2]; exact ⟨rfl, rfl⟩
 ·obtain ⟨f1, f2⟩ := fin (.inl (by omega))
  rw [f1, ← f2]; exact ⟨rfl, rfl⟩
end Go.Proofs.YtmnaghfndigfkaaDoor.X
