/-
 The contracts of the least turn; of which fan comes before.
-/
import Derived.Test.YtfafinkgmhkdmaaDoorVO8Z
import Derived.Test.YtfafinkgmhkdmaaDoorVC7Z
set_option maxRecDepth 1000000
set_option linter.unusedVariables false
set_option linter.unusedSimpArgs false
namespace Go.Proofs.YtfafinkgmhkdmaaDoor.X
open Go Go.Ab

theorem sy28 (a k oa ok x y : List Int) (h1 : x.length < 1000000000) (h2 : y.length < 1000000000) (h3 : oa.length < 1000000000) (h4 : ok.length < 1000000000) : SpecD Tryd.prog G (.yld 9002) [fanC x y] (H28 a k oa ok) (.bool true) [(133, box28 (selL (ltF x y oa ok) x oa) (selL (ltF x y oa ok) y ok))] [] := by
 refine fnY_spec hcm hmx WBok (ob_y_28 a k oa ok x y) ?_
 have e1 : ltb (orI (cmpL x oa) (cmpL y ok)) 0 = ltF x y oa ok := rfl
 rw [e1]
 cases hc : ltF x y oa ok <;> simp [selL] <;> omega
theorem ch28ok (a k : List Int) : ChOk Tryd.prog G (ch28 a k) := by
 intro h cv args r hr hp
 unfold ch28 at hr
 split at hr
 ·rename_i id x n c y m d oa _ _ ok _ _ _ _ _ _ _ _ hh
  rw [cond_eq_ite] at hr
  split at hr
  ·rename_i hid
   cases hr
   obtain ⟨rfl, rfl, rfl, rfl, rfl, h1, h2, h3, h4⟩ := hp
   have := Nat.eq_of_beq_eq_true hid
   subst this
   exact sy28 a k _ _ _ _ h1 h2 h3 h4
  ·cases hr
 ·cases hr
theorem TY28ok (a k : List Int) : TabOk Tryd.prog G (TY28 a k) := tabL_ok (ch28ok a k) ⟨ct42i, ct43i, trivial⟩
theorem ltF_iff {x y oa ok : List Int} (h : x.length = oa.length) : ltF x y oa ok = true ↔ cmpL (x ++ y) (oa ++ ok) < 0 := by
 unfold ltF orI
 rw [ltb_iff, cmpL_app h]
theorem best_next {a k : List Int} {n : Nat} : selL (ltF (rotL' a n) (rotL' k n) (rotL' a (bestN (trn a k) n)) (rotL' k (bestN (trn a k) n))) (rotL' a n) (rotL' a (bestN (trn a k) n)) = rotL' a (bestN (trn a k) (n + 1)) ∧ selL (ltF (rotL' a n) (rotL' k n) (rotL' a (bestN (trn a k) n)) (rotL' k (bestN (trn a k) n))) (rotL' k n) (rotL' k (bestN (trn a k) n)) = rotL' k (bestN (trn a k) (n + 1)) := by
 have hl := ltF_iff (x := rotL' a n) (y := rotL' k n) (oa := rotL' a (bestN (trn a k) n)) (ok := rotL' k (bestN (trn a k) n)) (by rw [rot_len, rot_len])
 have e : bestN (trn a k) (n + 1) = if cmpL (trn a k n) (trn a k (bestN (trn a k) n)) < 0 then n else bestN (trn a k) n := by
  conv => lhs; unfold bestN
 rw [e]
 have e2 : cmpL (trn a k n) (trn a k (bestN (trn a k) n)) = cmpL (rotL' a n ++ rotL' k n) (rotL' a (bestN (trn a k) n) ++ rotL' k (bestN (trn a k) n)) := rfl
 rw [e2]
 cases hc : ltF (rotL' a n) (rotL' k n) (rotL' a (bestN (trn a k) n)) (rotL' k (bestN (trn a k) n)) with
 | true => rw [if_pos (hl.1 hc)]; exact ⟨rfl, rfl⟩
 | false => rw [if_neg (fun h => by rw [hl.2 h] at hc; cases hc)]; exact ⟨rfl, rfl⟩
theorem sp71 (a k : List Int) (hk : k.length = a.length) (hz : a.length < 1000000000) : SpecD Tryd.prog G (.fn 71 [] []) [.yld 9002, .iptr (fanVC a k)] (H28 a k (rotL' a 0) (rotL' k 0)) (.tup []) [(133, box28 (lsA a k) (lsK a k))] [] := by
 refine fnD_spec hcm hmx (TY28ok a k) ok71 rfl (ob_d_71 a k) ?_
 simp only [ltb_iff, ltb_no, leb_iff, leb_no, ltn_iff, ltn_no, len'_iff, len'_no, inR_i64, inR_u8, inR_i32, size_ints, size_bools, size_vals, size_cells, getD_drop, List.getElem?_drop, beq_iff_eq, beq_eq_false_iff_ne, bne_iff_ne, bne_eq_false_iff_eq, ne_eq, Nat.zero_add, Nat.add_zero, Nat.mul_one, Int.toNat_natCast, and_true, true_and, List.length_drop, List.length_append, List.length_cons, List.length_nil, List.length_set, List.getD_eq_getElem?_getD, implies_true, iI, iL, Bool.not_eq_true', Bool.not_eq_false', Int.natCast_inj]
 refine ⟨⟨0, rfl, by omega, rfl, rfl⟩, ?_⟩
 rintro ⟨i, oa, ok⟩ ⟨n, rfl, hn, rfl, rfl⟩
 simp only [Int.toNat_natCast, rot_len]
 refine ⟨fun hlt => ⟨by omega, by omega, by omega, by omega, ⟨n + 1, by omega, by omega, best_next.1, best_next.2⟩, by omega⟩, fun hge => ?_⟩
 obtain rfl : n = a.length := by omega
 have e1 : rotL' a (bestN (trn a k) a.length) = lsA a k := rfl
 have e2 : rotL' k (bestN (trn a k) a.length) = lsK a k := rfl
 have l1 := congrArg List.length e1
 have l2 := congrArg List.length e2
 rw [rot_len] at l1 l2
 rw [e1, e2]
 exact ⟨rfl, l1, l1, rfl, l2, l2⟩
theorem ch71ok (a k : List Int) : ChOk Tryd.prog G (ch71 a k) := by
 intro h cv args r hr hp
 unfold ch71 at hr
 split at hr
 ·rename_i f id c
  rw [cond_eq_ite] at hr
  split at hr
  ·rename_i hi
   rw [Bool.and_eq_true] at hi
   have e1 := Nat.eq_of_beq_eq_true hi.1
   have e2 := Nat.eq_of_beq_eq_true hi.2
   subst e1; subst e2
   cases hr
   obtain ⟨rfl, ha, h1, h2⟩ := hp
   rw [ha]
   exact sp71 a k h1 h2
  ·cases hr
 ·cases hr
theorem T28ok (a k : List Int) : TabOk Tryd.prog G (T28 a k) := tabL_ok (ch71ok a k) ⟨ct19f, ct46, wBok⟩
theorem sp28 (a k : List Int) (hl : a.length < 1000000000) (hc : chk a k = 0) : SpecP Tryd.prog G 28 [fanV a k] (.tup [fanC (lsA a k) (lsK a k), .int .i64 0]) [] := by
 refine fnP_spec hcm hmx (T28ok a k) ok28 rfl (ob_o28 a k) ?_
 have hk := chk_len hc
 have e : tOk a 0 = true := by unfold tOk; rw [decide_eq_true_eq]; omega
 simp only [e, bLt, bI, cond_true]
 refine ⟨⟨trivial, trivial, by omega, hc⟩, fun h => absurd h (by decide), fun _ => ⟨⟨trivial, trivial⟩, ⟨trivial, trivial, hk.symm, hl⟩, trivial, trivial, trivial, trivial, trivial, trivial, trivial, trivial⟩⟩
theorem ct28 : CtOk Tryd.prog G 28 e28 := by
 intro args r h hp
 unfold e28 at h
 split at h <;> cases h
 obtain ⟨rfl, rfl, h1, h2⟩ := hp
 exact (sp28 _ _ h1 h2).caps
theorem cmp_one {x y : Int} {a b : List Int} : cmpL (x :: a) (y :: b) = if x = y then cmpL a b else if x < y then -1 else 1 := by
 simp only [cmpL]
 by_cases h : x = y
 ·rw [if_pos h, if_neg (by omega), if_neg (by omega)]
 ·rw [if_neg h]
  by_cases h2 : x < y
  ·rw [if_pos h2, if_pos h2]
  ·rw [if_neg h2, if_pos (by omega), if_neg h2]
theorem sp29 (a k b j : List Int) (h1 : a.length = b.length) (h2 : k.length = j.length) (hz : a.length < 1000000000000) (hk : k.length < 1000000000000) : SpecP Tryd.prog G 29 [fanV a k, fanV b j] (.bool (befB a k b j)) [] := by
 refine fnP_spec hcm hmx T0ok ok29 rfl (ob_o29 a k b j) ?_
 simp only [ltb_iff, ltb_no, leb_iff, leb_no, ltn_iff, ltn_no, len'_iff, len'_no, inR_i64, inR_u8, inR_i32, size_ints, size_bools, size_vals, size_cells, getD_drop, List.getElem?_drop, beq_iff_eq, beq_eq_false_iff_ne, bne_iff_ne, bne_eq_false_iff_eq, ne_eq, Nat.zero_add, Nat.add_zero, Nat.mul_one, Int.toNat_natCast, and_true, true_and, List.length_drop, List.length_append, List.length_cons, List.length_nil, List.length_set, List.getD_eq_getElem?_getD, implies_true, iI, iL, Bool.not_eq_true', Bool.not_eq_false', Int.natCast_inj]
 refine ⟨⟨0, rfl, by omega, rfl⟩, ?_⟩
 rintro ⟨i⟩ ⟨n, rfl, hn, hi⟩
 simp only [Int.toNat_natCast] at hi ⊢
 refine ⟨fun hlt => ?_, fun hge => ⟨⟨0, rfl, by omega, ?_⟩, ?_⟩⟩
 ·rw [drop_step (show n < a.length by omega), drop_step (show n < b.length by omega), List.cons_append, List.cons_append, cmp_one] at hi
  refine ⟨by omega, by omega, by omega, by omega, by omega, by omega, by omega, by omega, fun he => ⟨by omega, by omega, by omega, by omega, by omega, by omega, by omega, by omega, ?_⟩, fun he => ⟨by omega, ⟨n + 1, by omega, by omega, ?_⟩, by omega⟩⟩
  ·rw [if_neg he] at hi
   unfold befB
   rw [← hi, Bool.eq_iff_iff, ltb_iff, ltb_iff]
   split <;> omega
  ·rw [if_pos he] at hi; exact hi
 ·rw [← hi, List.drop_of_length_le (show a.length ≤ n by omega), List.drop_of_length_le (show b.length ≤ n by omega)]; rfl
 ·rintro ⟨i2⟩ ⟨m, rfl, hm, hj⟩
  simp only [Int.toNat_natCast] at hj ⊢
  refine ⟨fun hl2 => ?_, fun hg2 => ?_⟩
  ·rw [drop_step (show m < k.length by omega), drop_step (show m < j.length by omega), cmp_one] at hj
   refine ⟨by omega, by omega, by omega, by omega, by omega, by omega, by omega, by omega, fun he => ⟨by omega, by omega, by omega, by omega, by omega, by omega, by omega, by omega, ?_⟩, fun he => ⟨by omega, ⟨m + 1, by omega, by omega, ?_⟩, by omega⟩⟩
   ·rw [if_neg he] at hj
    unfold befB
    rw [← hj, Bool.eq_iff_iff, ltb_iff, ltb_iff]
    split <;> omega
   ·rw [if_pos he] at hj; exact hj
  ·rw [List.drop_of_length_le (show k.length ≤ m by omega), List.drop_of_length_le (show j.length ≤ m by omega)] at hj
   unfold befB
   rw [← hj]; rfl
theorem ct29 : CtOk Tryd.prog G 29 e29 := by
 intro args r h hp
 unfold e29 at h
 split at h <;> cases h
 obtain ⟨rfl, rfl, rfl, rfl, h1, h2, h3, h4⟩ := hp
 exact (sp29 _ _ _ _ h1 h2 h3 h4).caps
end Go.Proofs.YtfafinkgmhkdmaaDoor.X
