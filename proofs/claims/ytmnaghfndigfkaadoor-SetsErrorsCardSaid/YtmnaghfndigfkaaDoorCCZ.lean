/-
 The contracts of union, common cells and difference.
-/
import Derived.Test.YtmnaghfndigfkaaDoorCBZ
import Derived.Test.YtmnaghfndigfkaaDoorOCZ
set_option maxRecDepth 1000000
set_option linter.unusedVariables false
set_option linter.unusedSimpArgs false
namespace Go.Proofs.YtmnaghfndigfkaaDoor.X
open Go Go.Ab

theorem ct89 : CtOk Tryd.prog G 89 e89 := by
 intro args r h hp
 unfold e89 at h
 split at h <;> cases h
 exact fnP_spec hcm hmx T0ok ok89 rfl (ob_o89 _ _) (by simp)
theorem ct90 : CtOk Tryd.prog G 90 e90 := by
 intro args r h hp
 unfold e90 at h
 split at h <;> cases h
 rename_i p q
 refine fnP_spec hcm hmx T0ok ok90 rfl (ob_o90 _ _) ?_
 cases p <;> cases q <;> simp
theorem ct91 : CtOk Tryd.prog G 91 e91 := by
 intro args r h hp
 unfold e91 at h
 split at h <;> cases h
 rename_i p q
 refine fnP_spec hcm hmx T0ok ok91 rfl (ob_o91 _ _) ?_
 cases p <;> cases q <;> simp
theorem TKok : TabOk Tryd.prog G TK := tabL_ok noCh_ok ⟨ct89, ct90, ct91, trivial⟩
theorem ct99 : CtOk Tryd.prog G 99 e99 := by
 intro args r h hp
 unfold e99 at h
 split at h <;> cases h
 obtain ⟨h1, h2, hz⟩ := hp
 generalize unK _ = l at *
 subst h1 h2
 refine (fnP_spec hcm hmx T0ok ok99 rfl (ob_o99 l) ?_ : SpecP Tryd.prog G 99 [cls l] _ []).caps
 simp [flatK_len, Cont.size]
theorem ct131 : CtOk Tryd.prog G 131 e131 := by
 intro args r h hp
 unfold e131 at h
 split at h <;> cases h
 rename_i a n _ b m _
 obtain ⟨⟨h1, h2, hz⟩, h3, h4, hy⟩ := hp
 generalize unK a = a at *
 generalize unK b = b at *
 subst h1 h2 h3 h4
 refine caps2 (SpecP.caps (fnP_spec hcm hmx T0ok ok131 rfl (ob_o131 a b) ?_ : SpecP Tryd.prog G 131 [cls a, cls b] _ _))
 simp
theorem mrgF_nil (f : Nat) : ∀ n, mrgF f n [] [] = []
 | 0 => rfl
 | _ + 1 => rfl
theorem mrg_nn (f : Nat) : mrg f [] [] = [] := mrgF_nil f _
theorem mrg_nb (f : Nat) (b : Cl) (s : List Cl) : mrg f [] (b :: s) = addK (kpF f false true) [] b ++ mrg f [] s := by
 unfold mrg
 rw [show ([] : List Cl).length + (b :: s).length = ([] : List Cl).length + s.length + 1 by simp]
 rfl
theorem mrg_an (f : Nat) (a : Cl) (r : List Cl) : mrg f (a :: r) [] = addK (kpF f true false) [] a ++ mrg f r [] := by
 unfold mrg
 rw [show (a :: r).length + ([] : List Cl).length = r.length + ([] : List Cl).length + 1 by simp]
 rfl
theorem mrgF_more (f : Nat) : ∀ (n m : Nat) (a b : List Cl), a.length + b.length ≤ n → n ≤ m → mrgF f m a b = mrgF f n a b
 | 0, m, a, b, h, _ => by
  have : a = [] := List.eq_nil_of_length_eq_zero (by omega)
  subst this
  have : b = [] := List.eq_nil_of_length_eq_zero (by simp at h; simp [h])
  subst this
  rw [mrgF_nil, mrgF_nil]
 | n + 1, 0, a, b, _, h => by omega
 | n + 1, m + 1, [], [], _, _ => rfl
 | n + 1, m + 1, [], b :: s, h, g => by
  simp only [mrgF]; rw [mrgF_more f n m [] s (by simp at h ⊢; omega) (by omega)]
 | n + 1, m + 1, a :: r, [], h, g => by
  simp only [mrgF]; rw [mrgF_more f n m r [] (by simp at h ⊢; omega) (by omega)]
 | n + 1, m + 1, a :: r, b :: s, h, g => by
  simp only [List.length_cons] at h
  simp only [mrgF]
  rw [mrgF_more f n m r (b :: s) (by simp; omega) (by omega), mrgF_more f n m (a :: r) s (by simp; omega) (by omega), mrgF_more f n m r s (by omega) (by omega)]
theorem mrg_ab (f : Nat) (a b : Cl) (r s : List Cl) : mrg f (a :: r) (b :: s) = cond (ltC a b) (addK (kpF f true false) [] a ++ mrg f r (b :: s)) (cond (ltC b a) (addK (kpF f false true) [] b ++ mrg f (a :: r) s) (addK (kpF f true true) [] a ++ mrg f r s)) := by
 unfold mrg
 rw [show (a :: r).length + (b :: s).length = (r.length + s.length + 1) + 1 by simp; omega]
 simp only [mrgF]
 rw [show r.length + (b :: s).length = r.length + s.length + 1 by simp; omega, show (a :: r).length + s.length = r.length + s.length + 1 by simp; omega]
 rw [mrgF_more f (r.length + s.length) (r.length + s.length + 1) r s (by omega) (by omega)]
theorem addK_app (k : Bool) (l : List Cl) (c : Cl) : addK k l c = l ++ addK k [] c := by cases k <;> simp [addK]
theorem addK_len (k : Bool) (l : List Cl) (c : Cl) : (addK k l c).length ≤ l.length + 1 := by cases k <;> simp [addK]
/-- One step of the merge, by the order of the heads. -/
def ordL (a b : List Cl) : Int := ordV (flatK a) a.length (flatK b) b.length
theorem cmpI_anti (a b : Int) : cmpI b a = - cmpI a b := by unfold cmpI; split <;> (try split) <;> (try split) <;> omega
theorem cmpC_anti (a b : Cl) : cmpC b a = - cmpC a b := by
 unfold cmpC ord3
 rw [cmpI_anti a.2.1 b.2.1, cmpI_anti a.1 b.1, cmpI_anti a.2.2 b.2.2]
 split <;> split <;> (try split) <;> (try split) <;> omega
theorem flatK_drop : ∀ (l : List Cl), List.drop 3 (flatK l) = flatK (l.drop 1)
 | [] => rfl
 | _ :: _ => rfl
theorem mrg_step1 (f : Nat) {a b : List Cl} (h : 0 ≤ ordL a b) (h' : ¬ ordL a b ≤ 0) (hn : 0 < a.length + b.length) : 0 < b.length ∧ mrg f a b = addK (kpF f false true) [] (kX b 0, kY b 0, kQ b 0) ++ mrg f a (b.drop 1) := by
 unfold ordL ordV at h h'
 rw [unK_flat, unK_flat] at h h'
 cases a with
 | nil =>
  cases b with
  | nil => simp at hn
  | cons b s => exact ⟨by simp, mrg_nb f b s⟩
 | cons a r =>
  cases b with
  | nil => exact absurd h (show ¬ ((0 : Int) ≤ -1) by decide)
  | cons b s =>
   have h : 0 ≤ cmpC a b := h
   have h' : ¬ cmpC a b ≤ 0 := h'
   have e1 : ltC a b = false := by
    cases hh : ltC a b with
    | true => have := cmpC_neg.2 hh; omega
    | false => rfl
   have e2 : ltC b a = true := cmpC_neg.1 (by rw [cmpC_anti a b]; omega)
   refine ⟨by simp, ?_⟩
   rw [mrg_ab, e1, e2]; rfl
theorem mrg_step2 (f : Nat) {a b : List Cl} (h : ordL a b ≤ 0) (h' : ¬ 0 ≤ ordL a b) : 0 < a.length ∧ mrg f a b = addK (kpF f true false) [] (kX a 0, kY a 0, kQ a 0) ++ mrg f (a.drop 1) b := by
 unfold ordL ordV at h h'
 rw [unK_flat, unK_flat] at h h'
 cases a with
 | nil => exact absurd h (show ¬ ((1 : Int) ≤ 0) by decide)
 | cons a r =>
  cases b with
  | nil => exact ⟨by simp, mrg_an f a r⟩
  | cons b s =>
   have h' : ¬ 0 ≤ cmpC a b := h'
   have e1 : ltC a b = true := cmpC_neg.1 (by omega)
   refine ⟨by simp, ?_⟩
   rw [mrg_ab, e1]; rfl
theorem mrg_step3 (f : Nat) {a b : List Cl} (h : ordL a b ≤ 0) (h' : 0 ≤ ordL a b) : 0 < a.length ∧ 0 < b.length ∧ mrg f a b = addK (kpF f true true) [] (kX a 0, kY a 0, kQ a 0) ++ mrg f (a.drop 1) (b.drop 1) := by
 unfold ordL ordV at h h'
 rw [unK_flat, unK_flat] at h h'
 cases a with
 | nil => exact absurd h (show ¬ ((1 : Int) ≤ 0) by decide)
 | cons a r =>
  cases b with
  | nil => exact absurd h' (show ¬ ((0 : Int) ≤ -1) by decide)
  | cons b s =>
   have h : cmpC a b ≤ 0 := h
   have h' : 0 ≤ cmpC a b := h'
   have e1 : ltC a b = false := by
    cases hh : ltC a b with
    | true => have := cmpC_neg.2 hh; omega
    | false => rfl
   have e2 : ltC b a = false := by
    cases hh : ltC b a with
    | true => have := cmpC_neg.2 hh; have := cmpC_anti a b; omega
    | false => rfl
   refine ⟨by simp, by simp, ?_⟩
   rw [mrg_ab, e1, e2]; rfl
theorem sy89 (l : List Cl) (a b : List AV) (n m : Nat) (x y q : Int) (p r : Bool) (hl : l.length < 1000000) : SpecD Tryd.prog G (.yld 9002) [.agg [.int .i64 x, .int .i64 y, .int .u8 q], .agg [.bool p, .bool r]] (H88 89 l a b n m) (.bool true) [(320, bxO (.full 9001 (addK (kpF 89 p r) l (x, y, q)).length)), (9001, row88 (addK (kpF 89 p r) l (x, y, q)))] [] := by
 refine fnY_spec hcm hmx TKok (ob_y_89 l a b n m x y q p r) ?_
 simp [addK, kpF, flatK_app, flatK_one, len'_iff]
 omega
theorem ch88ok_89 : ChOk Tryd.prog G (ch88 89) := by
 intro h cv args r hr hp
 unfold ch88 at hr
 split at hr
 ·rw [cond_eq_ite] at hr
  split at hr
  ·rename_i hid
   cases hr
   obtain ⟨rfl, hl⟩ := hp
   have := Nat.eq_of_beq_eq_true hid
   subst this
   exact sy89 _ _ _ _ _ _ _ _ _ _ hl
  ·cases hr
 ·cases hr
theorem TY88ok_89 : TabOk Tryd.prog G (TY88 89) := tabL_ok ch88ok_89 ⟨ct79, trivial⟩
theorem sy90 (l : List Cl) (a b : List AV) (n m : Nat) (x y q : Int) (p r : Bool) (hl : l.length < 1000000) : SpecD Tryd.prog G (.yld 9002) [.agg [.int .i64 x, .int .i64 y, .int .u8 q], .agg [.bool p, .bool r]] (H88 90 l a b n m) (.bool true) [(320, bxO (.full 9001 (addK (kpF 90 p r) l (x, y, q)).length)), (9001, row88 (addK (kpF 90 p r) l (x, y, q)))] [] := by
 refine fnY_spec hcm hmx TKok (ob_y_90 l a b n m x y q p r) ?_
 rw [show kpF 90 p r = (p && r) from rfl]
 refine ⟨fun h => ?_, fun h => ?_⟩ <;> rw [h] <;> simp [addK, flatK_app, flatK_one, len'_iff]
 omega
theorem ch88ok_90 : ChOk Tryd.prog G (ch88 90) := by
 intro h cv args r hr hp
 unfold ch88 at hr
 split at hr
 ·rw [cond_eq_ite] at hr
  split at hr
  ·rename_i hid
   cases hr
   obtain ⟨rfl, hl⟩ := hp
   have := Nat.eq_of_beq_eq_true hid
   subst this
   exact sy90 _ _ _ _ _ _ _ _ _ _ hl
  ·cases hr
 ·cases hr
theorem TY88ok_90 : TabOk Tryd.prog G (TY88 90) := tabL_ok ch88ok_90 ⟨ct79, trivial⟩
theorem sy91 (l : List Cl) (a b : List AV) (n m : Nat) (x y q : Int) (p r : Bool) (hl : l.length < 1000000) : SpecD Tryd.prog G (.yld 9002) [.agg [.int .i64 x, .int .i64 y, .int .u8 q], .agg [.bool p, .bool r]] (H88 91 l a b n m) (.bool true) [(320, bxO (.full 9001 (addK (kpF 91 p r) l (x, y, q)).length)), (9001, row88 (addK (kpF 91 p r) l (x, y, q)))] [] := by
 refine fnY_spec hcm hmx TKok (ob_y_91 l a b n m x y q p r) ?_
 rw [show kpF 91 p r = (p && !r) from rfl]
 refine ⟨fun h => ?_, fun h => ?_⟩ <;> rw [h] <;> simp [addK, flatK_app, flatK_one, len'_iff]
 omega
theorem ch88ok_91 : ChOk Tryd.prog G (ch88 91) := by
 intro h cv args r hr hp
 unfold ch88 at hr
 split at hr
 ·rw [cond_eq_ite] at hr
  split at hr
  ·rename_i hid
   cases hr
   obtain ⟨rfl, hl⟩ := hp
   have := Nat.eq_of_beq_eq_true hid
   subst this
   exact sy91 _ _ _ _ _ _ _ _ _ _ hl
  ·cases hr
 ·cases hr
theorem TY88ok_91 : TabOk Tryd.prog G (TY88 91) := tabL_ok ch88ok_91 ⟨ct79, trivial⟩
end Go.Proofs.YtmnaghfndigfkaaDoor.X
