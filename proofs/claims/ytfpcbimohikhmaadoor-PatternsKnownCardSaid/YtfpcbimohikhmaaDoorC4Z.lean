/-
 The contracts of the functions on units and kinds.
-/
import Derived.Test.YtfpcbimohikhmaaDoorC3Z
import Derived.Test.YtfpcbimohikhmaaDoorO3Z
set_option maxRecDepth 1000000
set_option linter.unusedVariables false
set_option linter.unusedSimpArgs false
namespace Go.Proofs.YtfpcbimohikhmaaDoor.X
open Go Go.Ab

theorem unL_succ (w h : Int) (n : Nat) : unL w h (n + 1) = unL w h n ++ (if unB w h (n : Int) = true then [(n : Int)] else []) := by
 unfold unL
 rw [List.range_succ, List.map_append, List.filter_append]
 congr 1
 simp only [List.map_cons, List.map_nil, List.filter_cons, List.filter_nil]
 rfl
theorem unL_len (w h : Int) (n : Nat) : (unL w h n).length ≤ n := by
 unfold unL
 refine Nat.le_trans (List.length_filter_le _ _) ?_
 simp
theorem unL_step {w h i e : Int} {k j : Nat} (hi : i = k) (he : e = j) (hj : j ≤ 2) :
  (i < nbI w h i e → unL w h (3 * k + (j + 1)) = unL w h (3 * k + j) ++ [((3 * k + j : Nat) : Int)]) ∧ (¬ i < nbI w h i e → unL w h (3 * k + (j + 1)) = unL w h (3 * k + j)) := by
 have h1 : ((3 * k + j : Nat) : Int) / 3 = i := by omega
 have h2 : ((3 * k + j : Nat) : Int) % 3 = e := by omega
 have h3 : unB w h ((3 * k + j : Nat) : Int) = ltb i (nbI w h i e) := by unfold unB; rw [h1, h2]
 rw [← Nat.add_assoc, unL_succ, h3]
 refine ⟨fun h => ?_, fun h => ?_⟩
 ·rw [if_pos (by simpa using h)]
 ·rw [if_neg (by simpa using h), List.append_nil]
theorem flatU_app (a b : List Int) : flatU (a ++ b) = flatU a ++ flatU b := by unfold flatU; rw [List.flatMap_append]
theorem flatU_len (l : List Int) : (flatU l).length = 2 * l.length := by
 induction l with
 | nil => rfl
 | cons x l ih => unfold flatU at *; rw [List.flatMap_cons, List.length_append, ih]; simp; omega
theorem s5_len {w h : Int} (hs : s5 w h) : (4 * w * h).toNat ≤ 100 ∧ 4 * w * h ≤ 100 ∧ 4 ≤ 4 * w * h := by
 obtain ⟨h1, h2, h3, h4⟩ := hs
 have e4 : 4 * w * h = 4 * (w * h) := Int.mul_assoc _ _ _
 have a := mul_le (a := w) (b := h) (c := 5) (d := 5) (by omega) (by omega) (by omega) (by omega)
 have b := mul_le (a := 1) (b := 1) (c := w) (d := h) (by omega) (by omega) (by omega) (by omega)
 omega
theorem units_len {w h : Int} (hs : s5 w h) : (units w h).length ≤ 300 := by
 have := unL_len w h (3 * (4 * w * h).toNat)
 have := (s5_len hs).1
 unfold units
 omega
theorem cUok : CtsOk Tryd.prog G cU' := ⟨ct21, trivial⟩
theorem CUok : TabOk Tryd.prog G CU := tabL_ok noCh_ok cUok
theorem sp20 (w h : Int) (hs : s5 w h) : SpecP Tryd.prog G 20 [.agg [.int .i64 w, .int .i64 h]] (unV w h) [] := by
 refine fnP_spec hcm hmx CUok ok20 rfl (ob_o20 w h) ?_
 obtain ⟨z1, z2, z3⟩ := s5_len hs
 obtain ⟨s1, s2, s3, s4⟩ := hs
 simp only [ltb_iff, ltb_no, leb_iff, leb_no, len'_iff, inR_i64, inR_u8, and_true, true_and]
 refine ⟨⟨0, by simp, by omega, rfl, rfl⟩, ?_⟩
 rintro ⟨i, l, n⟩ ⟨k, hi, hk, hl, hn⟩
 simp only at hi hk hl hn ⊢
 subst hi
 refine ⟨by omega, by omega, fun hlt => ⟨⟨0, by simp, by omega, by simpa using hl, by simpa using hn⟩, ?_⟩, fun hge => ?_⟩
 ·rintro ⟨e, l', n'⟩ ⟨j, he, hj, hl', hn'⟩
  simp only at he hj hl' hn' ⊢
  simp only [Int.toNat_natCast] at *
  refine ⟨fun h3 => ⟨⟨⟨s1, s2, s3, s4⟩, by omega, by omega, by omega, by omega⟩, fun hb => ?_, fun hb => ?_⟩, fun h3 => ?_⟩
  ·have hst := (unL_step (w := w) (h := h) (i := (k : Int)) (e := e) rfl he (by omega)).1 hb
   have hln := unL_len w h (3 * k + j)
   refine ⟨by omega, by omega, by omega, ⟨j + 1, by omega, by omega, ?_, ?_⟩, by omega⟩
   ·rw [hst, flatU_app, ← hl']
    congr 1
    have h1 : ((3 * k + j : Nat) : Int) / 3 = k := by omega
    have h2 : ((3 * k + j : Nat) : Int) % 3 = e := by omega
    unfold flatU
    simp only [List.flatMap_cons, List.flatMap_nil, List.append_nil, h1, h2]
   ·rw [hst, List.length_append, ← hn']; rfl
  ·have hst := (unL_step (w := w) (h := h) (i := (k : Int)) (e := e) rfl he (by omega)).2 (by omega)
   refine ⟨by omega, ⟨j + 1, by omega, by omega, ?_, ?_⟩, by omega⟩
   ·rw [hst]; exact hl'
   ·rw [hst]; exact hn'
  ·have : j = 3 := by omega
   subst this
   exact ⟨by omega, ⟨k + 1, by omega, by omega, hl', hn'⟩, by omega⟩
 ·have : k = (4 * w * h).toNat := by omega
  subst this
  exact ⟨by rw [hl]; rfl, hn⟩
theorem ct20 : CtOk Tryd.prog G 20 e20 := by
 intro args r h hp
 unfold e20 at h
 split at h <;> cases h
 exact (sp20 _ _ hp).caps

theorem cWok : CtsOk Tryd.prog G cW' := ⟨ct20, cUok⟩
theorem CWok : TabOk Tryd.prog G CW := tabL_ok noCh_ok cWok
/-! ### Reads of lists -/
theorem uget {us : List Int} {n : Nat} (h : n < us.length) : (List.drop 0 (List.drop (n * 2) (flatU us)))[0]? = some (.int .i64 (uC us n)) ∧ (List.drop 1 (List.drop (n * 2) (flatU us)))[0]? = some (.int .u8 (uE us n)) := by
 unfold flatU uC uE
 simp only [List.getElem?_drop, Int.toNat_natCast]
 rw [flatMap_row (k := 2) (by decide) (fun _ => rfl), flatMap_row (k := 2) (by decide) (fun _ => rfl)]
 rw [show (n * 2 + (0 + 0)) / 2 = n by omega, show (n * 2 + (1 + 0)) / 2 = n by omega, show (n * 2 + (0 + 0)) % 2 = 0 by omega, show (n * 2 + (1 + 0)) % 2 = 1 by omega, List.getElem?_eq_getElem h]
 exact ⟨rfl, rfl⟩
theorem cget {cs : List Cr} {n : Nat} (h : n < cs.length) : (List.drop (n * 3) (flatC cs))[0]? = some (.int .i64 (cC cs n)) ∧ (List.drop (n * 3) (flatC cs))[1]? = some (.int .u8 (cE cs n)) ∧ (List.drop (n * 3) (flatC cs))[2]? = some (.int .u8 (cK cs n)) := by
 unfold flatC cC cE cK
 simp only [List.getElem?_drop, Int.toNat_natCast]
 rw [flatMap_row (k := 3) (by decide) RCr.av_len, flatMap_row (k := 3) (by decide) RCr.av_len, flatMap_row (k := 3) (by decide) RCr.av_len]
 rw [show (n * 3 + 0) / 3 = n by omega, show (n * 3 + 1) / 3 = n by omega, show (n * 3 + 2) / 3 = n by omega, show (n * 3 + 0) % 3 = 0 by omega, show (n * 3 + 1) % 3 = 1 by omega, show (n * 3 + 2) % 3 = 2 by omega, List.getElem?_eq_getElem h]
 exact ⟨rfl, rfl, rfl⟩
theorem cgetd {cs : List Cr} {n : Nat} (h : n < cs.length) : (List.drop 0 (List.drop (n * 3) (flatC cs)))[0]? = some (.int .i64 (cC cs n)) ∧ (List.drop 1 (List.drop (n * 3) (flatC cs)))[0]? = some (.int .u8 (cE cs n)) ∧ (List.drop 2 (List.drop (n * 3) (flatC cs)))[0]? = some (.int .u8 (cK cs n)) := by
 obtain ⟨h1, h2, h3⟩ := cget h
 exact ⟨(List.getElem?_drop ..).trans h1, (List.getElem?_drop ..).trans h2, (List.getElem?_drop ..).trans h3⟩
theorem flatC_len (l : List Cr) : (flatC l).length = l.length * 3 := RCr.flat_len l
theorem flatC_app (a b : List Cr) : flatC (a ++ b) = flatC a ++ flatC b := by unfold flatC; rw [List.flatMap_append]
theorem cAt {cs : List Cr} {n : Nat} (h : n < cs.length) : cs[n] = (cC cs n, cE cs n, cK cs n) := by
 unfold cC cE cK
 rw [Int.toNat_natCast, List.getElem?_eq_getElem h]; rfl
theorem uAt {us : List Int} {n : Nat} (h : n < us.length) : us[n] = 3 * uC us n + uE us n ∧ uC us n = us[n] / 3 ∧ uE us n = us[n] % 3 := by
 unfold uC uE
 rw [Int.toNat_natCast, List.getElem?_eq_getElem h]
 simp only [Option.getD_some, and_self, and_true]
 omega
theorem drop_at {α : Type} {l : List α} {n : Nat} (h : n < l.length) : l.drop n = l[n] :: l.drop (n + 1) := List.drop_eq_getElem_cons h
theorem take_at {α : Type} {l : List α} {n : Nat} (h : n < l.length) : l.take (n + 1) = l.take n ++ [l[n]] := by rw [List.take_add_one, List.getElem?_eq_getElem h]; rfl
theorem set_mid {α : Type} (v a : α) : ∀ (A R : List α), (A ++ a :: R).set A.length v = A ++ v :: R
 | [], R => rfl
 | x :: A, R => by simp [set_mid v a A R]
/-! ### With -/
theorem wthL_nil_r (us : List Int) : wthL us [] = [] := by cases us <;> rfl
theorem wthL_take : ∀ (us ks : List Int) (k : Nat), k < us.length → k < ks.length → wthL (us.take (k + 1)) (ks.take (k + 1)) = wthL (us.take k) (ks.take k) ++ (if ks[k]?.getD 0 = 0 then [] else [(us[k]?.getD 0 / 3, us[k]?.getD 0 % 3, ks[k]?.getD 0)])
 | [], _, k, h, _ => by simp at h
 | _ :: _, [], k, _, h => by simp at h
 | c :: us, x :: ks, 0, _, _ => by
  by_cases h : x = 0 <;> simp [wthL, h]
 | c :: us, x :: ks, k + 1, h1, h2 => by
  have ih := wthL_take us ks k (by simpa using h1) (by simpa using h2)
  rw [List.take_succ_cons, List.take_succ_cons, List.take_succ_cons, List.take_succ_cons]
  simp only [wthL, List.getElem?_cons_succ]
  by_cases h : x = 0
  ·rw [if_pos h, if_pos h, ih]
  ·rw [if_neg h, if_neg h, ih, List.cons_append]
theorem wthL_end : ∀ (us ks : List Int) (k : Nat), us.length ≤ k ∨ ks.length ≤ k → wthL (us.take k) (ks.take k) = wthL us ks
 | [], ks, k, _ => by simp [wthL]
 | c :: us, [], k, _ => by simp [wthL, wthL_nil_r]
 | c :: us, x :: ks, 0, h => by simp at h
 | c :: us, x :: ks, k + 1, h => by
  have ih := wthL_end us ks k (by simpa using h)
  rw [List.take_succ_cons, List.take_succ_cons]
  simp only [wthL, ih]
theorem wthL_len : ∀ (us ks : List Int), (wthL us ks).length ≤ us.length
 | [], _ => by simp [wthL]
 | c :: us, [] => by simp [wthL]
 | c :: us, x :: ks => by
  have := wthL_len us ks
  simp only [wthL]
  split
  ·simp; omega
  ·simp; omega
theorem sp23 (w h : Int) (ks : List Int) (hs : s5 w h) : SpecP Tryd.prog G 23 [.agg [.int .i64 w, .int .i64 h], .imm (.ints .u8 ks) ks.length none] (.agg [.int .i64 w, .int .i64 h, .full 0 (wthL (units w h) ks).length]) [blkC (flatC (wthL (units w h) ks)) (wthL (units w h) ks).length] := by
 refine fnP_spec hcm hmx CWok ok23 rfl (ob_o23 w h ks) ?_
 have hu := units_len hs
 refine ⟨hs, ?_⟩
 generalize units w h = us at *
 simp only [ltb_iff, ltb_no, leb_iff, leb_no, len'_iff, ltn_iff, inR_i64, inR_u8, and_true, true_and, size_ints, size_vals, bne_iff_ne, ne_eq, bne_eq_false_iff_eq]
 refine ⟨⟨0, by simp, by omega, by omega, by simp [wthL, flatC], by simp [wthL]⟩, ?_⟩
 rintro ⟨i, l, n⟩ ⟨k, hi, hk1, hk2, hl, hn⟩
 simp only at hi hl hn ⊢
 subst hi
 have hlen := wthL_len (us.take k) (ks.take k)
 rw [List.length_take] at hlen
 simp only [Int.toNat_natCast]
 refine ⟨fun h1 => ⟨fun h2 => ?_, fun h2 => ?_⟩, fun h1 => ?_⟩
 ·have g1 : k < us.length := by omega
  have g2 : k < ks.length := by omega
  have hst := wthL_take us ks k g1 g2
  have hz : List.getD (List.drop k ks) 0 0 = ks[k]?.getD 0 := by simp [List.getD_eq_getElem?_getD]
  have hx : uC us k = us[k]?.getD 0 / 3 := by unfold uC; simp
  have hy : uE us k = us[k]?.getD 0 % 3 := by unfold uE; simp
  rw [hz]
  refine ⟨by omega, by omega, by omega, by simp; omega, fun hne => ?_, fun he => ?_⟩
  ·rw [if_neg hne] at hst
   refine ⟨by omega, by omega, by rw [flatU_len]; omega, (uget g1).1, by omega, by omega, by rw [flatU_len]; omega, (uget g1).2, by omega, by omega, by omega, by simp; omega, by omega, by omega, ⟨k + 1, by omega, by omega, by omega, ?_, ?_⟩, by omega⟩
   ·rw [hst, flatC_app, ← hl, hx, hy]; rfl
   ·rw [hst, List.length_append, ← hn]; rfl
  ·rw [if_pos he, List.append_nil] at hst
   refine ⟨by omega, ⟨k + 1, by omega, by omega, by omega, ?_, ?_⟩, by omega⟩
   ·rw [hst]; exact hl
   ·rw [hst]; exact hn
 ·have := wthL_end us ks k (.inr (by omega))
  rw [this] at hl hn
  exact ⟨hn, hl, hn⟩
 ·have := wthL_end us ks k (.inl (by omega))
  rw [this] at hl hn
  exact ⟨hn, hl, hn⟩
theorem ct23 : CtOk Tryd.prog G 23 e23 := by
 intro args r h hp
 unfold e23 at h
 split at h <;> cases h
 obtain ⟨h1, rfl, h2⟩ := hp
 exact (sp23 _ _ _ h1).caps
theorem sp28 (k : Int) : SpecP Tryd.prog G 28 [.int .u8 k] (.int .u8 (otK k)) [] := by
 refine fnP_spec hcm hmx T0ok ok28 rfl (ob_o28 k) ?_
 simp only [beq_iff_eq, beq_eq_false_iff_ne, and_true]
 unfold otK
 refine ⟨fun h => by simp [h], fun h1 => ⟨fun h => by simp [h], fun h2 => by simp [h1, h2]⟩⟩
theorem ct28 : CtOk Tryd.prog G 28 e28 := by
 intro args r h hp
 unfold e28 at h
 split at h <;> cases h
 exact (sp28 _).caps
/-! ### Differ -/
theorem eqC_step {a b : List Cr} {n : Nat} (h1 : n < a.length) (h2 : n < b.length) : eqC (a.drop n) (b.drop n) = (decide (a[n] = b[n]) && eqC (a.drop (n + 1)) (b.drop (n + 1))) := by
 rw [drop_at h1, drop_at h2]
 unfold eqC
 rw [← Bool.decide_and]
 exact decide_eq_decide.2 (by rw [List.cons.injEq])
theorem sp22 (w h w' h' : Int) (a b : List Cr) (hz : a.length < 1000000000) : SpecP Tryd.prog G 22 [patV w h a, patV w' h' b] (.int .i64 (difI w h w' h' a b)) [] := by
 refine fnP_spec hcm hmx T0ok ok22 rfl (ob_o22 w h w' h' a b) ?_
 simp only [ltb_iff, ltb_no, leb_iff, leb_no, len'_iff, ltn_iff, inR_i64, inR_u8, and_true, true_and, size_vals]
 refine ⟨fun hne => ?_, fun heq => ⟨fun hl => ?_, fun hl => ⟨⟨0, by simp, by omega, rfl⟩, ?_⟩⟩⟩
 ·have : decide (w = w' ∧ h = h') = false := by
   rw [decide_eq_false_iff_not]
   rintro ⟨rfl, rfl⟩
   simp at hne
  unfold difI; rw [this]; rfl
 ·have : eqC a b = false := by
   unfold eqC
   rw [decide_eq_false_iff_not]
   rintro rfl
   simp at hl
  unfold difI; rw [this, Bool.and_false]; rfl
 ·have hl' : a.length = b.length := by simp at hl; omega
  have hd : decide (w = w' ∧ h = h') = true := by
   rw [decide_eq_true_iff]
   simp at heq
   exact heq
  rintro ⟨i⟩ ⟨n, hi, hn, he⟩
  simp only at hi he ⊢
  subst hi
  simp only [Int.toNat_natCast]
  refine ⟨fun hlt => ?_, fun hge => ?_⟩
  ·have g1 : n < a.length := by omega
   have g2 : n < b.length := by omega
   obtain ⟨a0, a1, a2⟩ := cget g1
   obtain ⟨b0, b1, b2⟩ := cget g2
   have hst := eqC_step g1 g2
   rw [cAt g1, cAt g2] at hst
   refine ⟨by omega, by omega, by rw [flatC_len]; omega, a0, a1, a2, by omega, by omega, by rw [flatC_len]; omega, b0, b1, b2, fun hne => ?_, fun hq => ?_⟩
   ·have : decide ((cC a n, cE a n, cK a n) = (cC b n, cE b n, cK b n)) = false := by
     rw [decide_eq_false_iff_not]
     simp only [Prod.mk.injEq]
     rintro ⟨e1, e2, e3⟩
     simp [e1, e2, e3] at hne
    rw [this, Bool.false_and] at hst
    unfold difI; rw [← he, hst, Bool.and_false]; rfl
   ·have : decide ((cC a n, cE a n, cK a n) = (cC b n, cE b n, cK b n)) = true := by
     rw [decide_eq_true_iff]
     simp only [Prod.mk.injEq]
     simp at hq
     exact hq
    rw [this, Bool.true_and] at hst
    exact ⟨by omega, ⟨n + 1, by omega, by omega, by rw [← hst]; exact he⟩, by omega⟩
  ·have g1 : a.drop n = [] := List.drop_eq_nil_of_le (by omega)
   have g2 : b.drop n = [] := List.drop_eq_nil_of_le (by omega)
   rw [g1, g2] at he
   unfold difI; rw [hd, ← he]; rfl
/-! ### Unit -/
theorem unL_mem {w h : Int} {n : Nat} {x : Int} (hx : x ∈ unL w h n) : 0 ≤ x ∧ x < n ∧ unB w h x = true := by
 unfold unL at hx
 rw [List.mem_filter, List.mem_map] at hx
 obtain ⟨⟨k, hk, rfl⟩, hb⟩ := hx
 rw [List.mem_range] at hk
 refine ⟨by simp, ?_, hb⟩
 show (k : Int) < n
 omega
theorem sp17 (w h i e : Int) (hs : s5 w h) : SpecP Tryd.prog G 17 [.agg [.int .i64 w, .int .i64 h], .int .i64 i, .int .i64 e] (.int .i64 (unI w h i e)) [] := by
 refine fnP_spec hcm hmx CWok ok17 rfl (ob_o17 w h i e) ?_
 have hu := units_len hs
 have hpos : ∀ x ∈ units w h, 0 ≤ x := fun x hx => (unL_mem hx).1
 obtain ⟨z1, z2, z3⟩ := s5_len hs
 obtain ⟨s1, s2, s3, s4⟩ := id hs
 simp only [ltb_iff, ltb_no, leb_iff, leb_no, len'_iff, ltn_iff, inR_i64, inR_u8, and_true, true_and, size_vals]
 refine ⟨fun h0 => ?_, fun h0 => ⟨by omega, by omega, fun h1 => ?_, fun h1 => ⟨fun h2 => ?_, fun h2 => ⟨fun h3 => ?_, fun h3 => ?_⟩⟩⟩⟩
 ·have : hasB w h i = false := hasB_no.2 (by omega)
  unfold unI; rw [this]; rfl
 ·have : hasB w h i = false := hasB_no.2 (by omega)
  unfold unI; rw [this]; rfl
 ·have : decide (0 ≤ e) = false := by simp; omega
  unfold unI; rw [this]; simp
 ·have : decide (e ≤ 2) = false := by simp; omega
  unfold unI; rw [this]; simp
 ·have hB : hasB w h i = true := hasB_iff.2 (by omega)
  have hd1 : decide (0 ≤ e) = true := by simp; omega
  have hd2 : decide (e ≤ 2) = true := by simp; omega
  have hU : unI w h i e = cond (leb 0 (nbI w h i e)) (idxL (3 * min i (nbI w h i e) + e) (units w h) 0) (-1) := by
   unfold unI; rw [hB, hd1, hd2]; rfl
  have hnb := (nbI_ok (okS_of hs) hB ⟨h2, h3⟩).1
  have hmin : (if nbI w h i e < i then nbI w h i e else i) = min i (nbI w h i e) := by
   split <;> omega
  refine ⟨⟨hs, by omega, by omega, by omega, by omega⟩, hs, ?_⟩
  rw [hU, hmin]
  clear hU hmin
  generalize nbI w h i e = N at *
  generalize units w h = us at *
  refine ⟨⟨0, by simp, by omega, by simp⟩, ?_⟩
  rintro ⟨j⟩ ⟨n, hj, hn, he⟩
  simp only at hj he ⊢
  subst hj
  simp only [Int.toNat_natCast, beq_iff_eq, beq_eq_false_iff_ne, ne_eq]
  refine ⟨fun hlt => ?_, fun hge => ?_⟩
  ·have g1 : n < us.length := by omega
   obtain ⟨u1, u2, u3⟩ := uAt g1
   have hp := hpos _ (List.getElem_mem g1)
   have hst : idxL (3 * min i N + e) (us.drop n) n = if us[n] = 3 * min i N + e then (n : Int) else idxL (3 * min i N + e) (us.drop (n + 1)) ((n : Int) + 1) := by rw [drop_at g1]; rfl
   have hnx : us[n] ≠ 3 * min i N + e → ∃ n_1 : Nat, (n : Int) + 1 = n_1 ∧ n_1 ≤ us.length ∧ idxL (3 * min i N + e) (us.drop n_1) n_1 = idxL (3 * min i N + e) us 0 := fun hne => by
    rw [if_neg hne] at hst
    refine ⟨n + 1, by omega, by omega, ?_⟩
    rw [← he, hst]; rfl
   refine ⟨fun hN => ⟨by omega, by omega, by rw [flatU_len]; omega, (uget g1).1, fun hc => ⟨by omega, by omega, by rw [flatU_len]; omega, (uget g1).2, by omega, fun hq => ?_, fun hq => ?_⟩, fun hc => ?_⟩, fun hN => ?_⟩
   ·have : leb 0 N = true := by simpa using hN
    rw [this, cond_true, ← he, hst, if_pos (by omega)]
   ·exact ⟨by omega, hnx (by omega), by omega⟩
   ·exact ⟨by omega, hnx (by omega), by omega⟩
   ·exact ⟨by omega, hnx (by omega), by omega⟩
  ·have g1 : us.drop n = [] := List.drop_eq_nil_of_le (by omega)
   rw [g1] at he
   rw [← he]
   cases leb 0 N <;> rfl
theorem ct17 : CtOk Tryd.prog G 17 e17 := by
 intro args r h hp
 unfold e17 at h
 split at h <;> cases h
 exact (sp17 _ _ _ _ hp).caps
/-! ### Kinds -/
theorem lookK_app (c : Int) (x : Cr) : ∀ (l : List Cr) (acc : Int), lookK c acc (l ++ [x]) = if x.1 = c / 3 ∧ x.2.1 = c % 3 then x.2.2 else lookK c acc l
 | [], acc => rfl
 | y :: l, acc => by simp only [List.cons_append, lookK, lookK_app c x l]
theorem kindsL_len (us : List Int) (cs : List Cr) : (kindsL us cs).length = us.length := by simp [kindsL]
theorem sp19 (w h : Int) (cs : List Cr) (hs : s5 w h) (hz : cs.length < 1000000000) : SpecP Tryd.prog G 19 [patV w h cs] (.full 0 (kindsL (units w h) cs).length) [⟨.ints .u8 (kindsL (units w h) cs), 1, (kindsL (units w h) cs).length, none, none, true, false⟩] := by
 refine fnP_spec hcm hmx CWok ok19 rfl (ob_o19 w h cs) ?_
 have hu := units_len hs
 refine ⟨hs, ?_⟩
 generalize units w h = us at *
 have hkl := kindsL_len us cs
 simp only [ltb_iff, ltb_no, leb_iff, leb_no, len'_iff, ltn_iff, inR_i64, inR_u8, and_true, true_and, size_vals, size_ints, Int.toNat_natCast, beq_iff_eq, beq_eq_false_iff_ne, ne_eq, implies_true, imp_self]
 refine ⟨by omega, by omega, ⟨0, by simp, by omega, by simp⟩, ?_⟩
 rintro ⟨i, l⟩ ⟨k, hi, hk, hl⟩
 simp only at hi hl ⊢
 subst hi
 simp only [Int.toNat_natCast]
 refine ⟨fun hlt => ⟨⟨0, by simp, by omega, ?_⟩, ?_⟩, fun hge => ?_⟩
 ·rw [hl, List.take_zero]
  congr 1
  rw [show us.length - k = (us.length - (k + 1)) + 1 by omega, List.replicate_succ]
  rfl
 ·have g1 : k < us.length := by omega
  have gk : k < (kindsL us cs).length := by omega
  rintro ⟨j, l'⟩ ⟨n, hj, hn, hl'⟩
  simp only at hj hl' ⊢
  subst hj
  simp only [Int.toNat_natCast]
  obtain ⟨u1, u2, u3⟩ := uAt g1
  have hus : us[k]?.getD 0 = us[k] := by rw [List.getElem?_eq_getElem g1]; rfl
  have htk : ((kindsL us cs).take k).length = k := by rw [List.length_take]; omega
  refine ⟨fun h1 => ?_, fun h1 => ?_⟩
  ·have g2 : n < cs.length := by omega
   obtain ⟨c1, c2, c3⟩ := cgetd g2
   have hst := lookK_app us[k] cs[n] (cs.take n) 0
   rw [← take_at g2, cAt g2] at hst
   simp only [← u2, ← u3] at hst
   refine ⟨by omega, by omega, by rw [flatC_len]; omega, c1, by omega, by omega, by rw [flatU_len]; omega, (uget g1).1, fun _ => by omega, fun _ => by omega, fun _ => by rw [flatC_len]; omega, fun _ => c2, fun _ => by omega, fun _ => by omega, fun _ => by rw [flatU_len]; omega, fun _ => (uget g1).2, ?_, fun hc => ?_, fun hc => ?_⟩
   ·cases (cC cs n == uC us k) <;> rfl
   ·have e1 : cC cs n = uC us k ∧ cE cs n = uE us k := by
     by_cases e : cC cs n = uC us k
     ·simpa [e] using hc
     ·simp [e] at hc
    rw [if_pos e1] at hst
    refine ⟨by omega, by omega, by rw [flatC_len]; omega, c3, by omega, by omega, ?_, by omega, ⟨n + 1, by omega, by omega, ?_⟩, by omega⟩
    ·rw [hl', List.length_append, htk]; simp
    ·rw [hus, hst, hl']
     have := set_mid (cK cs n) (lookK (us[k]?.getD 0) 0 (cs.take n)) ((kindsL us cs).take k) (List.replicate (us.length - (k + 1)) 0)
     rw [htk] at this
     exact this
   ·have e1 : ¬ (cC cs n = uC us k ∧ cE cs n = uE us k) := by
     rintro ⟨e1, e2⟩
     simp [e1, e2] at hc
    rw [if_neg e1] at hst
    refine ⟨by omega, ⟨n + 1, by omega, by omega, ?_⟩, by omega⟩
    rw [hus, hst, hl', hus]
  ·have hnn : n = cs.length := by omega
   subst hnn
   refine ⟨by omega, ⟨k + 1, by omega, by omega, ?_⟩, by omega⟩
   rw [hl', take_at gk, List.append_assoc, List.take_length]
   congr 1
   have : (kindsL us cs)[k] = lookK (us[k]?.getD 0) 0 cs := by
    rw [hus]; exact List.getElem_map ..
   rw [this]; rfl
 ·have hkk : k = us.length := by omega
  subst hkk
  refine ⟨by omega, ?_, by omega⟩
  rw [hl, List.take_of_length_le (by omega), Nat.sub_self, List.replicate_zero, List.append_nil]
end Go.Proofs.YtfpcbimohikhmaaDoor.X
