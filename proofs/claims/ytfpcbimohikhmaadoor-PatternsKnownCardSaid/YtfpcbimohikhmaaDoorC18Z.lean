/-
 The law Check.
-/
import Derived.Test.YtfpcbimohikhmaaDoorC10Z
import Derived.Test.YtfpcbimohikhmaaDoorC7Z
import Derived.Test.YtfpcbimohikhmaaDoorO11Z
set_option maxRecDepth 1000000
set_option linter.unusedVariables false
set_option linter.unusedSimpArgs false
namespace Go.Proofs.YtfpcbimohikhmaaDoor.X
open Go Go.Ab

theorem lk_no {c e : Int} : ∀ {us : List Int} {acc i : Int}, (∀ u ∈ us, ¬ (u / 3 = c ∧ u % 3 = e)) → lkI c e acc i us = acc
 | [], acc, i, _ => rfl
 | u :: r, acc, i, h => by
  simp only [lkI]
  have h0 := h u (by simp)
  have hb : (u / 3 == c && u % 3 == e) = false := by
   cases hq : (u / 3 == c && u % 3 == e) with
   | false => rfl
   | true => simp only [Bool.and_eq_true, beq_iff_eq] at hq; exact absurd hq h0
  rw [hb]
  exact lk_no (fun x hx => h x (by simp [hx]))
theorem lk_at {c e : Int} : ∀ {us : List Int} {j : Nat} {u : Int} (acc i : Int), asc us → us[j]? = some u → u / 3 = c → u % 3 = e → lkI c e acc i us = i + j
 | [], j, u, acc, i, _, h, _, _ => by simp at h
 | d :: us, 0, u, acc, i, ha, h, h1, h2 => by
  have : d = u := by simpa using h
  subst this
  simp only [lkI]
  have hb : (d / 3 == c && d % 3 == e) = true := by rw [h1, h2]; simp
  rw [hb]
  simp only [cond_true]
  rw [lk_no]
  ·simp
  ·intro x hx hq
   have := (asc_tail ha).2 x hx
   omega
 | d :: us, j + 1, u, acc, i, ha, h, h1, h2 => by
  have hj : us[j]? = some u := by simpa using h
  simp only [lkI]
  rw [lk_at _ (i + 1) (asc_tail ha).1 hj h1 h2]
  omega
def ixU (us : List Int) (x : Cr) : Int := lkI x.1 x.2.1 (-1) 0 us
theorem ix_no {us : List Int} {x : Cr} (h : ¬ ((0 ≤ x.2.1 ∧ x.2.1 ≤ 2) ∧ cdC x ∈ us)) : ixU us x = -1 := by
 unfold ixU
 refine lk_no fun u hu hq => h ?_
 have h1 : cdC x = u := by unfold cdC; omega
 exact ⟨by omega, by rw [h1]; exact hu⟩
theorem ix_at {us : List Int} {x : Cr} (ha : asc us) (he : 0 ≤ x.2.1 ∧ x.2.1 ≤ 2) (h : cdC x ∈ us) : ∃ j : Nat, us[j]? = some (cdC x) ∧ ixU us x = j := by
 obtain ⟨j, hj, hu⟩ := List.getElem_of_mem h
 have hs : us[j]? = some (cdC x) := by rw [List.getElem?_eq_getElem hj, hu]
 refine ⟨j, hs, ?_⟩
 unfold ixU
 rw [lk_at (-1) 0 ha hs (by unfold cdC; omega) (by unfold cdC; omega)]
 omega
theorem asc_lt {us : List Int} {i j : Nat} {a b : Int} (ha : asc us) (hi : us[i]? = some a) (hj : us[j]? = some b) : i < j ↔ a < b := by
 have key : ∀ {i j : Nat} {a b : Int}, us[i]? = some a → us[j]? = some b → i < j → a < b := by
  intro i j a b hi hj hij
  obtain ⟨hi1, hi2⟩ := List.getElem?_eq_some_iff.1 hi
  obtain ⟨hj1, hj2⟩ := List.getElem?_eq_some_iff.1 hj
  have := List.pairwise_iff_getElem.1 ha i j hi1 hj1 hij
  rw [hi2, hj2] at this
  exact this
 refine ⟨key hi hj, fun hab => ?_⟩
 rcases Nat.lt_trichotomy i j with h | h | h
 ·exact h
 ·subst h; rw [hi] at hj; cases hj; omega
 ·have := key hj hi h; omega
def asU (us : List Int) : Int → List Cr → Bool
 | _, [] => true
 | p, x :: r => ltb p (ixU us x) && asU us (ixU us x) r
theorem rck_eq (us : List Int) : ∀ (l : List Cr) (p o : Int), rck us p o l = cond (l.all fun x => !ltb (ixU us x) 0) (cond (asU us p l) o 6) 7
 | [], p, o => rfl
 | x :: r, p, o => by
  simp only [rck, asU, List.all_cons]
  rw [rck_eq us r]
  show cond (ltb (ixU us x) 0) 7 (cond (r.all fun x => !ltb (ixU us x) 0) (cond (asU us (ixU us x) r) (cond (leb (ixU us x) p) 6 o) 6) 7) = _
  have hl : leb (ixU us x) p = !ltb p (ixU us x) := by
   unfold leb ltb
   by_cases h : ixU us x ≤ p <;> simp [h] <;> omega
  rw [hl]
  cases ltb (ixU us x) 0 <;> cases (r.all fun x => !ltb (ixU us x) 0) <;> cases asU us (ixU us x) r <;> cases ltb p (ixU us x) <;> rfl
theorem unit_mem {w h : Int} {x : Cr} (hs : s5 w h) (he : 0 ≤ x.2.1) : unitB w h x = true ↔ (0 ≤ x.2.1 ∧ x.2.1 ≤ 2) ∧ cdC x ∈ units w h := by
 constructor
 ·intro hx
  obtain ⟨h1, h2, h3, h4, h5, h6⟩ := unit_ok hx he
  obtain ⟨i1, i2, i3⟩ := inv_ok hs h2 ⟨he, h4⟩ h5
  have e1 : cdC x / 3 = x.1 := by unfold cdC; omega
  have e2 : cdC x % 3 = x.2.1 := by unfold cdC; omega
  refine ⟨⟨he, h4⟩, units_of hs (by rw [e1]; exact h2) ?_⟩
  rw [e1, e2]; omega
 ·rintro ⟨⟨h0, h1⟩, h2⟩
  obtain ⟨u1, u2, u3⟩ := units_mem hs h2
  have e1 : cdC x / 3 = x.1 := by unfold cdC; omega
  have e2 : cdC x % 3 = x.2.1 := by unfold cdC; omega
  rw [e1] at u1
  rw [e1, e2] at u2
  unfold unitB okN okI
  rw [okS_of hs, u1]
  have hb := hasB_iff.1 u1
  simp only [Bool.true_and, Bool.and_eq_true, decide_eq_true_eq, leb_iff]
  omega
theorem ix_unit {w h : Int} {x : Cr} (hs : s5 w h) (he : 0 ≤ x.2.1) : (!ltb (ixU (units w h) x) 0) = unitB w h x := by
 rcases bool_or (unitB w h x) with hu | hu
 ·obtain ⟨h1, h2⟩ := (unit_mem hs he).1 hu
  obtain ⟨j, -, hj⟩ := ix_at (units_asc w h) h1 h2
  rw [hu, hj]
  have : ltb (j : Int) 0 = false := by rw [ltb_no]; omega
  rw [this]; rfl
 ·rw [hu, ix_no (fun hq => by rw [(unit_mem hs he).2 hq] at hu; cases hu)]
  rfl
theorem as_asc {w h : Int} (hs : s5 w h) : ∀ (r : List Cr) (x : Cr) (p : Int), (∀ y ∈ x :: r, unitB w h y = true ∧ 0 ≤ y.2.1) → asU (units w h) p (x :: r) = (ltb p (ixU (units w h) x) && ascB (x :: r))
 | [], x, p, _ => by simp [asU, ascB]
 | y :: r, x, p, hu => by
  have hx := hu x (by simp)
  have hy := hu y (by simp)
  obtain ⟨x1, x2⟩ := (unit_mem hs hx.2).1 hx.1
  obtain ⟨y1, y2⟩ := (unit_mem hs hy.2).1 hy.1
  obtain ⟨i, i1, i2⟩ := ix_at (units_asc w h) x1 x2
  obtain ⟨j, j1, j2⟩ := ix_at (units_asc w h) y1 y2
  have ih := as_asc hs r y (ixU (units w h) x) (fun z hz => hu z (by simp at hz ⊢; exact .inr hz))
  have hlt : ltb (ixU (units w h) x) (ixU (units w h) y) = ltb (ordI x.1 x.2.1 y.1 y.2.1) 0 := by
   have h1 := asc_lt (units_asc w h) i1 j1
   have h2 := (ord_cd (c := x.1) (c' := y.1) x1 y1).1
   have h3 : (cdC x < cdC y) ↔ 3 * x.1 + x.2.1 < 3 * y.1 + y.2.1 := Iff.rfl
   rw [i2, j2]
   rcases bool_or (ltb (ordI x.1 x.2.1 y.1 y.2.1) 0) with hb | hb
   ·rw [hb, ltb_iff]
    rw [ltb_iff] at hb
    have := h1.2 (h3.2 (h2.1 hb))
    omega
   ·rw [hb, ltb_no]
    rw [ltb_no] at hb
    have h5 : ¬ i < j := fun hij => by
     have := h2.2 (h3.1 (h1.1 hij)); omega
    omega
  show (ltb p (ixU (units w h) x) && asU (units w h) (ixU (units w h) x) (y :: r)) = _
  rw [ih, hlt]
  rfl
theorem rch_chk {w h : Int} {l : List Cr} (hs : s5 w h) (hg : edg l) : rchI w h l = chkI w h l := by
 unfold rchI chkI
 rw [okS_of hs, rck_eq]
 have ha : (l.all fun x => !ltb (ixU (units w h) x) 0) = l.all (unitB w h) := by
  induction l with
  | nil => rfl
  | cons x r ih =>
   simp only [List.all_cons]
   rw [ih (fun y hy => hg y (by simp [hy])), ix_unit hs (hg x (by simp)).1]
 rw [ha]
 rcases bool_or (badL l) with hb | hb <;> rw [hb] <;> try rfl
 rcases bool_or (l.all (unitB w h)) with hu | hu <;> rw [hu] <;> try rfl
 have : asU (units w h) (-1) l = ascB l := by
  cases l with
  | nil => rfl
  | cons x r =>
   have hu' := List.all_eq_true.1 hu
   rw [as_asc hs r x (-1) (fun y hy => ⟨hu' y hy, (hg y hy).1⟩)]
   have h1 := ix_unit hs (hg x (by simp)).1
   rw [hu' x (by simp)] at h1
   have : ltb (-1) (ixU (units w h) x) = true := by
    rw [ltb_iff]
    have : ltb (ixU (units w h) x) 0 = false := by simpa using h1
    rw [ltb_no] at this
    omega
   rw [this]; rfl
 simp only [cond_true, cond_false, this]
/-! ### The contracts of valid sheets -/
theorem ct29t : CtOk Tryd.prog G 29 e29t := by
 intro args r h hp
 unfold e29t at h
 split at h <;> cases h
 rename_i w h
 have := sp29 w h
 rw [show okS w h = true from hp] at this
 exact this.caps
theorem ct29f : CtOk Tryd.prog G 29 e29f := by
 intro args r h hp
 unfold e29f at h
 split at h <;> cases h
 rename_i w h
 have := sp29 w h
 rw [show okS w h = false from hp] at this
 exact this.caps
theorem sp31 (w h : Int) : SpecP Tryd.prog G 31 [.agg [.int .i64 w, .int .i64 h]] (.tup [.agg [.int .i64 (bI (okS w h) w 0), .int .i64 (bI (okS w h) h 0), .nils], .int .i64 (bI (okS w h) 0 1)]) [] := by
 refine fnP_spec hcm hmx CSok ok31 rfl (ob_o31 w h) ?_
 rw [bIne]
 cases okS w h <;> simp [bI]
theorem ct31t : CtOk Tryd.prog G 31 e31t := by
 intro args r h hp
 unfold e31t at h
 split at h <;> cases h
 rename_i w h
 have := sp31 w h
 rw [show okS w h = true from hp] at this
 exact this.caps
theorem ct31f : CtOk Tryd.prog G 31 e31f := by
 intro args r h hp
 unfold e31f at h
 split at h <;> cases h
 rename_i w h
 have := sp31 w h
 rw [show okS w h = false from hp] at this
 exact this.caps
theorem chk_f {w h : Int} {l : List Cr} (h0 : okS w h = false) : chkI w h l = 1 := by unfold chkI; rw [h0]; rfl
theorem ct30t : CtOk Tryd.prog G 30 e30t := by
 intro args r h hp
 unfold e30t at h
 split at h <;> cases h
 rename_i w h a n _
 obtain ⟨⟨⟨h1, h2, h3⟩, h4, h5⟩, hs⟩ := hp
 generalize unC a = l at *
 subst h1 h2
 have := sp30 w h l h3 (fun _ => hs)
 rw [rch_chk hs h5] at this
 exact this.caps
theorem ct30f : CtOk Tryd.prog G 30 e30f := by
 intro args r h hp
 unfold e30f at h
 split at h <;> cases h
 rename_i w h a n _
 obtain ⟨⟨⟨h1, h2, h3⟩, h4, h5⟩, hs⟩ := hp
 generalize unC a = l at *
 subst h1 h2
 have := sp30 w h l h3 (fun h => by rw [hs] at h; cases h)
 unfold rchI at this
 rw [hs] at this
 exact this.caps
theorem ct27f : CtOk Tryd.prog G 27 e30f := by
 intro args r h hp
 unfold e30f at h
 split at h <;> cases h
 rename_i w h a n _
 obtain ⟨⟨⟨h1, h2, h3⟩, h4, h5⟩, hs⟩ := hp
 generalize unC a = l at *
 subst h1 h2
 have := sp27 w h l h3 h5
 rw [chk_f hs] at this
 exact this.caps
theorem at_no {w h : Int} {l : List Cr} {i e : Int} (h0 : chkI w h l ≠ 0) : atE w h l i e = chkI w h l ∧ atB w h l i e = false ∧ atF w h l i e = false := by
 have hb : (chkI w h l == 0) = false := by rw [beq_eq_false_iff_ne]; exact h0
 have h1 : atE w h l i e = chkI w h l := by unfold atE; rw [hb]; rfl
 have h2 : atB w h l i e = false := by unfold atB; rw [h1]; exact hb
 refine ⟨h1, h2, ?_⟩
 unfold atF
 rw [h2]; rfl
theorem sp16n {w h i e : Int} {l : List Cr} (hz : l.length < 1000000) (hg : edg l) (h0 : chkI w h l ≠ 0) (he : 0 ≤ e ∧ e ≤ 255) : SpecP Tryd.prog G 16 [patV w h l, .int .i64 i, .int .u8 e] (.tup [.int .u8 0, .int .i64 (chkI w h l)]) [] := by
 have := sp16 w h l i e (by omega) hg he
 obtain ⟨a1, a2, a3⟩ := at_no (i := i) (e := e) h0
 unfold knI at this
 rw [a1, a3] at this
 exact this
theorem sp15n {w h i e k : Int} {l : List Cr} (hz : l.length < 1000000) (hg : edg l) (h0 : chkI w h l ≠ 0) (he : 0 ≤ e ∧ e ≤ 255) : SpecP Tryd.prog G 15 [patV w h l, .int .i64 i, .int .u8 e, .int .u8 k] (.tup [.agg [.int .i64 0, .int .i64 0, .imm (.vals []) 0 (some 0)], .int .i64 (chkI w h l)]) [] := by
 have := sp15 w h l i e k hz hg he
 obtain ⟨a1, a2, a3⟩ := at_no (i := i) (e := e) h0
 have hs : seE w h l i e k = chkI w h l := by unfold seE; rw [a2, a1]; rfl
 have hb : (chkI w h l == 0) = false := by rw [beq_eq_false_iff_ne]; exact h0
 have hl : seL w h l i e k = [] := by unfold seL; rw [hs, hb]; rfl
 rw [hs, hb, hl] at this
 exact this
theorem sp25n {w h : Int} {l : List Cr} (hz : l.length < 1000000) (hg : edg l) (h0 : chkI w h l ≠ 0) : SpecP Tryd.prog G 25 [patV w h l] (.tup [.agg [.int .i64 0, .int .i64 0, .full 0 0], .int .i64 (chkI w h l)]) [blkN] := by
 have := sp25 w h l hz hg
 have hb : (chkI w h l == 0) = false := by rw [beq_eq_false_iff_ne]; exact h0
 unfold opR at this
 rw [hb] at this
 exact this
theorem sp24n {w h : Int} {l : List Cr} (hz : l.length < 1000000) (hg : edg l) (h0 : chkI w h l ≠ 0) (hs : okS w h = true → s5 w h) : SpecP Tryd.prog G 24 [patV w h l] (.tup [.agg [.int .i64 0, .int .i64 0, .full 0 0], .int .i64 (chkI w h l)]) [blkN] := by
 have := sp24 w h l hz hg hs
 have hb : (chkI w h l == 0) = false := by rw [beq_eq_false_iff_ne]; exact h0
 unfold trL at this
 rw [hb] at this
 exact this
theorem ct16t : CtOk Tryd.prog G 16 e16t := by
 intro args r h hp
 unfold e16t at h
 split at h <;> cases h
 rename_i w h a n _ i e
 obtain ⟨⟨⟨h1, h2, h3⟩, h4, h5⟩, h0, he⟩ := hp
 generalize unC a = l at *
 subst h1 h2
 exact (sp16n h4 h5 h0 he).caps
theorem ct15t : CtOk Tryd.prog G 15 e15t := by
 intro args r h hp
 unfold e15t at h
 split at h <;> cases h
 rename_i w h a n _ i e k
 obtain ⟨⟨⟨h1, h2, h3⟩, h4, h5⟩, h0, he⟩ := hp
 generalize unC a = l at *
 subst h1 h2
 exact (sp15n h4 h5 h0 he).caps
theorem ct25t : CtOk Tryd.prog G 25 e25t := by
 intro args r h hp
 unfold e25t at h
 split at h <;> cases h
 rename_i w h a n _
 obtain ⟨⟨⟨h1, h2, h3⟩, h4, h5⟩, h0⟩ := hp
 generalize unC a = l at *
 subst h1 h2
 exact (sp25n h4 h5 h0).caps
theorem ct24t : CtOk Tryd.prog G 24 e24t := by
 intro args r h hp
 unfold e24t at h
 split at h <;> cases h
 rename_i w h a n _
 obtain ⟨⟨⟨h1, h2, h3⟩, h4, h5⟩, h0, hs⟩ := hp
 generalize unC a = l at *
 subst h1 h2
 exact (sp24n h4 h5 h0 hs).caps
theorem ct16f : CtOk Tryd.prog G 16 e16f := by
 intro args r h hp
 unfold e16f at h
 split at h <;> cases h
 rename_i w h a n _ i e
 obtain ⟨⟨⟨h1, h2, h3⟩, h4, h5⟩, h0, he⟩ := hp
 generalize unC a = l at *
 subst h1 h2
 have := sp16n (i := i) h4 h5 (by rw [chk_f h0]; decide) he
 rw [chk_f h0] at this
 exact this.caps
theorem ct15f : CtOk Tryd.prog G 15 e15f := by
 intro args r h hp
 unfold e15f at h
 split at h <;> cases h
 rename_i w h a n _ i e k
 obtain ⟨⟨⟨h1, h2, h3⟩, h4, h5⟩, h0, he⟩ := hp
 generalize unC a = l at *
 subst h1 h2
 have := sp15n (i := i) (k := k) h4 h5 (by rw [chk_f h0]; decide) he
 rw [chk_f h0] at this
 exact this.caps
theorem ct25f : CtOk Tryd.prog G 25 e25f := by
 intro args r h hp
 unfold e25f at h
 split at h <;> cases h
 rename_i w h a n _
 obtain ⟨⟨⟨h1, h2, h3⟩, h4, h5⟩, h0⟩ := hp
 generalize unC a = l at *
 subst h1 h2
 have := sp25n h4 h5 (by rw [chk_f h0]; decide)
 rw [chk_f h0] at this
 exact this.caps
theorem ct24f : CtOk Tryd.prog G 24 e24f := by
 intro args r h hp
 unfold e24f at h
 split at h <;> cases h
 rename_i w h a n _
 obtain ⟨⟨⟨h1, h2, h3⟩, h4, h5⟩, h0⟩ := hp
 generalize unC a = l at *
 subst h1 h2
 have := sp24n h4 h5 (by rw [chk_f h0]; decide) (fun h => by rw [h0] at h; cases h)
 rw [chk_f h0] at this
 exact this.caps
theorem TB5tok : TabOk Tryd.prog G TB5t := tabL_ok noCh_ok ⟨ct29t, ct31t, ct30t, ct27, ct16t, ct15t, ct25t, ct24t, ct18, trivial⟩
theorem TB5fok : TabOk Tryd.prog G TB5f := tabL_ok noCh_ok ⟨ct29f, ct31f, ct30f, ct27f, ct16f, ct15f, ct25f, ct24f, ct18, trivial⟩
theorem sp5 (w h i e : Int) (l : List Cr) (hg : edg l) (he : 0 ≤ e ∧ e ≤ 255) : SpecP Tryd.prog G 5 [patV w h l, .int .i64 i, .int .u8 e] (.bool true) [] := by
 rcases bool_or (okS w h) with hs | hs
 ·refine fnP_spec hcm hmx TB5tok ok5 rfl (ob_o5t w h i e l) ?_
  rw [unC_flat]
  have h1 := okS_iff.1 hs
  have hk : l.length ≤ 40 → chkP w h (flatC l) l.length := fun hl => ⟨okA_flat (by omega), by rw [unC_flat]; omega, by rw [unC_flat]; exact hg⟩
  refine ⟨⟨fun _ => ⟨rfl, trivial⟩, fun a => ⟨fun _ => ⟨hs, rfl, trivial⟩, fun b => ⟨fun _ => ⟨hs, rfl, trivial⟩, fun c => ?_⟩⟩⟩, fun _ hq => ?_⟩
  ·rw [ltb_no] at a b c
   refine ⟨rfl, rfl, rfl, rfl, rfl, rfl, rfl, rfl, ⟨by omega, by omega, by omega⟩, trivial⟩
  ·obtain ⟨q1, q2, q3⟩ := hq
   have hs5 : s5 w h := ⟨h1.1, q2, h1.2.1, q3⟩
   have K := hk q1
   refine ⟨⟨K, hs5⟩, ⟨K.1, hg⟩, by simp, hs, hs, by simp, fun _ => ⟨rfl, trivial⟩, fun h0 => ?_⟩
   have h0 : chkI w h l ≠ 0 := by simpa using h0
   exact ⟨⟨K, h0, he⟩, ⟨K, h0, he⟩, ⟨K, h0⟩, ⟨K, h0, fun _ => hs5⟩, by simp, by simp, by simp, by simp, rfl, trivial⟩
 ·refine fnP_spec hcm hmx TB5fok ok5 rfl (ob_o5f w h i e l) ?_
  have hk : l.length ≤ 40 → chkP w h (flatC l) l.length := fun hl => ⟨okA_flat (by omega), by rw [unC_flat]; omega, by rw [unC_flat]; exact hg⟩
  have hj : ltb 40 (↑l.length : Int) = false → l.length ≤ 40 := fun a => by rw [ltb_no] at a; omega
  refine ⟨⟨fun _ => ⟨rfl, trivial⟩, fun a => ?_⟩, fun _ hq => ?_⟩
  ·have a' := hj a
   refine ⟨fun _ => ⟨hs, fun _ => ⟨hs, rfl, rfl, rfl, rfl, rfl, rfl, rfl, rfl, a', trivial⟩, fun _ => ⟨rfl, rfl, rfl, rfl, rfl, rfl, rfl, rfl, a', trivial⟩⟩, fun _ => ⟨fun _ => ⟨hs, rfl, rfl, rfl, rfl, rfl, rfl, rfl, rfl, a', trivial⟩, fun _ => ⟨rfl, rfl, rfl, rfl, rfl, rfl, rfl, rfl, a', trivial⟩⟩⟩
  ·have K := hk hq
   exact ⟨⟨K, hs⟩, ⟨K, hs⟩, hs, hs, ⟨K, hs, he⟩, ⟨K, hs, he⟩, ⟨K, hs⟩, ⟨K, hs⟩, rfl, trivial⟩
end Go.Proofs.YtfpcbimohikhmaaDoor.X
