/-
 The plain law of patterns: set, look up, the check, over lists of units and kinds.
-/
import Derived.Test.YtfpcbimohikhmaaDoorC8Z
set_option maxRecDepth 1000000
set_option linter.unusedVariables false
set_option linter.unusedSimpArgs false
namespace Go.Proofs.YtfpcbimohikhmaaDoor.X
open Go Go.Ab

/-- Ascending codes. -/
def asc (us : List Int) : Prop := us.Pairwise (fun x y => x < y)
theorem unL_asc (w h : Int) : ∀ n, asc (unL w h n)
 | 0 => .nil
 | n + 1 => by
  rw [unL_succ]
  unfold asc
  rw [List.pairwise_append]
  refine ⟨unL_asc w h n, ?_, fun x hx y hy => ?_⟩
  ·split
   ·exact List.pairwise_singleton ..
   ·exact .nil
  ·have := unL_mem hx
   split at hy
   ·rw [List.mem_singleton] at hy; omega
   ·simp at hy
theorem units_asc (w h : Int) : asc (units w h) := unL_asc w h _
theorem cd_of (c k : Int) : cdC (c / 3, c % 3, k) = c := by unfold cdC; simp only; omega
theorem asc_tail {d : Int} {us : List Int} (h : asc (d :: us)) : asc us ∧ ∀ x ∈ us, d < x := ⟨(List.pairwise_cons.1 h).2, (List.pairwise_cons.1 h).1⟩
/-- A crease of a list of units and kinds. -/
theorem wthL_mem : ∀ {us ks : List Int} {x : Cr}, x ∈ wthL us ks → cdC x ∈ us ∧ x.1 = cdC x / 3 ∧ x.2.1 = cdC x % 3 ∧ x.2.2 ∈ ks ∧ x.2.2 ≠ 0
 | [], ks, x, h => by simp [wthL] at h
 | c :: us, [], x, h => by simp [wthL] at h
 | c :: us, k :: ks, x, h => by
  simp only [wthL] at h
  split at h
  ·obtain ⟨h1, h2, h3, h4, h5⟩ := wthL_mem h
   exact ⟨by simp [h1], h2, h3, by simp [h4], h5⟩
  ·rename_i hk
   rcases List.mem_cons.1 h with rfl | h
   ·rw [cd_of]; exact ⟨by simp, rfl, rfl, by simp, hk⟩
   ·obtain ⟨h1, h2, h3, h4, h5⟩ := wthL_mem h
    exact ⟨by simp [h1], h2, h3, by simp [h4], h5⟩
theorem wthL_pw : ∀ {us ks : List Int}, asc us → (wthL us ks).Pairwise (fun x y => cdC x < cdC y)
 | [], ks, _ => by simp [wthL]
 | c :: us, [], _ => by simp [wthL]
 | c :: us, k :: ks, h => by
  obtain ⟨h1, h2⟩ := asc_tail h
  simp only [wthL]
  split
  ·exact wthL_pw h1
  ·refine List.pairwise_cons.2 ⟨fun y hy => ?_, wthL_pw h1⟩
   rw [cd_of]
   exact h2 _ (wthL_mem hy).1
/-! ### Look up -/
theorem lookK_none {c : Int} : ∀ {l : List Cr} {acc : Int}, (∀ x ∈ l, ¬ (x.1 = c / 3 ∧ x.2.1 = c % 3)) → lookK c acc l = acc
 | [], acc, _ => rfl
 | x :: l, acc, h => by
  simp only [lookK]
  rw [if_neg (h x (by simp)), lookK_none fun y hy => h y (by simp [hy])]
theorem look_out {c : Int} {us ks : List Int} (hc : c ∉ us) (acc : Int) : lookK c acc (wthL us ks) = acc := lookK_none fun x hx he => by
 obtain ⟨h1, h2, h3, -, -⟩ := wthL_mem hx
 have : cdC x = c := by unfold cdC; omega
 exact hc (this ▸ h1)
theorem kinds_wthL : ∀ {us ks : List Int}, asc us → ks.length = us.length → kindsL us (wthL us ks) = ks
 | [], ks, _, h => by
  have : ks = [] := List.length_eq_zero_iff.1 (by simpa using h)
  subst this; rfl
 | c :: us, [], _, h => by simp at h
 | c :: us, k :: ks, ha, h => by
  obtain ⟨h1, h2⟩ := asc_tail ha
  have ih := kinds_wthL (us := us) (ks := ks) h1 (by simpa using h)
  have hc : c ∉ us := fun hm => by have := h2 c hm; omega
  unfold kindsL at ih ⊢
  simp only [List.map_cons]
  congr 1
  ·simp only [wthL]
   split
   ·rename_i hk; rw [look_out hc, hk]
   ·simp only [lookK]
    rw [if_pos (by simp), look_out hc]
  ·refine Eq.trans (List.map_congr_left fun d hd => ?_) ih
   have hdc : c < d := h2 d hd
   simp only [wthL]
   split
   ·rfl
   ·simp only [lookK]
    rw [if_neg (by omega)]
/-! ### Set -/
def setR (c k : Int) : List Cr → List Cr
 | [] => cond (k == 0) [] [(c / 3, c % 3, k)]
 | x :: r => cond (ltb (cdC x) c) (x :: setR c k r) (cond (cdC x == c) (cond (k == 0) r ((c / 3, c % 3, k) :: r)) (cond (k == 0) (x :: r) ((c / 3, c % 3, k) :: x :: r)))
def getR (c : Int) : List Cr → Int
 | [] => 0
 | x :: r => cond (ltb (cdC x) c) (getR c r) (cond (cdC x == c) x.2.2 0)
def lbF (c : Int) (l : List Cr) : Bool := decide (lbN c l < l.length) && (cdC (l[lbN c l]?.getD (0, 0, 0)) == c)
theorem lbF_eq (l : List Cr) (c e : Int) : fdB l c e = lbF (3 * c + e) l := by
 unfold fdB lbF lbI
 congr 1
 by_cases h : lbN (3 * c + e) l < l.length
 ·rw [decide_eq_true h, ltb_iff]; omega
 ·rw [decide_eq_false h, ltb_no]; omega
theorem lbN_cons (c : Int) (x : Cr) (r : List Cr) : lbN c (x :: r) = cond (ltb (cdC x) c) (lbN c r + 1) 0 := rfl
theorem lbF_cons (c : Int) (x : Cr) (r : List Cr) : lbF c (x :: r) = cond (ltb (cdC x) c) (lbF c r) (cdC x == c) := by
 unfold lbF
 rw [lbN_cons]
 cases ltb (cdC x) c
 ·simp
 ·simp
def putN (l : List Cr) (n : Nat) (f : Bool) (x : Cr) : List Cr := l.take n ++ (cond (x.2.2 == 0) [] [x] ++ l.drop (cond f (n + 1) n))
theorem put_setR (c k : Int) : ∀ (l : List Cr), putN l (lbN c l) (lbF c l) (c / 3, c % 3, k) = setR c k l
 | [] => by
  unfold putN setR
  simp
 | x :: r => by
  have ih := put_setR c k r
  unfold putN at ih ⊢
  rw [lbN_cons, lbF_cons]
  simp only [setR]
  cases ltb (cdC x) c
  ·simp only [cond_false, List.take_zero, List.nil_append]
   cases (cdC x == c) <;> cases (k == 0) <;> rfl
  ·simp only [cond_true]
   rw [← ih, List.take_succ_cons, List.cons_append]
   congr 3
   cases lbF c r <;> simp
theorem putL_eq (l : List Cr) (n : Nat) (f : Bool) (x : Cr) : putL l n f x = putN l n f x := by
 unfold putL putN bI
 rw [Int.toNat_natCast]
 cases f
 ·simp
 ·simp only [cond_true]
  rw [show ((n : Int) + 1).toNat = n + 1 by omega]
theorem cK_getR (c : Int) : ∀ (l : List Cr), cond (lbF c l) (cK l (lbN c l : Nat)) 0 = getR c l
 | [] => by unfold getR; simp [lbF]
 | x :: r => by
  have ih := cK_getR c r
  rw [lbN_cons, lbF_cons]
  simp only [getR]
  cases ltb (cdC x) c
  ·simp only [cond_false]
   cases (cdC x == c)
   ·rfl
   ·simp [cK]
  ·simp only [cond_true]
   rw [← ih]
   unfold cK
   cases lbF c r
   ·rfl
   ·simp only [cond_true, Int.toNat_natCast]
    rw [List.getElem?_cons_succ]
theorem setR_above {c k : Int} : ∀ {l : List Cr}, (∀ x ∈ l, c < cdC x) → setR c k l = cond (k == 0) l ((c / 3, c % 3, k) :: l)
 | [], _ => rfl
 | x :: r, h => by
  have := h x (by simp)
  have h1 : ltb (cdC x) c = false := by rw [ltb_no]; omega
  have h2 : (cdC x == c) = false := by rw [beq_eq_false_iff_ne]; omega
  simp only [setR, h1, h2, cond_false]
theorem getR_above {c : Int} : ∀ {l : List Cr}, (∀ x ∈ l, c < cdC x) → getR c l = 0
 | [], _ => rfl
 | x :: r, h => by
  have := h x (by simp)
  have h1 : ltb (cdC x) c = false := by rw [ltb_no]; omega
  have h2 : (cdC x == c) = false := by rw [beq_eq_false_iff_ne]; omega
  simp only [getR, h1, h2, cond_false]
theorem wthL_above {d : Int} {us ks : List Int} (h : ∀ x ∈ us, d < x) : ∀ x ∈ wthL us ks, d < cdC x := fun x hx => h _ (wthL_mem hx).1
theorem setR_wthL : ∀ {us ks : List Int} {j : Nat} {c k : Int}, asc us → ks.length = us.length → us[j]? = some c → setR c k (wthL us ks) = wthL us (ks.set j k)
 | [], ks, j, c, k, _, _, h => by simp at h
 | d :: us, [], j, c, k, _, h, _ => by simp at h
 | d :: us, q :: ks, 0, c, k, ha, hl, h => by
  obtain ⟨h1, h2⟩ := asc_tail ha
  have hdc : d = c := by simpa using h
  subst hdc
  simp only [List.set_cons_zero, wthL]
  have hab := wthL_above (ks := ks) h2
  by_cases hq : q = 0
  ·rw [if_pos hq, setR_above hab]
   by_cases hk : k = 0
   ·rw [if_pos hk, hk]; rfl
   ·rw [if_neg hk, beq_eq_false_iff_ne.2 hk]; rfl
  ·rw [if_neg hq]
   have e1 : ltb (cdC (d / 3, d % 3, q)) d = false := by rw [ltb_no, cd_of]; omega
   have e2 : (cdC (d / 3, d % 3, q) == d) = true := by rw [beq_iff_eq, cd_of]
   simp only [setR, e1, e2, cond_false, cond_true]
   by_cases hk : k = 0
   ·rw [if_pos hk, hk]; rfl
   ·rw [if_neg hk, beq_eq_false_iff_ne.2 hk]; rfl
 | d :: us, q :: ks, j + 1, c, k, ha, hl, h => by
  obtain ⟨h1, h2⟩ := asc_tail ha
  have hj : us[j]? = some c := by simpa using h
  have ih := setR_wthL (us := us) (ks := ks) (j := j) (c := c) (k := k) h1 (by simpa using hl) hj
  have hdc : d < c := h2 c (List.mem_of_getElem? hj)
  simp only [List.set_cons_succ, wthL]
  by_cases hq : q = 0
  ·rw [if_pos hq, if_pos hq, ih]
  ·rw [if_neg hq, if_neg hq]
   have e1 : ltb (cdC (d / 3, d % 3, q)) c = true := by rw [ltb_iff, cd_of]; exact hdc
   simp only [setR, e1, cond_true, ih]
theorem getR_wthL : ∀ {us ks : List Int} {j : Nat} {c : Int}, asc us → ks.length = us.length → us[j]? = some c → getR c (wthL us ks) = ks[j]?.getD 0
 | [], ks, j, c, _, _, h => by simp at h
 | d :: us, [], j, c, _, h, _ => by simp at h
 | d :: us, q :: ks, 0, c, ha, hl, h => by
  obtain ⟨h1, h2⟩ := asc_tail ha
  have hdc : d = c := by simpa using h
  subst hdc
  simp only [wthL]
  have hab := wthL_above (ks := ks) h2
  by_cases hq : q = 0
  ·rw [if_pos hq, getR_above hab, hq]; rfl
  ·rw [if_neg hq]
   have e1 : ltb (cdC (d / 3, d % 3, q)) d = false := by rw [ltb_no, cd_of]; omega
   have e2 : (cdC (d / 3, d % 3, q) == d) = true := by rw [beq_iff_eq, cd_of]
   simp only [getR, e1, e2, cond_false, cond_true]
   rfl
 | d :: us, q :: ks, j + 1, c, ha, hl, h => by
  obtain ⟨h1, h2⟩ := asc_tail ha
  have hj : us[j]? = some c := by simpa using h
  have ih := getR_wthL (us := us) (ks := ks) (j := j) (c := c) h1 (by simpa using hl) hj
  have hdc : d < c := h2 c (List.mem_of_getElem? hj)
  simp only [wthL, List.getElem?_cons_succ]
  by_cases hq : q = 0
  ·rw [if_pos hq, ih]
  ·rw [if_neg hq]
   have e1 : ltb (cdC (d / 3, d % 3, q)) c = true := by rw [ltb_iff, cd_of]; exact hdc
   simp only [getR, e1, cond_true, ih]
/-! ### The check -/
/-- Kinds of a sheet's units. -/
def kds (w h : Int) (ks : List Int) : Prop := ks.length = (units w h).length ∧ ∀ k ∈ ks, 0 ≤ k ∧ k ≤ 3
/-- A pattern of kinds. -/
def vP (w h : Int) (l : List Cr) : Prop := ∃ ks, kds w h ks ∧ l = wthL (units w h) ks
theorem vP_mem {w h : Int} {l : List Cr} (hv : vP w h l) {x : Cr} (hx : x ∈ l) : cdC x ∈ units w h ∧ x.1 = cdC x / 3 ∧ x.2.1 = cdC x % 3 ∧ 1 ≤ x.2.2 ∧ x.2.2 ≤ 3 := by
 obtain ⟨ks, ⟨h1, h2⟩, rfl⟩ := hv
 obtain ⟨a, b, c, d, e⟩ := wthL_mem hx
 have := h2 _ d
 exact ⟨a, b, c, by omega, by omega⟩
theorem vP_edg {w h : Int} {l : List Cr} (hv : vP w h l) : edg l := fun x hx => by
 obtain ⟨-, -, h3, -, -⟩ := vP_mem hv hx
 omega
theorem vP_len {w h : Int} {l : List Cr} (hs : s5 w h) (hv : vP w h l) : l.length ≤ 300 := by
 obtain ⟨ks, -, rfl⟩ := hv
 have := wthL_len (units w h) ks
 have := units_len hs
 omega
theorem units_mem {w h c : Int} (hs : s5 w h) (hc : c ∈ units w h) : hasB w h (c / 3) = true ∧ c / 3 < nbI w h (c / 3) (c % 3) ∧ 0 ≤ c := by
 have h1 := unL_mem hc
 have := s5_len hs
 have h3 : ((3 * (4 * w * h).toNat : Nat) : Int) = 3 * (4 * w * h) := by omega
 refine ⟨hasB_iff.2 ⟨by omega, by omega⟩, ?_, h1.1⟩
 have h2 := h1.2.2
 unfold unB at h2
 exact ltb_iff.1 h2
theorem units_of {w h c : Int} (hs : s5 w h) (h0 : hasB w h (c / 3) = true) (h1 : c / 3 < nbI w h (c / 3) (c % 3)) : c ∈ units w h := by
 have := s5_len hs
 have hb := hasB_iff.1 h0
 unfold units unL
 rw [List.mem_filter, List.mem_map]
 refine ⟨⟨c.toNat, List.mem_range.2 (by omega), ?_⟩, ?_⟩
 ·show ((c.toNat : Nat) : Int) = c
  omega
 ·unfold unB; exact ltb_iff.2 h1
theorem vP_unit {w h : Int} {l : List Cr} (hs : s5 w h) (hv : vP w h l) {x : Cr} (hx : x ∈ l) : unitB w h x = true := by
 obtain ⟨h1, h2, h3, h4, h5⟩ := vP_mem hv hx
 obtain ⟨u1, u2, u3⟩ := units_mem hs h1
 rw [← h2, ← h3] at u2
 rw [← h2] at u1
 unfold unitB okN okI
 rw [okS_of hs, u1]
 have hb := hasB_iff.1 u1
 simp only [Bool.true_and, Bool.and_eq_true, decide_eq_true_eq, leb_iff]
 omega
theorem pw_asc : ∀ (l : List Cr), (∀ x ∈ l, 0 ≤ x.2.1 ∧ x.2.1 ≤ 2) → l.Pairwise (fun x y => cdC x < cdC y) → ascB l = true
 | [], _, _ => rfl
 | [x], _, _ => rfl
 | x :: y :: r, he, h => by
  have h1 := List.pairwise_cons.1 h
  have ih := pw_asc (y :: r) (fun z hz => he z (by simp at hz ⊢; exact .inr hz)) h1.2
  have hxy := (ord_cd (he x (by simp)) (he y (by simp))).1.2 (h1.1 y (by simp))
  simp only [ascB, Bool.and_eq_true] at ih ⊢
  exact ⟨ltb_iff.2 hxy, ih⟩
theorem vP_pw {w h : Int} {l : List Cr} (hv : vP w h l) : l.Pairwise (fun x y => cdC x < cdC y) := by
 obtain ⟨ks, -, rfl⟩ := hv
 exact wthL_pw (units_asc w h)
theorem vP_chk {w h : Int} {l : List Cr} (hs : s5 w h) (hv : vP w h l) : chkI w h l = 0 := by
 have h1 : badL l = false := by
  unfold badL
  rw [List.any_eq_false]
  intro x hx
  obtain ⟨-, -, -, h4, h5⟩ := vP_mem hv hx
  rw [kdB_iff.2 ⟨h4, h5⟩]; simp
 have h2 : l.all (unitB w h) = true := List.all_eq_true.2 fun x hx => vP_unit hs hv hx
 have h3 : ascB l = true := pw_asc l (fun x hx => by obtain ⟨-, -, h3, -, -⟩ := vP_mem hv hx; omega) (vP_pw hv)
 unfold chkI
 rw [okS_of hs, h1, h2, h3]; rfl
end Go.Proofs.YtfpcbimohikhmaaDoor.X
