/-
 The contracts of look up and set of a pattern.
-/
import Derived.Test.YtfpcbimohikhmaaDoorC5Z
set_option maxRecDepth 1000000
set_option linter.unusedVariables false
set_option linter.unusedSimpArgs false
namespace Go.Proofs.YtfpcbimohikhmaaDoor.X
open Go Go.Ab

theorem asc_pw : ∀ (l : List Cr), (∀ x ∈ l, 0 ≤ x.2.1 ∧ x.2.1 ≤ 2) → ascB l = true → l.Pairwise (fun x y => cdC x < cdC y)
 | [], _, _ => .nil
 | [x], _, _ => by simp
 | x :: y :: r, he, h => by
  simp only [ascB, Bool.and_eq_true] at h
  have ih := asc_pw (y :: r) (fun z hz => he z (by simp at hz ⊢; exact .inr hz)) (by simp only [ascB, Bool.and_eq_true]; exact h.2)
  have hxy : cdC x < cdC y := by
   have h1 := h.1
   rw [ltb_iff] at h1
   exact (ord_cd (he x (by simp)) (he y (by simp))).1.1 h1
  refine List.pairwise_cons.2 ⟨fun z hz => ?_, ih⟩
  rcases List.mem_cons.1 hz with rfl | hz
  ·exact hxy
  ·have := (List.pairwise_cons.1 ih).1 z hz
   omega
theorem chk_ok {w h : Int} {l : List Cr} (hg : edg l) (hc : chkI w h l = 0) : srt l ∧ okS w h = true ∧ badL l = false ∧ l.all (unitB w h) = true ∧ ascB l = true := by
 unfold chkI at hc
 rcases bool_or (okS w h) with h1 | h1 <;> rw [h1] at hc
 ·rcases bool_or (badL l) with h2 | h2 <;> rw [h2] at hc
  ·simp at hc
  ·rcases bool_or (l.all (unitB w h)) with h3 | h3 <;> rw [h3] at hc
   ·rcases bool_or (ascB l) with h4 | h4 <;> rw [h4] at hc
    ·have hu : ∀ x ∈ l, sml x.1 ∧ 0 ≤ x.1 ∧ x.2.1 ≤ 2 ∧ x.1 < 1024 := fun x hx => unit_sml (List.all_eq_true.1 h3 x hx) (hg x hx).1
     exact ⟨⟨asc_pw l (fun x hx => ⟨(hg x hx).1, (hu x hx).2.2.1⟩) h4, fun x hx => ⟨(hu x hx).1, (hg x hx).1, (hu x hx).2.2.1⟩⟩, h1, h2, h3, h4⟩
    ·simp at hc
   ·simp at hc
 ·simp at hc
theorem nm_ok {w h i e : Int} (he : 0 ≤ e) (hn : neE w h i e = 0) : sml (nmC w h i e) ∧ 0 ≤ nmE w h i e ∧ nmE w h i e ≤ 2 ∧ nmE w h i e = e ∧ nmC w h i e = min i (nbI w h i e) ∧ 0 ≤ nmC w h i e := by
 have h0 := neE_ok.2 hn
 unfold nmC nmE
 rw [h0]
 unfold okN okI at h0
 simp only [Bool.and_eq_true, decide_eq_true_eq, leb_iff] at h0
 obtain ⟨⟨h1, h2⟩, h3, h4⟩ := h0
 have := cell_ok h1 h2
 simp only [bI, cond_true]
 unfold sml
 refine ⟨by omega, by omega, by omega, trivial, trivial, by omega⟩
theorem sp50 (w h : Int) (l : List Cr) (i e : Int) (hz : l.length < 1000000000) (hg : edg l) (he : 0 ≤ e) : SpecP Tryd.prog G 50 [patV w h l, .int .i64 i, .int .u8 e] (.tup [.agg [.int .i64 (atC w h l i e), .int .u8 (atD w h l i e)], .int .i64 (atI w h l i e), .bool (atF w h l i e), .int .i64 (atE w h l i e)]) [] := by
 refine fnP_spec hcm hmx CP6ok ok50 rfl (ob_o50 w h l i e) ?_
 rw [unC_flat]
 unfold atC atD atI atF atB atE
 refine ⟨⟨okA_flat hz, hg⟩, fun h0 => ?_, fun h0 => ⟨he, fun h1 => ?_, fun h1 => ?_⟩⟩
 ·have h0' : (chkI w h l == 0) = false := by rw [beq_eq_false_iff_ne]; simpa using h0
  simp only [bne_iff_ne, ne_eq] at h0
  simp [h0', h0, bI]
 ·have h0' : chkI w h l = 0 := by simpa using h0
  have h1' : (neE w h i e == 0) = false := by rw [beq_eq_false_iff_ne]; simpa using h1
  simp [h0', h1', bI]
 ·have h0' : chkI w h l = 0 := by simpa using h0
  have h1' : neE w h i e = 0 := by simpa using h1
  have := nm_ok he h1'
  rw [h0', h1']
  simp only [beq_self_eq_true, cond_true, bI, Bool.true_and, and_true]
  exact ⟨okA_flat hz, (chk_ok hg h0').1, this.1, this.2.1, this.2.2.1⟩
theorem ct50 : CtOk Tryd.prog G 50 e50 := by
 intro args r h hp
 unfold e50 at h
 split at h <;> cases h
 rename_i w h a n _ i e
 obtain ⟨⟨h1, h2, h3⟩, h4, h5, h6⟩ := hp
 generalize unC a = l at *
 subst h1 h2
 exact (sp50 _ _ _ _ _ h3 h4 h5).caps
theorem cP7ok : CtsOk Tryd.prog G cP7' := ⟨ct50, cP6ok⟩
theorem CP7ok : TabOk Tryd.prog G CP7 := tabL_ok noCh_ok cP7ok
theorem lbN_le (c : Int) : ∀ (l : List Cr), lbN c l ≤ l.length
 | [] => by simp [lbN]
 | x :: l => by
  have := lbN_le c l
  simp only [lbN]
  cases ltb (cdC x) c <;> simp <;> omega
theorem at_le {w h : Int} {l : List Cr} {i e : Int} : 0 ≤ atI w h l i e ∧ atI w h l i e ≤ l.length ∧ (atF w h l i e = true → atI w h l i e < l.length) := by
 unfold atI atF
 rcases bool_or (atB w h l i e) with h0 | h0 <;> rw [h0]
 ·have := lbN_le (3 * nmC w h i e + nmE w h i e) l
  refine ⟨by simp only [bI, cond_true, lbI]; omega, by simp only [bI, cond_true, lbI]; omega, fun hf => ?_⟩
  simp only [Bool.true_and, fdB, Bool.and_eq_true, ltb_iff] at hf
  exact hf.1
 ·exact ⟨by simp [bI], by simp [bI], fun h => by simp at h⟩
theorem sp16 (w h : Int) (l : List Cr) (i e : Int) (hz : l.length < 1000000000) (hg : edg l) (he : 0 ≤ e ∧ e ≤ 255) : SpecP Tryd.prog G 16 [patV w h l, .int .i64 i, .int .u8 e] (.tup [.int .u8 (knI w h l i e), .int .i64 (atE w h l i e)]) [] := by
 refine fnP_spec hcm hmx CP7ok ok16 rfl (ob_o16 w h l i e) ?_
 rw [unC_flat]
 obtain ⟨a1, a2, a3⟩ := at_le (w := w) (h := h) (l := l) (i := i) (e := e)
 refine ⟨⟨okA_flat hz, hg, he⟩, fun h0 => ?_, fun h0 => ⟨fun h1 => ?_, fun h1 => ?_⟩⟩
 ·have : atF w h l i e = false := by
   unfold atF atB
   have : (atE w h l i e == 0) = false := by rw [beq_eq_false_iff_ne]; simpa using h0
   rw [this]; rfl
  unfold knI; rw [this]; exact ⟨rfl, rfl, trivial⟩
 ·have : atF w h l i e = false := by simpa using h1
  unfold knI; rw [this]; exact ⟨rfl, rfl, trivial⟩
 ·have hf : atF w h l i e = true := by simpa using h1
  have h3 := a3 hf
  have h0' : atE w h l i e = 0 := by simpa using h0
  obtain ⟨n, hn⟩ := Int.eq_ofNat_of_zero_le a1
  have g1 : n < l.length := by omega
  refine ⟨by simp; omega, by simp; omega, by simp only [ltn_iff, size_vals]; rw [flatC_len]; omega, ?_, ?_, h0'.symm, trivial⟩
  ·rw [hn]; exact (cgetd g1).2.2
  ·unfold knI; rw [hf]; rfl
theorem sp52 (a : List AV) (n : Nat) (h : a.length = n * 3) : SpecP Tryd.prog G 52 [.imm (.vals a) n none] (.imm (.vals a) n (some n)) [] := by
 refine fnP_spec hcm hmx T0ok ok52 rfl (ob_o52 a n) ?_
 simp [h]
theorem ct52 : CtOk Tryd.prog G 52 e52 := by
 intro args r h hp
 unfold e52 at h
 split at h <;> cases h
 exact (sp52 _ _ hp.1).caps
theorem cP8ok : CtsOk Tryd.prog G cP8' := ⟨ct52, cP7ok⟩
theorem CP8ok : TabOk Tryd.prog G CP8 := tabL_ok noCh_ok cP8ok
theorem flatC_take : ∀ (l : List Cr) (n : Nat), (flatC l).take (n * 3) = flatC (l.take n)
 | [], n => by simp [flatC]
 | x :: l, 0 => by simp [flatC]
 | x :: l, n + 1 => by
  have ih := flatC_take l n
  rw [List.take_succ_cons]
  have e1 : flatC (x :: l) = RCr.av x ++ flatC l := by unfold flatC; rw [List.flatMap_cons]
  have e2 : flatC (x :: l.take n) = RCr.av x ++ flatC (l.take n) := by unfold flatC; rw [List.flatMap_cons]
  rw [e1, e2, List.take_append, List.take_of_length_le (by rw [RCr.av_len]; show 3 ≤ _; omega), RCr.av_len, ← ih]
  congr 2
  show (n + 1) * 3 - 3 = _
  omega
theorem flatC_drop : ∀ (l : List Cr) (n : Nat), (flatC l).drop (n * 3) = flatC (l.drop n)
 | [], n => by simp [flatC]
 | x :: l, 0 => by simp [flatC]
 | x :: l, n + 1 => by
  have ih := flatC_drop l n
  rw [List.drop_succ_cons]
  have e1 : flatC (x :: l) = RCr.av x ++ flatC l := by unfold flatC; rw [List.flatMap_cons]
  rw [e1, List.drop_append, List.drop_of_length_le (by rw [RCr.av_len]; show 3 ≤ _; omega), RCr.av_len, ← ih, List.nil_append]
  congr 1
  show (n + 1) * 3 - 3 = _
  omega
theorem sp15 (w h : Int) (l : List Cr) (i e k : Int) (hz : l.length < 1000000) (hg : edg l) (he : 0 ≤ e ∧ e ≤ 255) : SpecP Tryd.prog G 15 [patV w h l, .int .i64 i, .int .u8 e, .int .u8 k] (.tup [patI (seE w h l i e k == 0) w h (seL w h l i e k), .int .i64 (seE w h l i e k)]) [] := by
 refine fnP_spec hcm hmx CP8ok ok15 rfl (ob_o15 w h l i e k) ?_
 rw [unC_flat]
 obtain ⟨a1, a2, a3⟩ := at_le (w := w) (h := h) (l := l) (i := i) (e := e)
 obtain ⟨n, hn⟩ := Int.eq_ofNat_of_zero_le a1
 unfold seL
 refine ⟨⟨okA_flat (by omega), hg, he⟩, fun h0 => ?_, fun h0 => ⟨⟨fun h1 => ⟨fun h2 => ?_, fun h2 => ?_⟩, fun h1 => ?_⟩, ?_⟩⟩
 ·have h0' : (atE w h l i e == 0) = false := by rw [beq_eq_false_iff_ne]; simpa using h0
  have hE : seE w h l i e k = atE w h l i e := by unfold seE atB; rw [h0']; rfl
  rw [hE, h0']
  exact ⟨rfl, rfl, rfl, rfl, rfl, rfl, trivial⟩
 ·have h0' : (atE w h l i e == 0) = true := by simpa using h0
  have hE : seE w h l i e k = 1 := by
   have h1' : (k == 0) = false := by rw [beq_eq_false_iff_ne]; simpa using h1
   have h2' : kdB k = false := by simpa using h2
   unfold seE atB; rw [h0', h1', h2']; rfl
  rw [hE]
  exact ⟨rfl, rfl, rfl, rfl, rfl, rfl, trivial⟩
 ·simp only [true_and, and_true]
  have h2' : kdB k = true := by simpa using h2
  rw [h2', Bool.or_true]
 ·simp only [true_and, and_true]
  have h1' : k = 0 := by simpa using h1
  rw [h1']; rfl
 ·intro _ hk
  refine ⟨⟨fun hf => ?_, fun hf => ?_⟩, ?_⟩
  ·simp only [true_and, and_true, inR_i64]
   rw [hf]
   exact ⟨by omega, rfl⟩
  ·simp only [true_and, and_true]
   rw [hf]; rfl
  ·rintro ⟨j⟩ hj
   simp only at hj ⊢
   have h0' : (atE w h l i e == 0) = true := by simpa using h0
   have hE : seE w h l i e k = 0 := by unfold seE atB; rw [h0', hk]; rfl
   have hB : (seE w h l i e k == 0) = true := by rw [hE]; rfl
   have hj2 : 0 ≤ j ∧ j ≤ l.length ∧ atI w h l i e ≤ j := by
    rw [hj]
    rcases bool_or (atF w h l i e) with hf | hf <;> rw [hf]
    ·have := a3 hf
     simp only [bI, cond_true]; omega
    ·simp only [bI, cond_false]; omega
   obtain ⟨m, hm⟩ := Int.eq_ofNat_of_zero_le hj2.1
   have hL : seL w h l i e k = l.take n ++ (cond (k == 0) [] [(atC w h l i e, atD w h l i e, k)] ++ l.drop m) := by
    unfold seL putL
    rw [hB, cond_true, ← hj, hn, hm]; rfl
   unfold seL at hL
   rw [hL, hB, hE, hn, hm]
   clear hL
   simp only [Int.toNat_natCast, size_vals, flatC_take, flatC_drop, flatC_len, List.length_take, List.length_drop, List.nil_append, leb_iff, len'_iff, inR_i64, List.length_append]
   rw [hn] at a2 hj2
   rw [hm] at hj2
   refine ⟨by omega, by omega, by omega, by omega, trivial, by omega, by omega, fun hk0 => ?_, fun hk0 => ?_⟩
   ·have hk1 : (k == 0) = false := by rw [beq_eq_false_iff_ne]; simpa using hk0
    rw [hk1]
    simp only [cond_false]
    refine ⟨?_, ?_, ?_, ?_, ?_, ?_, ?_, ?_, ?_, ⟨?_, ?_⟩, rfl, rfl, ?_, ?_, ?_, ?_, ?_⟩
    all_goals first | trivial | omega | (simp only [List.length_cons, List.length_nil]; omega) | (rw [flatC_app, flatC_app, List.append_assoc]; rfl)
   ·have hk1 : (k == 0) = true := by rw [beq_iff_eq]; simpa using hk0
    rw [hk1]
    simp only [cond_true]
    refine ⟨?_, ?_, ?_, ?_, ?_, ?_, ?_, ⟨?_, ?_⟩, rfl, rfl, ?_, ?_, ?_, ?_, ?_⟩
    all_goals first | trivial | omega | (simp only [List.length_cons, List.length_nil]; omega) | (rw [flatC_app, List.nil_append])
end Go.Proofs.YtfpcbimohikhmaaDoor.X
