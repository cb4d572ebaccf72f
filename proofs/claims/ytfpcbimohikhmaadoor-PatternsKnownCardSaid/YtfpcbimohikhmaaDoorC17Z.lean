/-
 The law Same.
-/
import Derived.Test.YtfpcbimohikhmaaDoorC13Z
import Derived.Test.YtfpcbimohikhmaaDoorC7Z
import Derived.Test.YtfpcbimohikhmaaDoorO10Z
set_option maxRecDepth 1000000
set_option linter.unusedVariables false
set_option linter.unusedSimpArgs false
namespace Go.Proofs.YtfpcbimohikhmaaDoor.X
open Go Go.Ab

theorem ct22g : CtOk Tryd.prog G 22 e22g := by
 intro args r h hp
 unfold e22g at h
 split at h <;> cases h
 rename_i w h a n _ w' h' b m _
 obtain ⟨⟨h1, h2, h3⟩, h4, h5, h6⟩ := hp
 generalize unC a = l at *
 generalize unC b = l' at *
 subst h1 h2 h4 h5
 exact (sp22 _ _ _ _ _ _ h3).caps
theorem cT7ok : CtsOk Tryd.prog G cT7' := ⟨ct14, ct22g, ct32, ct33, ct34, ct18, trivial⟩
theorem TB7ok : TabOk Tryd.prog G TB7 := tabL_ok noCh_ok cT7ok
theorem modL_len (l : List Cr) (i v : Int) : (modL l i v).length = l.length := by unfold modL; rw [List.length_set]
theorem dif_eq (w h w' h' : Int) (a b : List Cr) : (difI w h w' h' a b == 0) = (shEq w h w' h' && eqC a b) := by
 unfold difI shEq
 by_cases h1 : w = w' <;> by_cases h2 : h = h' <;> cases eqC a b <;> simp [h1, h2]
theorem fitL_refl : ∀ (l : List Cr), fitL l l = true
 | [] => rfl
 | x :: l => by
  have h : fitB x x = true := by unfold fitB; simp
  show (fitB x x && fitL l l) = true
  rw [fitL_refl l, h]; rfl
theorem fit_sym : ∀ {a b : List Cr}, fitL a b = true → fitL b a = eqC a b
 | [], [], _ => rfl
 | [], _ :: _, h => by simp [fitL] at h
 | _ :: _, [], h => by simp [fitL] at h
 | x :: a, y :: b, h => by
  have h' : (fitB x y && fitL a b) = true := h
  rw [Bool.and_eq_true] at h'
  have ih := fit_sym h'.2
  have e1 : eqC (x :: a) (y :: b) = (decide (x = y) && eqC a b) := by
   unfold eqC
   rw [← Bool.decide_and]
   exact decide_eq_decide.2 (by rw [List.cons.injEq])
  have e2 : fitB y x = decide (x = y) := by
   obtain ⟨x1, x2, x3⟩ := x
   obtain ⟨y1, y2, y3⟩ := y
   have hf := h'.1
   unfold fitB at hf ⊢
   simp only [Bool.and_eq_true, beq_iff_eq, Bool.or_eq_true] at hf
   obtain ⟨⟨rfl, rfl⟩, hk⟩ := hf
   rcases hk with rfl | rfl
   ·simp
   ·by_cases h3 : x3 = 3
    ·simp [h3]
    ·simp [h3, Ne.symm h3]
  show (fitB y x && fitL b a) = _
  rw [ih, e1, e2]
theorem cnt_cons (x : Cr) (l : List Cr) (k : Int) : cntN (x :: l) k = cntN l k + (if x.2.2 = k then 1 else 0) := by
 unfold cntN; rw [List.countP_cons]; simp
theorem cnt_sum : ∀ {l : List Cr}, (∀ x ∈ l, 1 ≤ x.2.2 ∧ x.2.2 ≤ 3) → cntN l 1 + cntN l 2 + cntN l 3 = l.length ∧ cntN l 0 = 0 ∧ cntN l 4 = 0
 | [], _ => ⟨rfl, rfl, rfl⟩
 | x :: l, h => by
  obtain ⟨i1, i2, i3⟩ := cnt_sum (l := l) fun y hy => h y (by simp [hy])
  have hx := h x (by simp)
  rw [cnt_cons, cnt_cons, cnt_cons, cnt_cons, cnt_cons, List.length_cons]
  have : x.2.2 = 1 ∨ x.2.2 = 2 ∨ x.2.2 = 3 := by omega
  rcases this with h | h | h <;> rw [h] <;> simp <;> omega
theorem cum_le (l : List Cr) : ∀ n, cumF l n ≤ n * l.length
 | 0 => by simp [cumF]
 | n + 1 => by
  have := cum_le l n
  have := cntN_le l ((n + 1 : Nat) : Int)
  simp only [cumF]
  rw [Nat.succ_mul]; omega
set_option maxHeartbeats 2000000 in
theorem sp7 (W H W2 H2 p q : Int) (ks ks2 : List Int) (h1 : 0 ≤ W ∧ W ≤ 255) (h2 : 0 ≤ H ∧ H ≤ 255) (hu : u8s ks) (g1 : 0 ≤ W2 ∧ W2 ≤ 255) (g2 : 0 ≤ H2 ∧ H2 ≤ 255) (gu : u8s ks2) (hp : 0 ≤ p ∧ p ≤ 255) (hq : 0 ≤ q ∧ q ≤ 255) :
  SpecP Tryd.prog G 7 [patP W H ks, patP W2 H2 ks2, .agg [.int .u8 p, .int .u8 q]] (.bool true) [] := by
 refine fnP_spec hcm hmx TB7ok ok7 rfl (ob_o7 W H W2 H2 p q ks ks2) ?_
 dsimp -failIfUnchanged -proj -eta -iota -zeta only
 have hs := (dims_ok h1 h2).1
 have gs := (dims_ok g1 g2).1
 have hv := of_vP h1 h2 hu
 have gv := of_vP g1 g2 gu
 generalize ofL W H ks = A at *
 generalize ofL W2 H2 ks2 = B0 at *
 generalize dim W = w at *
 generalize dim H = h at *
 generalize dim W2 = w2 at *
 generalize dim H2 = h2' at *
 have lA := vP_len hs hv
 have lB := vP_len gs gv
 have kA : okA (flatC A) A.length := okA_flat (by omega)
 have kB0 : okA (flatC B0) B0.length := okA_flat (by omega)
 obtain ⟨c1, c2, c3⟩ := cnt_sum (l := A) fun x hx => by obtain ⟨-, -, -, h4, h5⟩ := vP_mem hv hx; exact ⟨h4, h5⟩
 have ep : p.tmod 3 = p % 3 := Int.tmod_eq_emod_of_nonneg hp.1
 have ed : p.tdiv 3 = p / 3 := Int.tdiv_eq_ediv_of_nonneg hp.1
 have em : (p / 3).tmod 3 = p / 3 % 3 := Int.tmod_eq_emod_of_nonneg (by omega)
 simp only [true_and, and_true, imp_self, implies_true]
 refine ⟨⟨h1.1, h1.2, h2.1, h2.2, hu⟩, ⟨g1.1, g1.2, g2.1, g2.2, gu⟩, by cases ltb 0 (p.tmod 3) <;> rfl, fun hc => ?_, fun hc => ?_⟩
 ·have hcS : cS p A = true := hc
  have hlen : 0 < A.length := by
   unfold cS at hcS
   cases hx : ltb 0 (p.tmod 3) with
   | true => rw [hx, cond_true, ltb_iff] at hcS; omega
   | false => rw [hx] at hcS; simp at hcS
  have eq' : q.tmod (A.length : Int) = ((q.toNat % A.length : Nat) : Int) := by
   rw [Int.tmod_eq_emod_of_nonneg hq.1, Int.natCast_emod, Int.toNat_of_nonneg hq.1]
  have gi : q.toNat % A.length < A.length := Nat.mod_lt _ hlen
  have hBB : bS p q A B0 = modL A ((q.toNat % A.length : Nat) : Int) (1 + p / 3 % 3) := by
   unfold bS; rw [hcS, eq', ed, em]; rfl
  rw [hBB, hcS, ed, em, eq']
  generalize q.toNat % A.length = i at *
  have hset : List.set (flatC A) (Int.toNat (i : Int) * 3 + 2) (AV.int .u8 (1 + p / 3 % 3)) = flatC (modL A (i : Int) (1 + p / 3 % 3)) := by
   rw [Int.toNat_natCast, set2 gi]; unfold modL; rw [Int.toNat_natCast]
  rw [hset]
  have hBl := modL_len A (i : Int) (1 + p / 3 % 3)
  generalize modL A (i : Int) (1 + p / 3 % 3) = B at *
  have kB : okA (flatC B) B.length := okA_flat (by omega)
  have kB' := kB
  rw [hBl] at kB'
  have hrf : shEq w h w h = true := by unfold shEq; simp
  simp only [unC_flat, fitL_refl, dif_eq, bI, cond_true, hrf]
  simp only [ltb_iff, ltb_no, leb_iff, leb_no, inR_i64, inR_u8, and_true, true_and, ltn_iff, len'_iff, size_vals, Int.toNat_natCast, flatC_len, imp_self]
  refine ⟨⟨h1.1, h1.2, h2.1, h2.2, hu⟩, by omega, by rw [Bool.not_eq_true', beq_eq_false_iff_ne]; omega, by omega, by omega, by omega, by omega, by omega, by omega, by omega, ?_⟩

  refine ⟨⟨kA, kB'⟩, ⟨fun hb => ?_, fun hb => ?_⟩, ?_⟩
  ·simp [hBl]
  ·simp at hb
  rintro ⟨v⟩ hv
  simp only at hv ⊢
  have hdrop : A.length = B.length → fitL (List.drop A.length A) (List.drop A.length B) = true := fun he => by
   rw [List.drop_length, he, List.drop_length]; rfl
  have hfl : A.length ≠ B.length → fitL A B = false := fun hne => by
   cases hh : fitL A B with
   | false => rfl
   | true => exact absurd (fitL_len hh) hne
  refine ⟨⟨0, by simp, by omega, fun hf => ?_, fun hf => ?_⟩, ?_⟩
  ·rw [hv, Bool.and_eq_true, decide_eq_true_eq] at hf
   exact ⟨hf.2, by simp⟩
  ·rw [hv, Bool.and_eq_false_iff, decide_eq_false_iff_not] at hf
   rcases hf with hf | hf
   ·rw [hf]; rfl
   ·rw [hfl hf, Bool.and_false]
  rintro ⟨i, f⟩ ⟨n, hi, hn, ht, hf⟩
  simp only at hi ht hf ⊢
  subst hi
  simp only [Int.toNat_natCast]
  refine ⟨by cases ltb (n : Int) A.length <;> rfl, fun hb => ?_, fun hb => ?_⟩
  ·have hlt : n < A.length := by
    rcases bool_or (ltb (n : Int) A.length) with h | h
    ·rw [ltb_iff] at h; omega
    ·rw [h] at hb; cases hb
   have hft : f = true := by
    rcases bool_or (ltb (n : Int) A.length) with h | h
    ·rw [h, cond_true] at hb; exact hb
    ·rw [h] at hb; cases hb
   obtain ⟨t2, t3⟩ := ht hft
   have hlt2 : n < B.length := by omega
   obtain ⟨a1, a2, a3⟩ := cget' hlt
   obtain ⟨b1, b2, b3⟩ := cget' hlt2
   have hst := fitL_step hlt hlt2
   refine ⟨by omega, by omega, a1, a2, a3, by omega, by omega, b1, b2, b3, ?_, ?_⟩
   ·unfold fitB
    simp only
    cases (cC A n == cC B n) <;> cases (cE A n == cE B n) <;> cases (cK A n == cK B n) <;> cases (cK B n == 3) <;> simp
   rintro ⟨u⟩ hu'
   simp only at hu' ⊢
   refine ⟨by omega, ⟨n + 1, by omega, by omega, fun hx => ?_, fun hx => ?_⟩, by omega⟩
   ·rw [← hu', hx, Bool.true_and] at hst
    exact ⟨t2, by rw [← hst]; exact t3⟩
   ·rw [← hu', hx, Bool.false_and] at hst
    rw [← t3, hst, Bool.and_false]
  ·have hfin : f = (true && fitL A B) := by
    rcases bool_or f with h | h
    ·obtain ⟨t2, t3⟩ := ht h
     have hnn : n = A.length := by
      rcases bool_or (ltb (n : Int) A.length) with h5 | h5
      ·rw [h5, h] at hb; cases hb
      ·rw [ltb_no] at h5; omega
     subst hnn
     rw [hdrop t2] at t3
     rw [h, ← t3]
     rfl
    ·rw [h]; exact (hf h).symm
   have hsy : fitL A B = true → fitL B A = eqC A B := fit_sym
   have hkz : cntN A 0 = 0 ∧ cntN A 4 = 0 := ⟨c2, c3⟩
   rw [c2, c3, hfin]
   simp only [beq_self_eq_true, Bool.not_true, Bool.and_self, Int.natCast_zero, Int.add_zero]
   refine ⟨⟨kA, kB'⟩, rfl, ⟨kA, kB'⟩, rfl, ⟨kA, kA⟩, rfl, ⟨kA, kB'⟩, fun _ => ⟨kB', kA⟩, ?_, ?_, ⟨0, by simp, by omega, by simp [cumF]⟩, ?_⟩
   ·cases (true && fitL A B) <;> rfl
   ·rcases bool_or (true && fitL A B) with h | h
    ·have h' := h
     rw [Bool.and_eq_true] at h'
     rw [h, cond_true, hsy h'.2]
     simp
    ·rw [h]; rfl
   rintro ⟨k, s⟩ ⟨m, hk, hm3, hs'⟩
   simp only at hk hs' ⊢
   subst hk; subst hs'
   have hcu := cum_le A m
   have hcm : m * A.length ≤ 3 * A.length := Nat.mul_le_mul_right _ hm3
   refine ⟨fun h3 => ⟨⟨0, by simp, by omega, by simp [cntN]⟩, ?_⟩, fun h3 => ?_⟩
   ·rintro ⟨x, y⟩ ⟨n2, hx, hn2, hy⟩
    simp only at hx hy ⊢
    subst hx; subst hy
    simp only [Int.toNat_natCast, beq_iff_eq, beq_eq_false_iff_ne, ne_eq]
    have hle := cntN_le (A.take n2) ((m + 1 : Nat) : Int)
    rw [List.length_take] at hle
    refine ⟨fun hl => ?_, fun hl => ?_⟩
    ·have gx : n2 < A.length := by omega
     have hst := cntN_step ((m + 1 : Nat) : Int) gx
     refine ⟨by omega, by omega, (cget' gx).2.2, fun hkk => ?_, fun hkk => ?_⟩
     ·rw [if_pos hkk] at hst
      exact ⟨by omega, by omega, ⟨n2 + 1, by omega, by omega, by omega⟩, by omega⟩
     ·rw [if_neg hkk] at hst
      exact ⟨by omega, ⟨n2 + 1, by omega, by omega, by omega⟩, by omega⟩
    ·have hnn : n2 = A.length := by omega
     subst hnn
     rw [List.take_length] at hle ⊢
     have hcs : cumF A (m + 1) = cumF A m + cntN A ((m + 1 : Nat) : Int) := rfl
     exact ⟨kA, by simp, by omega, by omega, ⟨m + 1, by omega, by omega, by omega⟩, by omega⟩
   ·have hm : m = 3 := by omega
    subst hm
    have hc3 : cumF A 3 = 0 + cntN A 1 + cntN A 2 + cntN A 3 := rfl
    have hb3 : (((cumF A 3 : Nat) : Int) == (A.length : Int)) = true := by rw [beq_iff_eq]; omega
    exact ⟨hb3, hb3, kA, hb3, hb3, kA, hb3, by omega, hb3, hb3, trivial, trivial⟩
 ·have hcS : cS p A = false := hc
  have hBB : bS p q A B0 = B0 := by unfold bS; rw [hcS]; rfl
  rw [hBB, hcS]
  generalize B0 = B at *
  have hrf : shEq w h w h = true := by unfold shEq; simp
  have hco : shEq w2 h2' w h = shEq w h w2 h2' := by
   unfold shEq
   rw [BEq.comm (a := w2), BEq.comm (a := h2')]
  simp only [unC_flat, fitL_refl, dif_eq, bI, cond_false, hrf, hco]
  simp only [ltb_iff, ltb_no, leb_iff, leb_no, inR_i64, inR_u8, and_true, true_and, ltn_iff, len'_iff, size_vals, Int.toNat_natCast, flatC_len, imp_self]
  have hS : shEq w h w2 h2' = (w == w2 && h == h2') := rfl
  rw [← hS]
  generalize shEq w h w2 h2' = S at *

  refine ⟨⟨kA, kB0⟩, ⟨fun hb => ?_, fun hb => ?_⟩, ?_⟩
  ·rw [hb, Bool.true_and]; by_cases hl : A.length = B.length <;> simp [hl]; omega
  ·rw [hb]; rfl
  rintro ⟨v⟩ hv
  simp only at hv ⊢
  have hdrop : A.length = B.length → fitL (List.drop A.length A) (List.drop A.length B) = true := fun he => by
   rw [List.drop_length, he, List.drop_length]; rfl
  have hfl : A.length ≠ B.length → fitL A B = false := fun hne => by
   cases hh : fitL A B with
   | false => rfl
   | true => exact absurd (fitL_len hh) hne
  refine ⟨⟨0, by simp, by omega, fun hf => ?_, fun hf => ?_⟩, ?_⟩
  ·rw [hv, Bool.and_eq_true, decide_eq_true_eq] at hf
   exact ⟨hf.1, hf.2, by simp⟩
  ·rw [hv, Bool.and_eq_false_iff, decide_eq_false_iff_not] at hf
   rcases hf with hf | hf
   ·rw [hf]; rfl
   ·rw [hfl hf, Bool.and_false]
  rintro ⟨i, f⟩ ⟨n, hi, hn, ht, hf⟩
  simp only at hi ht hf ⊢
  subst hi
  simp only [Int.toNat_natCast]
  refine ⟨by cases ltb (n : Int) A.length <;> rfl, fun hb => ?_, fun hb => ?_⟩
  ·have hlt : n < A.length := by
    rcases bool_or (ltb (n : Int) A.length) with h | h
    ·rw [ltb_iff] at h; omega
    ·rw [h] at hb; cases hb
   have hft : f = true := by
    rcases bool_or (ltb (n : Int) A.length) with h | h
    ·rw [h, cond_true] at hb; exact hb
    ·rw [h] at hb; cases hb
   obtain ⟨t1, t2, t3⟩ := ht hft
   have hlt2 : n < B.length := by omega
   obtain ⟨a1, a2, a3⟩ := cget' hlt
   obtain ⟨b1, b2, b3⟩ := cget' hlt2
   have hst := fitL_step hlt hlt2
   refine ⟨by omega, by omega, a1, a2, a3, by omega, by omega, b1, b2, b3, ?_, ?_⟩
   ·unfold fitB
    simp only
    cases (cC A n == cC B n) <;> cases (cE A n == cE B n) <;> cases (cK A n == cK B n) <;> cases (cK B n == 3) <;> simp
   rintro ⟨u⟩ hu'
   simp only at hu' ⊢
   refine ⟨by omega, ⟨n + 1, by omega, by omega, fun hx => ?_, fun hx => ?_⟩, by omega⟩
   ·rw [← hu', hx, Bool.true_and] at hst
    exact ⟨t1, t2, by rw [← hst]; exact t3⟩
   ·rw [← hu', hx, Bool.false_and] at hst
    rw [← t3, hst, Bool.and_false]
  ·have hfin : f = (S && fitL A B) := by
    rcases bool_or f with h | h
    ·obtain ⟨t1, t2, t3⟩ := ht h
     have hnn : n = A.length := by
      rcases bool_or (ltb (n : Int) A.length) with h5 | h5
      ·rw [h5, h] at hb; cases hb
      ·rw [ltb_no] at h5; omega
     subst hnn
     rw [hdrop t2] at t3
     rw [h, ← t3]
     simpa using t1.symm
    ·rw [h]; exact (hf h).symm
   have hsy : fitL A B = true → fitL B A = eqC A B := fit_sym
   have hkz : cntN A 0 = 0 ∧ cntN A 4 = 0 := ⟨c2, c3⟩
   rw [c2, c3, hfin]
   simp only [beq_self_eq_true, Bool.not_true, Bool.and_self, Int.natCast_zero, Int.add_zero]
   refine ⟨⟨kA, kB0⟩, rfl, ⟨kA, kB0⟩, rfl, ⟨kA, kA⟩, rfl, ⟨kA, kB0⟩, fun _ => ⟨kB0, kA⟩, ?_, ?_, ⟨0, by simp, by omega, by simp [cumF]⟩, ?_⟩
   ·cases (S && fitL A B) <;> rfl
   ·rcases bool_or (S && fitL A B) with h | h
    ·have h' := h
     rw [Bool.and_eq_true] at h'
     rw [h, cond_true, hsy h'.2]
     simp
    ·rw [h]; rfl
   rintro ⟨k, s⟩ ⟨m, hk, hm3, hs'⟩
   simp only at hk hs' ⊢
   subst hk; subst hs'
   have hcu := cum_le A m
   have hcm : m * A.length ≤ 3 * A.length := Nat.mul_le_mul_right _ hm3
   refine ⟨fun h3 => ⟨⟨0, by simp, by omega, by simp [cntN]⟩, ?_⟩, fun h3 => ?_⟩
   ·rintro ⟨x, y⟩ ⟨n2, hx, hn2, hy⟩
    simp only at hx hy ⊢
    subst hx; subst hy
    simp only [Int.toNat_natCast, beq_iff_eq, beq_eq_false_iff_ne, ne_eq]
    have hle := cntN_le (A.take n2) ((m + 1 : Nat) : Int)
    rw [List.length_take] at hle
    refine ⟨fun hl => ?_, fun hl => ?_⟩
    ·have gx : n2 < A.length := by omega
     have hst := cntN_step ((m + 1 : Nat) : Int) gx
     refine ⟨by omega, by omega, (cget' gx).2.2, fun hkk => ?_, fun hkk => ?_⟩
     ·rw [if_pos hkk] at hst
      exact ⟨by omega, by omega, ⟨n2 + 1, by omega, by omega, by omega⟩, by omega⟩
     ·rw [if_neg hkk] at hst
      exact ⟨by omega, ⟨n2 + 1, by omega, by omega, by omega⟩, by omega⟩
    ·have hnn : n2 = A.length := by omega
     subst hnn
     rw [List.take_length] at hle ⊢
     have hcs : cumF A (m + 1) = cumF A m + cntN A ((m + 1 : Nat) : Int) := rfl
     exact ⟨kA, by simp, by omega, by omega, ⟨m + 1, by omega, by omega, by omega⟩, by omega⟩
   ·have hm : m = 3 := by omega
    subst hm
    have hc3 : cumF A 3 = 0 + cntN A 1 + cntN A 2 + cntN A 3 := rfl
    have hb3 : (((cumF A 3 : Nat) : Int) == (A.length : Int)) = true := by rw [beq_iff_eq]; omega
    exact ⟨hb3, hb3, kA, hb3, hb3, kA, hb3, by omega, hb3, hb3, trivial, trivial⟩
end Go.Proofs.YtfpcbimohikhmaaDoor.X
