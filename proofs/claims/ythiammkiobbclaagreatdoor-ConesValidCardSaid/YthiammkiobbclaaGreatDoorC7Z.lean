/-
 Cones: the contracts of folding, checking and deciding.
-/
import Derived.Test.YthiammkiobbclaaGreatDoorO7Z
import Derived.Test.YthiammkiobbclaaGreatDoorC6Z
import Derived.Test.YthiammkiobbclaaGreatDoorC4Z
set_option maxRecDepth 1000000
set_option linter.unusedVariables false
set_option linter.unusedSimpArgs false
namespace Go.Proofs.YthiammkiobbclaaGreatDoor.X
open Go Go.Ab

/-! ### Plain facts -/
theorem rayL_len : ∀ (a : List Int) (x : Int) (p : Bool), (rayL x p a).length = a.length + 1
 | [], x, p => rfl
 | a :: r, x, p => by simp only [rayL, List.length_cons, rayL_len r]
theorem raysL_len (a : List Int) : (raysL a).length = a.length + 1 := rayL_len a 0 true
def sgI (m : Nat) : Int := 1 - 2 * (m : Int).tmod 2
theorem sgI_0 : sgI 0 = 1 := rfl
theorem sgI_1 (m : Nat) : sgI (m + 1) = - sgI m := by
 unfold sgI
 rw [Int.tmod_eq_emod_of_nonneg (by omega), Int.tmod_eq_emod_of_nonneg (by omega)]
 omega
theorem rayL_get : ∀ (a : List Int) (x : Int) (p : Bool) (m : Nat), m < a.length → (rayL x p a)[m + 1]?.getD 0 = (rayL x p a)[m]?.getD 0 + a[m]?.getD 0 * ((bif p then 1 else -1) * sgI m)
 | [], x, p, m, h => by simp at h
 | a :: r, x, p, 0, h => by
  cases r with
  | nil => cases p <;> simp [rayL, sgI_0] <;> omega
  | cons b r => cases p <;> simp [rayL, sgI_0] <;> omega
 | a :: r, x, p, m + 1, h => by
  have := rayL_get r (bif p then x + a else x - a) (!p) m (by simpa using h)
  simp only [rayL, List.getElem?_cons_succ]
  rw [this, sgI_1]
  cases p <;> simp
theorem rays_step {a : List Int} {m : Nat} (h : m < a.length) : (raysL a).take (m + 2) = (raysL a).take (m + 1) ++ [((raysL a).take (m + 1))[m]?.getD 0 + a[m]?.getD 0 * (1 - 2 * (m : Int).tmod 2)] := by
 have hl := raysL_len a
 rw [List.take_add_one (i := m + 1)]
 have h1 : m + 1 < (raysL a).length := by omega
 have hg := rayL_get a 0 true m h
 have e : (raysL a)[m + 1]?.getD 0 = (raysL a)[m + 1] := by rw [List.getElem?_eq_getElem h1]; rfl
 have hg' : (raysL a)[m + 1] = (raysL a)[m]?.getD 0 + a[m]?.getD 0 * sgI m := by
  rw [← e]
  show (rayL 0 true a)[m + 1]?.getD 0 = (rayL 0 true a)[m]?.getD 0 + _
  rw [hg]; simp
 rw [List.getElem?_eq_getElem h1, hg', List.getElem?_take_of_lt (by omega)]
 rfl
theorem rayL_bd : ∀ (a : List Int) (x : Int) (p : Bool), (∀ y ∈ a, 1 ≤ y) → ∀ y ∈ rayL x p a, x - a.sum ≤ y ∧ y ≤ x + a.sum
 | [], x, p, h, y, hy => by
  simp only [rayL, List.mem_singleton] at hy
  subst hy; simp
 | a :: r, x, p, h, y, hy => by
  have ha := h a (List.mem_cons_self ..)
  have hr : 0 ≤ r.sum := sum_nonneg fun x hx => by have := h x (List.mem_cons_of_mem _ hx); omega
  simp only [rayL, List.mem_cons] at hy
  rw [List.sum_cons]
  rcases hy with rfl | hy
  ·omega
  ·have := rayL_bd r _ _ (fun z hz => h z (List.mem_cons_of_mem _ hz)) y hy
   cases p <;> simp at this <;> omega
theorem rays_bd {a : List Int} (h : okA a) : ∀ y ∈ raysL a, -8 ≤ y ∧ y ≤ 8 := fun y hy => by
 have := rayL_bd a 0 true h.1 y hy
 have := h.2
 omega
theorem okA_len {a : List Int} (h : okA a) : a.length ≤ 8 := by
 obtain ⟨h1, h2⟩ := h
 suffices ∀ l : List Int, (∀ x ∈ l, 1 ≤ x) → (l.length : Int) ≤ l.sum by have := this a h1; omega
 intro l
 induction l with
 | nil => simp
 | cons x l ih =>
  intro h
  have := ih fun y hy => h y (List.mem_cons_of_mem _ hy)
  have := h x (List.mem_cons_self ..)
  rw [List.length_cons, List.sum_cons]; omega
theorem sumP_bd : ∀ (p : Bool) (a : List Int), (∀ x ∈ a, 1 ≤ x) → 0 ≤ sumP p a ∧ sumP p a ≤ a.sum
 | p, [], h => by simp [sumP]
 | p, a :: r, h => by
  have ha := h a (List.mem_cons_self ..)
  have := sumP_bd (!p) r fun z hz => h z (List.mem_cons_of_mem _ hz)
  simp only [sumP, List.sum_cons]
  cases p <;> simp at this ⊢ <;> omega
theorem sumP_app : ∀ (p : Bool) (a b : List Int), sumP p (a ++ b) = sumP p a + sumP (xor p ((a.length : Nat) % 2 == 1)) b
 | p, [], b => by simp [sumP]
 | p, x :: a, b => by
  rw [List.cons_append]
  simp only [sumP]
  rw [sumP_app (!p) a b, List.length_cons]
  have : (xor (!p) (a.length % 2 == 1)) = xor p ((a.length + 1) % 2 == 1) := by
   have h2 : a.length % 2 = 0 ∨ a.length % 2 = 1 := by omega
   rcases h2 with h2 | h2
   ·have : (a.length + 1) % 2 = 1 := by omega
    rw [h2, this]; cases p <;> rfl
   ·have : (a.length + 1) % 2 = 0 := by omega
    rw [h2, this]; cases p <;> rfl
  rw [this]; omega
theorem sumP_take {p : Bool} {a : List Int} {m : Nat} (h : m < a.length) : sumP p (a.take (m + 1)) = sumP p (a.take m) + (bif xor p (m % 2 == 1) then a[m]?.getD 0 else 0) := by
 rw [List.take_add_one, List.getElem?_eq_getElem h, sumP_app, List.length_take, Nat.min_eq_left (by omega)]
 show _ + ((bif xor p (m % 2 == 1) then a[m] else 0) + 0) = _
 rw [Int.add_zero]; rfl
theorem altS_iff {a k : List Int} : altS a k = true ↔ chk a k = 0 ∧ altB a = true := by
 unfold altS; rw [Bool.and_eq_true, beq_iff_eq]
theorem ofE_0 {a k : List Int} (h : altS a k = true) : ofE a k = 0 := by
 obtain ⟨h1, h2⟩ := altS_iff.1 h
 unfold ofE; rw [if_pos h1, if_pos h2]
theorem ofE_no {a k : List Int} (h : altS a k = false) : ofE a k ≠ 0 := by
 unfold ofE
 split
 ·rename_i h1
  split
  ·rename_i h2; rw [altS_iff.2 ⟨h1, h2⟩] at h; cases h
  ·decide
 ·assumption
theorem ofE_alt {a k : List Int} : (ofE a k == 0) = altS a k := by
 cases h : altS a k with
 | true => rw [ofE_0 h]; rfl
 | false => exact beq_false_of_ne (ofE_no h)
theorem allM_iff {o : List Int} {n : Nat} : allM o n = true ↔ ∀ j : Nat, j < n → (j : Int) ∈ o := by
 unfold allM
 rw [List.all_eq_true]
 constructor
 ·intro h j hj
  exact memB_true.1 (h j (List.mem_range.2 hj))
 ·intro h x hx
  exact memB_true.2 (h x (List.mem_range.1 hx))
theorem perm_sub : ∀ (l o : List Int), l.Nodup → (∀ x ∈ l, x ∈ o) → o.length = l.length → o.Perm l
 | [], o, _, _, h => by rw [List.length_eq_zero_iff.1 h]
 | x :: r, o, hn, hs, hl => by
  have hx := hs x (List.mem_cons_self ..)
  obtain ⟨hxr, hn⟩ := List.nodup_cons.1 hn
  refine (List.perm_cons_erase hx).trans (List.Perm.cons x (perm_sub r (o.erase x) hn (fun y hy => ?_) ?_))
  ·exact (List.mem_erase_of_ne fun e => hxr (by rw [← e]; exact hy)).2 (hs y (List.mem_cons_of_mem _ hy))
  ·rw [List.length_erase_of_mem hx, hl]; rfl
/-- The numbers below n. -/
def idO (n : Nat) : List Int := (List.range n).map fun (i : Nat) => (i : Int)
theorem idO_mem {n : Nat} {x : Int} : x ∈ idO n ↔ 0 ≤ x ∧ x < n := by
 unfold idO
 rw [List.mem_map]
 constructor
 ·rintro ⟨i, hi, rfl⟩
  have := List.mem_range.1 hi
  omega
 ·intro h
  exact ⟨x.toNat, List.mem_range.2 (by omega), by omega⟩
theorem idO_nodup (n : Nat) : (idO n).Nodup := by
 unfold idO
 rw [List.Nodup, List.pairwise_map]
 exact (List.nodup_range (n := n)).imp fun h e => h (by omega)
theorem idO_len (n : Nat) : (idO n).length = n := by unfold idO; rw [List.length_map, List.length_range]
theorem lst_perm {a k o : List Int} (h : lstE a k o = 0) : altS a k = true ∧ o.length = a.length ∧ o.Perm (idO a.length) := by
 unfold lstE at h
 split at h
 ·rename_i h1
  have ha : altS a k = true := by rw [← ofE_alt, h1]; rfl
  split at h
  ·rename_i h2
   split at h
   ·rename_i h3
    refine ⟨ha, h2, perm_sub _ _ (idO_nodup _) (fun x hx => ?_) (by rw [idO_len]; exact h2)⟩
    obtain ⟨hx1, hx2⟩ := idO_mem.1 hx
    have := allM_iff.1 h3 x.toNat (by omega)
    rwa [show ((x.toNat : Nat) : Int) = x by omega] at this
   ·cases h
  ·cases h
 ·rename_i h1; exact absurd h h1
theorem perm_okO {o : List Int} {n : Nat} (h : o.Perm (idO n)) (hn : n ≤ 8) : okO o := by
 refine ⟨by rw [h.length_eq, idO_len]; exact hn, fun x hx => ?_⟩
 have := idO_mem.1 (h.mem_iff.1 hx)
 omega
/-! ### Contracts -/
theorem fan_caps {f : Nat} {a k : List Int} {n m : Nat} {c1 c2 : Option Nat} {rest : List AV} {v : AV} {bs : List Blk} (h : SpecP Tryz.prog G f (.agg [.imm (.ints .i64 a) n none, .imm (.ints .u8 k) m none] :: rest) v bs) :
  SpecP Tryz.prog G f (.agg [.imm (.ints .i64 a) n c1, .imm (.ints .u8 k) m c2] :: rest) v bs := h.args fun w F xs h => by
 cases h with
 | cons _ _ _ _ h1 h2 => exact .cons _ _ _ _ h1.caps h2
theorem fan_caps2 {f : Nat} {a k o : List Int} {n m p : Nat} {c1 c2 c3 : Option Nat} {rest : List AV} {v : AV} {bs : List Blk} (h : SpecP Tryz.prog G f (.agg [.imm (.ints .i64 a) n none, .imm (.ints .u8 k) m none] :: .imm (.ints .i64 o) p none :: rest) v bs) :
  SpecP Tryz.prog G f (.agg [.imm (.ints .i64 a) n c1, .imm (.ints .u8 k) m c2] :: .imm (.ints .i64 o) p c3 :: rest) v bs := h.args fun w F xs h => by
 cases h with
 | cons _ _ _ _ h1 h2 =>
  cases h2 with
  | cons _ _ _ _ h3 h4 => exact .cons _ _ _ _ h1.caps (.cons _ _ _ _ h3.caps h4)
theorem ctc79 : CtOk Tryz.prog G 79 ec79 := by
 intro args r h hp
 unfold ec79 at h
 split at h <;> cases h
 rename_i a n _ k m _
 obtain ⟨rfl, rfl, hc⟩ := hp
 refine fan_caps (fnP_spec hcm hmx T0ok ok79 rfl (ob_oc79 a k) ?_)
 dsimp -failIfUnchanged -proj -eta -iota -zeta only
 have hA := (chk_ok hc).2.1
 have hl := okA_len hA
 simp only [inR_i64, and_true, true_and, leb_iff, ltb_iff, ltb_no, ltn_iff, iI, size_ints, List.length_drop, List.getD_eq_getElem?_getD, List.getElem?_drop, Nat.add_zero, beq_iff_eq, beq_eq_false_iff_ne, ne_eq]
 refine ⟨⟨0, rfl, by omega, rfl, rfl⟩, ?_⟩
 rintro ⟨i, e, o⟩ ⟨m, hi, hm, he, ho⟩
 simp only at hi he ho ⊢
 subst hi he ho
 simp only [Int.toNat_natCast]
 refine ⟨fun hlt => ?_, fun hge => ?_⟩
 ·have g : m < a.length := by omega
  have t1 := sumP_take (p := true) g
  have t2 := sumP_take (p := false) g
  have ht : ∀ x ∈ a.take (m + 1), 1 ≤ x := fun x hx => hA.1 x (List.mem_of_mem_take hx)
  have hs : (a.take (m + 1)).sum ≤ 8 := by
   have e : (a.take (m + 1)).sum + (a.drop (m + 1)).sum = a.sum := by rw [← List.sum_append, List.take_append_drop]
   have := okA_drop hA (m + 1)
   have := hA.2
   omega
  have b1 := sumP_bd true _ ht
  have b2 := sumP_bd false _ ht
  have h2 : m % 2 = 0 ∨ m % 2 = 1 := by omega
  have hm2 : ((m : Int).tmod 2) = ((m % 2 : Nat) : Int) := by rw [Int.tmod_eq_emod_of_nonneg (by omega)]; omega
  rw [hm2]
  rcases h2 with h2 | h2
  ·rw [h2] at t1 t2 ⊢
   simp at t1 t2
   refine ⟨by omega, by omega, by omega, by omega, fun _ => ⟨by omega, by omega, ⟨m + 1, by omega, by omega, by omega, by omega⟩, by omega⟩, fun h => absurd rfl h⟩
  ·rw [h2] at t1 t2 ⊢
   simp at t1 t2
   refine ⟨by omega, by omega, by omega, by omega, fun h => by omega, fun _ => ⟨by omega, by omega, ⟨m + 1, by omega, by omega, by omega, by omega⟩, by omega⟩⟩
 ·rw [List.take_of_length_le (by omega)]; exact ⟨rfl, rfl⟩
theorem ctc56 : CtOk Tryz.prog G 56 ec56 := by
 intro args r h hp
 unfold ec56 at h
 split at h <;> cases h
 obtain ⟨rfl, rfl⟩ := hp
 exact fan_caps (fnP_spec hcm hmx T0ok ok56 rfl (ob_oc56 _ _) (by simp))
theorem TB1cok : TabOk Tryz.prog G TB1c := tabL_ok noCh_ok ⟨ctc79, trivial⟩
theorem ctc57 : CtOk Tryz.prog G 57 ec57 := by
 intro args r h hp
 unfold ec57 at h
 split at h <;> cases h
 obtain ⟨rfl, rfl, hc⟩ := hp
 exact fan_caps (fnP_spec hcm hmx TB1cok ok57 rfl (ob_oc57 _ _) (by simp [hc]))
theorem TB2ok : TabOk Tryz.prog G TB2 := tabL_ok noCh_ok ⟨ct17, ctc56, ctc57, trivial⟩
theorem ctc34 : CtOk Tryz.prog G 34 ec34 := by
 intro args r h hp
 unfold ec34 at h
 split at h <;> cases h
 rename_i a n _ k m _
 obtain ⟨rfl, rfl, hz⟩ := hp
 refine fan_caps (fnP_spec hcm hmx TB2ok ok34 rfl (ob_oc34 a k) ?_)
 simp only [and_true, true_and, bne_iff_ne, ne_eq, bne_eq_false_iff_eq]
 unfold altS altB
 refine ⟨by omega, fun h => ?_, fun h => ⟨fun h2 => ⟨h, ?_⟩, fun h2 => ?_⟩⟩
 ·rw [beq_false_of_ne h]; rfl
 ·simp [h, h2]
 ·simp [h, h2]
theorem TB3ok : TabOk Tryz.prog G TB3 := tabL_ok noCh_ok ⟨ctc34, trivial⟩
theorem ctc13 : CtOk Tryz.prog G 13 ec13 := by
 intro args r h hp
 unfold ec13 at h
 split at h <;> cases h
 rename_i a n _ k m _
 obtain ⟨rfl, rfl, hz⟩ := hp
 refine fan_caps (fnP_spec hcm hmx TB3ok ok13 rfl (ob_oc13 a k) ?_)
 simp only [and_true, true_and]
 refine ⟨hz, fun h => ?_, fun h => h.symm⟩
 rw [h, (altS_iff.1 h).1]; rfl
theorem ctc37 : CtOk Tryz.prog G 37 ec37 := by
 intro args r h hp
 unfold ec37 at h
 split at h <;> cases h
 rename_i a n _ k m _
 obtain ⟨rfl, rfl, hz⟩ := hp
 refine fan_caps (fnP_spec hcm hmx TB3ok ok37 rfl (ob_oc37 a k) ?_)
 dsimp -failIfUnchanged -proj -eta -iota -zeta only
 cases hs : altS a k with
 | false =>
  have e1 : ∀ l, bLs false l = [] := fun l => rfl
  simp only [e1, and_true, true_and, size_ints, List.length_nil, Bool.not_false, imp_self, beq_iff_eq, beq_eq_false_iff_ne, ne_eq, bne_iff_ne, bne_eq_false_iff_eq, Bool.false_eq_true, false_imp_iff, forall_const, true_imp_iff]
  refine ⟨hz, fun h => ⟨h, ?_⟩, fun h => ⟨h, ?_⟩⟩
  ·unfold ofE
   rw [if_pos h, if_neg]
   intro h2; rw [altS_iff.2 ⟨h, h2⟩] at hs; cases hs
  ·unfold ofE; rw [if_neg h]
 | true =>
  obtain ⟨hc, hb⟩ := altS_iff.1 hs
  have hA := (chk_ok hc).2.1
  have hl := okA_len hA
  have hrb := rays_bd hA
  have hrl := raysL_len a
  have e1 : ∀ l, bLs true l = l := fun l => rfl
  simp only [hc, ofE_0 hs, e1, inR_i64, and_true, true_and, leb_iff, ltb_iff, ltb_no, ltn_iff, len'_iff, iI, size_ints, List.length_drop, List.length_append, List.length_cons, List.length_nil, List.getD_eq_getElem?_getD, List.getElem?_drop, Nat.add_zero, Nat.zero_add, beq_iff_eq, beq_eq_false_iff_ne, ne_eq, bne_iff_ne, bne_eq_false_iff_eq, Bool.not_true, forall_const, true_imp_iff, not_true_eq_false, false_imp_iff, Bool.true_eq_false, reduceCtorEq]
  refine ⟨hz, ⟨0, rfl, by omega, ?_⟩, ?_⟩
  ·show [0] = (rayL 0 true a).take 1
   cases a <;> rfl
  rintro ⟨i, r⟩ ⟨m, hi, hm, hr⟩
  simp only at hi hr ⊢
  subst hi hr
  simp only [Int.toNat_natCast]
  refine ⟨fun hlt => ?_, fun hge => ?_⟩
  ·have g : m < a.length := by omega
   have hst := rays_step g
   have htl : ((raysL a).take (m + 1)).length = m + 1 := by rw [List.length_take]; omega
   have ha : 1 ≤ a[m]?.getD 0 ∧ a[m]?.getD 0 ≤ 8 := by
    have h1 := okA_get hA g
    have : a[m]?.getD 0 ≤ a.sum := by
     have e : (a.take m).sum + (a.drop m).sum = a.sum := by rw [← List.sum_append, List.take_append_drop]
     have e2 : (a.drop m).sum = a[m]?.getD 0 + (a.drop (m + 1)).sum := by rw [List.drop_eq_getElem_cons g, List.sum_cons, List.getElem?_eq_getElem g]; rfl
     have := okA_drop hA (m + 1)
     have : 0 ≤ (a.take m).sum := sum_nonneg fun x hx => by have := hA.1 x (List.mem_of_mem_take hx); omega
     omega
    have := hA.2
    omega
   have hy : -8 ≤ ((raysL a).take (m + 1))[m]?.getD 0 ∧ ((raysL a).take (m + 1))[m]?.getD 0 ≤ 8 := by
    have hm1 : m < ((raysL a).take (m + 1)).length := by omega
    rw [List.getElem?_eq_getElem hm1]
    exact hrb _ (List.mem_of_mem_take (List.getElem_mem hm1))
   have ht : (m : Int).tmod 2 = 0 ∨ (m : Int).tmod 2 = 1 := by rw [Int.tmod_eq_emod_of_nonneg (by omega)]; omega
   rw [← hst]
   rcases ht with ht | ht
   ·rw [ht] at hst ⊢
    refine ⟨by omega, by omega, by omega, by omega, by omega, by omega, by omega, by omega, by omega, by omega, by omega, by omega, by omega, ⟨m + 1, by omega, by omega, rfl⟩, by omega⟩
   ·rw [ht] at hst ⊢
    refine ⟨by omega, by omega, by omega, by omega, by omega, by omega, by omega, by omega, by omega, by omega, by omega, by omega, by omega, ⟨m + 1, by omega, by omega, rfl⟩, by omega⟩
  ·rw [List.take_of_length_le (by omega)]
   exact ⟨rfl, rfl⟩
theorem TB4ok : TabOk Tryz.prog G TB4 := tabL_ok noCh_ok ⟨ctc37, ct41, trivial⟩
theorem ctc26 : CtOk Tryz.prog G 26 ec26 := by
 intro args r h hp
 unfold ec26 at h
 split at h <;> cases h
 rename_i a n _ k m _
 obtain ⟨rfl, rfl, hz⟩ := hp
 refine fan_caps (fnP_spec hcm hmx TB4ok ok26 rfl (ob_oc26 a k) ?_)
 dsimp -failIfUnchanged -proj -eta -iota -zeta only
 rw [ofE_alt]
 have hl := raysL_len a
 cases hs : altS a k with
 | true =>
  have e1 : ∀ l, bLs true l = l := fun l => rfl
  have e0 := ofE_0 hs
  simp [e0, e1, hl, hz, len'_iff, size_ints, List.length_take]
 | false =>
  have e1 : ∀ l, bLs false l = [] := fun l => rfl
  have e0 := ofE_no hs
  simp [e0, e1, hz, size_ints]
theorem TB5ok : TabOk Tryz.prog G TB5 := tabL_ok noCh_ok ⟨ctc37, ct39, trivial⟩
theorem ctc50 : CtOk Tryz.prog G 50 ec50 := by
 intro args r h hp
 unfold ec50 at h
 split at h <;> cases h
 rename_i a n _ k m _ o p _
 obtain ⟨rfl, rfl, hz, rfl, hy⟩ := hp
 refine fan_caps2 (fnP_spec hcm hmx TB5ok ok50 rfl (ob_oc50 a k o) ?_)
 simp only [inR_i64, and_true, true_and, leb_iff, ltb_iff, ltb_no, beq_iff_eq, beq_eq_false_iff_ne, ne_eq, bne_iff_ne, bne_eq_false_iff_eq, Int.natCast_inj, iI, Bool.not_eq_true', Bool.not_eq_false']
 refine ⟨hz, fun e0 => ⟨e0, fun hne => ?_, fun hl => ⟨⟨0, rfl, by omega, fun j hj => by omega⟩, ?_⟩⟩, fun e0 => ⟨e0, ?_⟩⟩
 ·unfold lstE; rw [if_pos e0, if_neg hne]
 ·rintro ⟨i⟩ ⟨m, hi, hm, hf⟩
  simp only at hi hf ⊢
  subst hi
  simp only [Int.toNat_natCast]
  refine ⟨fun hlt => ⟨by omega, fun hb => ?_, fun hb => ⟨by omega, ⟨m + 1, by omega, by omega, fun j hj => ?_⟩, by omega⟩⟩, fun hge => ?_⟩
  ·unfold lstE
   rw [if_pos e0, if_pos hl, if_neg]
   rw [allM_iff]
   intro h
   rw [memB_true.2 (h m (by omega))] at hb; cases hb
  ·by_cases hj' : j < m
   ·exact hf j hj'
   ·rw [show j = m by omega]; exact hb
  ·unfold lstE
   rw [if_pos e0, if_pos hl, if_pos]
   rw [allM_iff]
   exact fun j hj => memB_true.1 (hf j (by omega))
 ·unfold lstE; rw [if_neg e0]
theorem TB6ok : TabOk Tryz.prog G TB6 := tabL_ok noCh_ok ⟨ctc50, ct51, ct52, ct53, trivial⟩
theorem alt_facts {a k : List Int} (h : altS a k = true) : a.length = k.length ∧ a.length ≤ 8 ∧ okA a ∧ ∀ x ∈ k, 1 ≤ x ∧ x ≤ 3 := by
 obtain ⟨h1, h2, h3⟩ := chk_ok (altS_iff.1 h).1
 exact ⟨h1, okA_len h2, h2, h3⟩
theorem ctc27 : CtOk Tryz.prog G 27 ec27 := by
 intro args r h hp
 unfold ec27 at h
 split at h <;> cases h
 rename_i a n _ k m _ o p _
 obtain ⟨rfl, rfl, hz, rfl, hy⟩ := hp
 refine fan_caps2 (fnP_spec hcm hmx TB6ok ok27 rfl (ob_oc27 a k o) ?_)
 simp only [and_true, true_and, beq_iff_eq, beq_eq_false_iff_ne, ne_eq, bne_iff_ne, bne_eq_false_iff_eq]
 refine ⟨⟨hz, hy⟩, fun h => ?_, fun h => ?_⟩
 ·unfold vldE; rw [if_neg h]
 ·obtain ⟨hs, hl, hpm⟩ := lst_perm h
  obtain ⟨f1, f2, f3, f4⟩ := alt_facts hs
  have e1 : ∀ l, bLs true l = l := fun l => rfl
  have hrl := raysL_len a
  rw [hs]
  simp only [e1]
  have hc := cok_self a k (raysL a)
  refine ⟨perm_okO hpm f2, ⟨hc, f2, hrl⟩, fun h1 => ?_, fun h1 => ⟨⟨hc, f2, f1.symm⟩, fun h2 => ?_, fun h2 => ?_⟩⟩
  ·unfold vldE; rw [if_pos h, if_pos h1]
  ·unfold vldE; rw [if_pos h, if_neg (by rw [h1]; simp), if_pos h2]
  ·unfold vldE; rw [if_pos h, if_neg (by rw [h1]; simp), if_neg (by rw [h2]; simp)]
end Go.Proofs.YthiammkiobbclaaGreatDoor.X
