/-
 The law on errors of fans.
-/
import Derived.Test.YtfafinkgmhkdmaaDoorVO13Z
import Derived.Test.YtfafinkgmhkdmaaDoorVC15Z
set_option maxRecDepth 1000000
set_option linter.unusedVariables false
set_option linter.unusedSimpArgs false
namespace Go.Proofs.YtfafinkgmhkdmaaDoor.X
open Go Go.Ab

theorem mir_cons (x : Int) (l : List Int) : mirK' (x :: l) = x :: l.reverse := by
 simp [mirK', rotL']
theorem mir_mir (l : List Int) : mirK' (mirK' l) = l := by
 cases l with
 | nil => rfl
 | cons x l => rw [mir_cons, mir_cons, List.reverse_reverse]
theorem ZEok : TabOk Tryd.prog G ZE := tabL_ok noCh_ok ⟨ct27, ct30, ct19x, ct28x, ct17, ct31, ct32, ct33x, ct20, ct26, trivial⟩
theorem ang1_iff {x : Int} : ang1 x = true ↔ 1 ≤ x ∧ x ≤ 8 := by unfold ang1; simp
theorem knd1_iff {x : Int} : knd1 x = true ↔ 1 ≤ x ∧ x ≤ 3 := by unfold knd1; simp
theorem take_snoc {l : List Int} {n : Nat} (h : n < l.length) : l.take (n + 1) = l.take n ++ [l[n]?.getD 0] := by
 have e : l[n]? = some l[n] := List.getElem?_eq_getElem h
 rw [List.take_add_one, e]; rfl
theorem wA_snoc (l : List Int) (x : Int) : wA' (l ++ [x]) = cond (ang1 x) (wA' l) 1 := by
 unfold wA'
 rw [List.all_append]
 cases h : ang1 x <;> simp [h]
theorem wK_snoc (w : Int) (l : List Int) (x : Int) : wK' w (l ++ [x]) = cond (knd1 x) (wK' w l) 1 := by
 unfold wK'
 rw [List.all_append]
 cases h : knd1 x <;> simp [h]
theorem sA1_app : ∀ (l m : List Int), sA1 (l ++ m) = sA1 l + sA1 m
 | [], m => by simp [sA1]
 | x :: l, m => by rw [List.cons_append, sA1, sA1, sA1_app l m, Int.add_assoc]
theorem sA1_rng : ∀ (l : List Int), 0 ≤ sA1 l ∧ sA1 l ≤ 8 * l.length
 | [] => by simp [sA1]
 | x :: l => by
  obtain ⟨h1, h2⟩ := sA1_rng l
  rw [sA1]
  cases h : ang1 x with
  | true => have := ang1_iff.1 h; simp; omega
  | false => simp; omega
theorem chkL_all : ∀ (a k : List Int) (s : Int), a.length = k.length → 0 ≤ s → s ≤ 8 → chkL a k s = if a.all ang1 = true ∧ k.all knd1 = true ∧ s + sA1 a ≤ 8 then 0 else 1
 | [], k, s, hl, h0, h8 => by
  have : k = [] := List.length_eq_zero_iff.1 hl.symm
  subst this
  rw [if_pos (by simp [sA1]; omega)]; rfl
 | x :: a, [], s, hl, _, _ => by simp at hl
 | x :: a, y :: k, s, hl, h0, h8 => by
  have hr := sA1_rng a
  rw [chkL]
  split
  ·rename_i hc
   rw [if_neg]
   rintro ⟨g1, g2, g3⟩
   rw [List.all_cons, Bool.and_eq_true] at g1 g2
   have e1 := ang1_iff.1 g1.1
   have e2 := knd1_iff.1 g2.1
   rw [sA1, g1.1, cond_true] at g3
   omega
  ·rename_i hc
   have e1 : ang1 x = true := ang1_iff.2 (by omega)
   have e2 : knd1 y = true := knd1_iff.2 (by omega)
   rw [chkL_all a k (s + x) (by simpa using hl) (by omega) (by omega), List.all_cons, List.all_cons, sA1, e1, e2, cond_true, Bool.true_and, Bool.true_and, Int.add_assoc]
theorem chk_w2 (a k : List Int) : chk a k = if a.length = k.length then w2' a k else 5 := by
 unfold chk
 split
 ·rename_i hl
  rw [chkL_all a k 0 hl (by omega) (by omega)]
  unfold w2' wK' wA'
  by_cases h : 8 < sA1 a
  ·rw [if_neg (by omega), if_pos h]
  ·rw [if_neg h]
   cases h1 : a.all ang1 <;> cases h2 : k.all knd1 <;> simp
   omega
 ·rfl
theorem sA1_ok {a : List Int} (h : ∀ x ∈ a, 1 ≤ x ∧ x ≤ 8) : sA1 a = a.sum := by
 induction a with
 | nil => rfl
 | cons x a ih =>
  rw [sA1, ang1_iff.2 (h x (by simp)), cond_true, ih fun y hy => h y (List.mem_cons_of_mem _ hy)]
  simp
theorem wsum_ok {a : List Int} (h1 : ∀ x ∈ a, 1 ≤ x) (h2 : a.sum ≤ 8) : wsum a = a.sum := by
 have key : ∀ (l : List Int) (s : Int), (∀ x ∈ l, 1 ≤ x) → 0 ≤ s → s + l.sum ≤ 8 → l.foldl (fun s x => IntKind.i64.wrap (s + x)) s = s + l.sum := by
  intro l
  induction l with
  | nil => intro s _ _ _; simp
  | cons x l ih =>
   intro s hl h0 h8
   have hx := hl x (by simp)
   have hs := len_sum l fun y hy => hl y (List.mem_cons_of_mem _ hy)
   rw [List.sum_cons] at h8
   have w : IntKind.i64.wrap (s + x) = s + x := by
    simp [IntKind.wrap, IntKind.bits, IntKind.signed]
    split <;> omega
   rw [List.foldl_cons, w, ih (s + x) (fun y hy => hl y (List.mem_cons_of_mem _ hy)) (by omega) (by omega), List.sum_cons]
   omega
 unfold wsum
 rw [key a 0 h1 (by omega) (by omega)]; omega
theorem fl_eq (a k : List Int) : flB a k = fl2 a k := by
 unfold flB fl2
 cases h : (chk a k == 0) with
 | false => rfl
 | true =>
  obtain ⟨c1, c2, c3⟩ := chk_ok (beq_iff_eq.1 h)
  rw [wsum_ok c2.1 c2.2, sA1_ok fun x hx => ⟨c2.1 x hx, by have := le_sum a c2.1 x hx; have := c2.2; omega⟩]
theorem tx_ne {a k : List Int} (h : chk a k = 0) : txF a k ≠ [] := by
 intro e
 obtain ⟨c1, c2, c3⟩ := chk_ok h
 unfold txF at e
 split at e
 ·cases e
 ·rename_i hn
  match a, k, c1 with
  | x :: a, y :: k, _ =>
   have : pcs (x :: a) (y :: k) = pcT x y :: pcs a k := rfl
   rw [this, Lib.join_cons] at e
   simp [pcT] at e
  | [], [], _ => exact hn rfl
theorem txE_iff (a k : List Int) : (txE a k == []) = (chk a k != 0) := by
 unfold txE okC
 cases h : (chk a k == 0) with
 | true =>
  have := tx_ne (beq_iff_eq.1 h)
  rw [cond_true, beq_eq_false_iff_ne.2 this, bne, h]; rfl
 | false => rw [cond_false, bne, h]; rfl
theorem take_eqs {a b : List Int} (hl : a.length = b.length) {n : Nat} (h : n < a.length) : decide (a.take (n + 1) = b.take (n + 1)) = (decide (a.take n = b.take n) && (a[n]?.getD 0 == b[n]?.getD 0)) := by
 rw [take_snoc h, take_snoc (by omega : n < b.length), Bool.eq_iff_iff]
 simp only [decide_eq_true_eq, Bool.and_eq_true, beq_iff_eq]
 constructor
 ·intro e
  have := List.append_inj e (by rw [List.length_take, List.length_take, hl])
  exact ⟨this.1, by simpa using this.2⟩
 ·rintro ⟨h1, h2⟩
  rw [h1, h2]
theorem sp10 (a k b j : List Int) (f : Int) : SpecP Tryd.prog G 10 [fanV a k, fanV b j, .int .i64 f] (.bool true) [] := by
 refine fnP_spec hcm hmx ZEok ok10 rfl (ob_o10 a k b j f) ?_
 simp only [ltb_iff, ltb_no, leb_iff, leb_no, ltn_iff, ltn_no, len'_iff, len'_no, inR_i64, inR_u8, inR_i32, size_ints, size_bools, size_vals, size_cells, getD_drop, List.getElem?_drop, beq_iff_eq, beq_eq_false_iff_ne, bne_iff_ne, bne_eq_false_iff_eq, ne_eq, Nat.zero_add, Nat.add_zero, Nat.mul_one, Int.toNat_natCast, and_true, true_and, List.length_drop, List.length_append, List.length_cons, List.length_nil, List.length_set, List.getD_eq_getElem?_getD, implies_true, iI, iL, Bool.not_eq_true', Bool.not_eq_false', Int.natCast_inj]
 intro h1 h2 h3 h4
 refine ⟨⟨0, rfl, by omega, rfl, rfl⟩, ?_⟩
 rintro ⟨w, s, i⟩ ⟨n, rfl, hn, rfl, rfl⟩
 simp only [Int.toNat_natCast]
 refine ⟨fun hlt => ?_, fun hge => ?_⟩
 ·have hnl : n < a.length := by omega
  have sr := sA1_rng (a.take n)
  rw [List.length_take] at sr
  have wS := wA_snoc (a.take n) (a[n]?.getD 0)
  have sS := sA1_app (a.take n) [a[n]?.getD 0]
  rw [← take_snoc hnl] at wS sS
  simp only [sA1] at sS
  generalize a[n]?.getD 0 = x at *
  refine ⟨by omega, by omega, by omega, by omega, fun hx => ?_, fun hx => ⟨by omega, by omega, by omega, by omega, fun hx2 => ?_, fun hx2 => ?_⟩⟩
  ·have e : ang1 x = false := by rw [Bool.eq_false_iff, ne_eq, ang1_iff]; omega
   rw [e] at wS sS
   exact ⟨by omega, ⟨n + 1, by omega, by omega, wS.symm, by rw [sS]; simp⟩, by omega⟩
  ·have e : ang1 x = false := by rw [Bool.eq_false_iff, ne_eq, ang1_iff]; omega
   rw [e] at wS sS
   exact ⟨by omega, ⟨n + 1, by omega, by omega, wS.symm, by rw [sS]; simp⟩, by omega⟩
  ·have e : ang1 x = true := by rw [ang1_iff]; omega
   rw [e] at wS sS
   exact ⟨by omega, by omega, by omega, by omega, by omega, by omega, ⟨n + 1, by omega, by omega, wS.symm, by rw [sS]; simp⟩, by omega⟩
 obtain rfl : n = a.length := by omega
 simp only [List.take_length]
 refine ⟨⟨0, rfl, by omega, rfl⟩, ?_⟩
 rintro ⟨w, i⟩ ⟨n, rfl, hn2, rfl⟩
 simp only [Int.toNat_natCast]
 refine ⟨fun hlt => ?_, fun hge2 => ?_⟩
 ·have hnl : n < k.length := by omega
  have wS := wK_snoc (wA' a) (k.take n) (k[n]?.getD 0)
  rw [← take_snoc hnl] at wS
  generalize k[n]?.getD 0 = x at *
  refine ⟨by omega, by omega, by omega, by omega, fun hx => ?_, fun hx => ⟨by omega, by omega, by omega, by omega, fun hx2 => ?_, fun hx2 => ?_⟩⟩
  ·have e : knd1 x = false := by rw [Bool.eq_false_iff, ne_eq, knd1_iff]; omega
   rw [e] at wS
   exact ⟨by omega, ⟨n + 1, by omega, by omega, wS.symm⟩, by omega⟩
  ·have e : knd1 x = false := by rw [Bool.eq_false_iff, ne_eq, knd1_iff]; omega
   rw [e] at wS
   exact ⟨by omega, ⟨n + 1, by omega, by omega, wS.symm⟩, by omega⟩
  ·have e : knd1 x = true := by rw [knd1_iff]; omega
   rw [e] at wS
   exact ⟨by omega, ⟨n + 1, by omega, by omega, wS.symm⟩, by omega⟩
 obtain rfl : n = k.length := by omega
 simp only [List.take_length]
 have hfe := fl_eq a k
 refine ⟨⟨fun h8 => by unfold w2'; rw [if_pos h8], fun h8 => by unfold w2'; rw [if_neg (by omega)]⟩, ?_⟩
 rintro ⟨v3⟩ rfl
 dsimp only
 refine ⟨⟨fun hl => by rw [chk_w2, if_neg hl], fun hl => by rw [chk_w2, if_pos hl]⟩, ?_⟩
 rintro ⟨v4⟩ rfl
 dsimp only
 refine ⟨⟨fun hc => ⟨fun h8 => by unfold fl2; rw [hc, h8]; rfl, fun h8 => ?_⟩, fun hc => by unfold fl2; rw [beq_eq_false_iff_ne.2 hc]; rfl⟩, ?_⟩
 ·unfold fl2
  rw [hc, beq_eq_false_iff_ne.2 h8]
  rw [Bool.eq_iff_iff]; simp
 rintro ⟨v5⟩ rfl
 dsimp only
 have hpE : patE a k f = if chk a k = 0 then (if fl2 a k then (if f < 0 ∨ 7 < f then 1 else 0) else 14) else chk a k := by unfold patE; rw [hfe]
 have two : (chk a k = 0 → fl2 a k = true → (f < 0 → 1 = patE a k f) ∧ (0 ≤ f → (7 < f → 1 = patE a k f) ∧ (f ≤ 7 → chk a k = patE a k f))) ∧ (¬ chk a k = 0 → chk a k = patE a k f) := by
  refine ⟨fun hc hf => ⟨fun h => ?_, fun h => ⟨fun h' => ?_, fun h' => ?_⟩⟩, fun hc => ?_⟩
  ·rw [hpE, if_pos hc, if_pos hf, if_pos (.inl h)]
  ·rw [hpE, if_pos hc, if_pos hf, if_pos (.inr h')]
  ·rw [hpE, if_pos hc, if_pos hf, if_neg (by omega)]; exact hc
  ·rw [hpE, if_neg hc]
 refine ⟨⟨fun hc => ⟨fun hf => ?_, fun hf => ⟨fun hc' => two.1 hc hf, fun hc' => absurd hc hc'⟩⟩, fun hc => ⟨fun hc' => absurd hc' hc, fun _ => two.2 hc⟩⟩, ?_⟩
 ·rw [hpE, if_pos hc, hf]; rfl
 rintro ⟨v6⟩ rfl
 dsimp only
 refine ⟨by omega, by omega, by omega, ⟨fun hl => ?_, fun hl => ?_⟩, ?_⟩
 ·unfold lenE
  rw [Bool.eq_iff_iff]; simp; omega
 ·unfold lenE
  rw [beq_eq_false_iff_ne.2 hl]; rfl
 rintro ⟨v7⟩ rfl
 dsimp only
 have hlen : lenE a k b j = true → a.length = b.length ∧ k.length = j.length := fun h => by
  unfold lenE at h
  simpa using h
 have hlen' : eqB a b = true → eqB k j = true → lenE a k b j = true := fun g1 g2 => by
  unfold eqB at g1 g2
  simp only [decide_eq_true_eq] at g1 g2
  unfold lenE
  rw [g1, g2]; simp
 refine ⟨⟨⟨0, rfl, by omega, by simp⟩, ?_⟩, ?_⟩
 ·rintro ⟨e, i⟩ ⟨n, rfl, hn3, rfl⟩
  simp only [Int.toNat_natCast]
  refine ⟨fun hlt => ⟨fun he => ?_, fun he => ?_⟩, fun hge3 => ?_⟩
  ·rw [Bool.and_eq_true] at he
   obtain ⟨l1, l2⟩ := hlen he.1
   refine ⟨by omega, by omega, by omega, by omega, by omega, by omega, by omega, by omega, by omega, ⟨n + 1, by omega, by omega, ?_⟩, by omega⟩
   rw [take_eqs l1 (by omega), he.1, he.2]; rfl
  ·rw [he]
   cases hq : lenE a k b j with
   | false => rfl
   | true =>
    rw [hq, Bool.true_and] at he
    rw [Bool.true_and]
    unfold eqB
    symm
    rw [decide_eq_false_iff_not] at he ⊢
    rintro rfl
    exact he rfl
  ·obtain rfl : n = a.length := by omega
   cases hq : lenE a k b j with
   | false => rfl
   | true =>
    obtain ⟨l1, l2⟩ := hlen hq
    unfold eqB
    rw [List.take_length, List.take_of_length_le (by omega : b.length ≤ a.length)]
 rintro ⟨v8⟩ rfl
 dsimp only
 refine ⟨⟨⟨0, rfl, by omega, by simp⟩, ?_⟩, ?_⟩
 ·rintro ⟨e, i⟩ ⟨n, rfl, hn3, rfl⟩
  simp only [Int.toNat_natCast]
  refine ⟨fun hlt => ⟨fun he => ?_, fun he => ?_⟩, fun hge3 => ?_⟩
  ·rw [Bool.and_eq_true, Bool.and_eq_true] at he
   obtain ⟨l1, l2⟩ := hlen he.1.1
   refine ⟨by omega, by omega, by omega, by omega, by omega, by omega, by omega, by omega, by omega, ⟨n + 1, by omega, by omega, ?_⟩, by omega⟩
   rw [take_eqs l2 (by omega), he.1.1, he.1.2, he.2]; rfl
  ·rw [he]
   symm
   rw [Bool.eq_false_iff]
   intro hq
   rw [Bool.and_eq_true] at hq
   have := hlen' hq.1 hq.2
   rw [this, hq.1] at he
   have e2 := hq.2
   unfold eqB at e2
   rw [decide_eq_true_eq] at e2
   rw [e2] at he
   simp at he
  ·obtain rfl : n = k.length := by omega
   cases hq : lenE a k b j with
   | false =>
    symm
    rw [Bool.false_and, Bool.false_and, Bool.eq_false_iff]
    intro hh
    rw [Bool.and_eq_true] at hh
    rw [hlen' hh.1 hh.2] at hq
    cases hq
   | true =>
    obtain ⟨l1, l2⟩ := hlen hq
    rw [List.take_length, List.take_of_length_le (by omega : j.length ≤ k.length), Bool.true_and]
    rfl
 rintro ⟨v9⟩ rfl
 dsimp only
 simp only [txE_iff, eqB_self, hfe, mir_mir, List.reverse_reverse, List.length_reverse, Bool.and_self, true_and, and_true]
 have oC : ¬ chk a k = 0 → okC a k = false := fun h => by unfold okC; rw [beq_eq_false_iff_ne]; exact h
 have lm := len_mir k
 refine ⟨by omega, by omega, ⟨by omega, by omega⟩, ⟨by omega, by omega⟩, by omega, ⟨by omega, by omega⟩, ⟨by omega, by omega⟩, ⟨by omega, by omega⟩, fun _ hc => ?_, fun hp => ⟨?_, fun hc => ?_⟩⟩
 ·rw [oC hc]
  simp [bLt]
 ·unfold bI; rw [beq_eq_false_iff_ne.2 hp]; rfl
 ·rw [oC hc]
  simp [bLt]
end Go.Proofs.YtfafinkgmhkdmaaDoor.X
