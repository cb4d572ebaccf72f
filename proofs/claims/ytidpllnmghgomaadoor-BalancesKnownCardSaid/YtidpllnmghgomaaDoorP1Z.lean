/-
  Plain laws: what fans lack, turned, mirrored, turned over.
-/
import Derived.Test.YtidpllnmghgomaaDoorC10Z
import Derived.Test.YtidpllnmghgomaaDoorD8Z
set_option maxRecDepth 1000000
set_option linter.unusedVariables false
set_option linter.unusedSimpArgs false
namespace Go.Proofs.YtidpllnmghgomaaDoor.X
open Go Go.Ab

theorem cntK_app (x : Int) : ∀ (l r : List Int), cntK (l ++ r) x = cntK l x + cntK r x
  | [], r => by simp [cntK]
  | a :: l, r => by simp only [List.cons_append, cntK, cntK_app x l r]; omega
theorem cntK_rot (l : List Int) (i : Nat) (x : Int) : cntK (rotL l i) x = cntK l x := by
  have := cntK_app x (l.take i) (l.drop i)
  rw [List.take_append_drop] at this
  rw [rotL, cntK_app, this]; omega
theorem cntK_rev (x : Int) : ∀ l : List Int, cntK l.reverse x = cntK l x
  | [] => rfl
  | a :: l => by rw [List.reverse_cons, cntK_app, cntK_rev x l]; simp only [cntK]; omega
theorem cntK_mir (k : List Int) (x : Int) : cntK (mirK k) x = cntK k x := by rw [mirK, cntK_rot, cntK_rev]
theorem cntK_ov : ∀ {k : List Int}, (∀ x ∈ k, 1 ≤ x ∧ x ≤ 3) → cntK (ovK k) 1 = cntK k 2 ∧ cntK (ovK k) 2 = cntK k 1 ∧ cntK (ovK k) 3 = cntK k 3
  | [], _ => by simp [ovK, cntK]
  | a :: k, h => by
    obtain ⟨h1, h2, h3⟩ := cntK_ov (k := k) (fun x hx => h x (by simp [hx]))
    have ha := h a (by simp)
    have e : ovK (a :: k) = (if a = 1 ∨ a = 2 then 3 - a else a) :: ovK k := rfl
    rw [e]
    simp only [cntK, h1, h2, h3]
    obtain rfl | rfl | rfl : a = 1 ∨ a = 2 ∨ a = 3 := by omega
    all_goals simp
theorem mem_rot {l : List Int} {i : Nat} {x : Int} : x ∈ rotL l i ↔ x ∈ l := by
  have : x ∈ l ↔ x ∈ l.take i ++ l.drop i := by rw [List.take_append_drop]
  rw [this, rotL, List.mem_append, List.mem_append, or_comm]
theorem mem_mir {l : List Int} {x : Int} : x ∈ mirK l ↔ x ∈ l := by rw [mirK, mem_rot, List.mem_reverse]
theorem len_rot (l : List Int) (i : Nat) : (rotL l i).length = l.length := by simp [rotL]; omega
theorem len_mir (l : List Int) : (mirK l).length = l.length := by rw [mirK, len_rot, List.length_reverse]
theorem len_ov (l : List Int) : (ovK l).length = l.length := by simp [ovK]
theorem sum_rot (l : List Int) (i : Nat) : (rotL l i).sum = l.sum := by
  have : l.sum = (l.take i ++ l.drop i).sum := by rw [List.take_append_drop]
  rw [this, rotL, List.sum_append, List.sum_append]; omega
theorem sum_rev : ∀ l : List Int, l.reverse.sum = l.sum
  | [] => rfl
  | a :: l => by rw [List.reverse_cons, List.sum_append, sum_rev l]; simp; omega
theorem ok_rot {a k : List Int} (h : chk a k = 0) (i : Nat) : chk (rotL a i) (rotL k i) = 0 := by
  obtain ⟨h1, h2, h3⟩ := chk_ok h
  refine chk_of (by rw [len_rot, len_rot, h1]) ⟨fun x hx => h2.1 x (mem_rot.1 hx), by rw [sum_rot]; exact h2.2⟩ fun x hx => h3 x (mem_rot.1 hx)
theorem ok_mir {a k : List Int} (h : chk a k = 0) : chk a.reverse (mirK k) = 0 := by
  obtain ⟨h1, h2, h3⟩ := chk_ok h
  refine chk_of (by rw [len_mir, List.length_reverse, h1]) ⟨fun x hx => h2.1 x (List.mem_reverse.1 hx), by rw [sum_rev]; exact h2.2⟩ fun x hx => h3 x (mem_mir.1 hx)
theorem ok_ov {a k : List Int} (h : chk a k = 0) : chk a (ovK k) = 0 := by
  obtain ⟨h1, h2, h3⟩ := chk_ok h
  refine chk_of (by rw [len_ov, h1]) h2 fun x hx => ?_
  simp only [ovK, List.mem_map] at hx
  obtain ⟨y, hy, rfl⟩ := hx
  have := h3 y hy
  split <;> omega
theorem sumP_app : ∀ (p : Bool) (l r : List Int), sumP p (l ++ r) = sumP p l + sumP (p ^^ (l.length % 2 == 1)) r
  | p, [], r => by simp [sumP]
  | p, a :: l, r => by
    rw [List.cons_append]
    simp only [sumP, sumP_app (!p) l r, List.length_cons]
    have : ((!p) ^^ (l.length % 2 == 1)) = (p ^^ ((l.length + 1) % 2 == 1)) := by
      rcases Nat.mod_two_eq_zero_or_one l.length with e | e
      · rw [show (l.length + 1) % 2 = 1 by omega, e]; cases p <;> rfl
      · rw [show (l.length + 1) % 2 = 0 by omega, e]; cases p <;> rfl
    rw [this]; omega
theorem sumP_rot {a : List Int} {i : Nat} (hi : i ≤ a.length) (he : a.length % 2 = 0) (p : Bool) : sumP p (rotL a i) = sumP (p ^^ (i % 2 == 1)) a := by
  have h1 := sumP_app (p ^^ (i % 2 == 1)) (a.take i) (a.drop i)
  rw [List.take_append_drop] at h1
  rw [h1, rotL, sumP_app]
  have e1 : (a.take i).length = i := by simp; omega
  have e2 : (a.drop i).length = a.length - i := by simp
  rw [e1, e2]
  have e3 : (a.length - i) % 2 = i % 2 := by omega
  rw [e3, Bool.xor_assoc, Bool.xor_self, Bool.xor_false]; omega
theorem sumP_rev : ∀ (a : List Int) (p : Bool), sumP p a.reverse = sumP (p ^^ (a.length % 2 == 0)) a
  | [], p => by cases p <;> rfl
  | x :: a, p => by
    rw [List.reverse_cons, sumP_app, sumP_rev a p, List.length_reverse, List.length_cons]
    simp only [sumP]
    rcases Nat.mod_two_eq_zero_or_one a.length with e | e
    · rw [show (a.length + 1) % 2 = 1 by omega, e]; cases p <;> simp <;> omega
    · rw [show (a.length + 1) % 2 = 0 by omega, e]; cases p <;> simp <;> omega
theorem unev_swap {a b : List Int} {q : Bool} (h : ∀ p, sumP p b = sumP (p ^^ q) a) : unevB b = unevB a := by
  rw [unevB, unevB, h true, h false]
  cases q
  · rfl
  · show (sumP false a != sumP true a) = _
    rw [Bool.eq_iff_iff]; simp only [bne_iff_ne, ne_eq]; exact ⟨fun h e => h e.symm, fun h e => h e.symm⟩
theorem unev_rot {a : List Int} {i : Nat} (hi : i ≤ a.length) (he : a.length % 2 = 0) : unevB (rotL a i) = unevB a := unev_swap (sumP_rot hi he)
theorem unev_rev {a : List Int} : unevB a.reverse = unevB a := unev_swap (sumP_rev a)
theorem chL_nil {d t : Int} : ∀ {n : Nat}, chL d t n = [] ↔ ∀ m : Nat, m < n → ¬ (d + 2 * m - t = 2 ∨ d + 2 * m - t = -2)
  | 0 => by simp [chL]
  | n + 1 => by
    simp only [chL]
    split
    · rename_i h
      exact ⟨fun e => by simp at e, fun e => absurd h (e n (by omega))⟩
    · rename_i h
      rw [chL_nil]
      refine ⟨fun e m hm => ?_, fun e m hm => e m (by omega)⟩
      by_cases hmn : m = n
      · subst hmn; exact h
      · exact e m (by omega)
/-- What the law says of the difference. -/
theorem unb_iff (a k : List Int) : unbB a k = true ↔ 0 < a.length ∧ ¬ (dif k - cntK k 3 ≤ 2 ∧ 2 ≤ dif k + cntK k 3 ∧ (dif k - cntK k 3) % 2 = 0) ∧ ¬ (dif k - cntK k 3 ≤ -2 ∧ -2 ≤ dif k + cntK k 3 ∧ (dif k - cntK k 3) % 2 = 0) := by
  have ht := (cntK_bound k 3).1
  have e : unbB a k = true ↔ chs a k = [] := by
    unfold unbB
    rw [beq_iff_eq]
    refine ⟨fun h => ?_, fun h => by rw [h]; rfl⟩
    cases hc : chs a k with
    | nil => rfl
    | cons x r => rw [hc] at h; simp at h; omega
  rw [e]
  unfold chs
  split
  · rename_i h0
    exact ⟨fun h => by simp at h, fun h => by omega⟩
  · rename_i h0
    rw [chL_nil]
    generalize dif k = d at *
    generalize cntK k 3 = t at *
    refine ⟨fun h => ⟨by omega, fun g => ?_, fun g => ?_⟩, fun h m hm g => ?_⟩
    · exact h ((2 - d + t) / 2).toNat (by omega) (.inl (by omega))
    · exact h ((-2 - d + t) / 2).toNat (by omega) (.inr (by omega))
    · rcases g with g | g <;> omega
theorem unb_of {a b k q : List Int} (hl : a.length = b.length) (hd : dif q = dif k ∨ dif q = - dif k) (ht : cntK q 3 = cntK k 3) : unbB b q = unbB a k := by
  rw [Bool.eq_iff_iff, unb_iff, unb_iff, ht, hl]
  rcases hd with h | h <;> rw [h]
  generalize dif k = d at *
  generalize cntK k 3 = t at *
  constructor <;> intro g <;> refine ⟨g.1, fun e => ?_, fun e => ?_⟩ <;> omega
theorem shB_iff {a k : List Int} {i : Nat} : shB a k i = true ↔ a[i]?.getD 0 < a[(i + 1) % a.length]?.getD 0 ∧ a[i]?.getD 0 < a[(i + a.length - 1) % a.length]?.getD 0 ∧ k[i]?.getD 0 = k[(i + 1) % a.length]?.getD 0 ∧ k[i]?.getD 0 ≠ 3 := by
  simp only [shB, Bool.and_eq_true, decide_eq_true_eq, beq_iff_eq, bne_iff_ne, ne_eq]
theorem pt_iff {a k : List Int} : ptB a k = true ↔ 4 ≤ a.length ∧ ∃ i, i < a.length ∧ shB a k i = true := by
  unfold ptB shps
  split
  · rename_i h
    simp; omega
  · rename_i h
    have : (((shpL a k a.length).length : Int) != 0) = true ↔ shpL a k a.length ≠ [] := by
      cases shpL a k a.length <;> simp; omega
    rw [this]
    refine ⟨fun h' => ⟨by omega, shpL_ne h'⟩, fun ⟨_, i, hi, hb⟩ e => ?_⟩
    rw [shpL_nil e i hi] at hb; cases hb
theorem rot_get {l : List Int} {i j : Nat} (hi : i ≤ l.length) (hj : j < l.length) : (rotL l i)[j]?.getD 0 = l[(j + i) % l.length]?.getD 0 := by
  rw [rotL, List.getElem?_append]
  by_cases h : j < l.length - i
  · rw [if_pos (by simp; omega), List.getElem?_drop, Nat.mod_eq_of_lt (by omega), Nat.add_comm]
  · rw [if_neg (by simp; omega), List.length_drop, List.getElem?_take, if_pos (by omega)]
    congr 2
    rw [show j + i = j - (l.length - i) + l.length by omega, Nat.add_mod_right, Nat.mod_eq_of_lt (by omega)]
theorem rot_rot {l : List Int} {i : Nat} (hi : i ≤ l.length) : rotL (rotL l i) (l.length - i) = l := by
  have hB : (l.drop i).length = l.length - i := by simp
  rw [← hB]
  unfold rotL
  rw [List.drop_left, List.take_left, List.take_append_drop]
theorem pt_rot1 {a k : List Int} (hk : a.length = k.length) {i : Nat} (hi : i ≤ a.length) (h : ptB (rotL a i) (rotL k i) = true) : ptB a k = true := by
  rw [pt_iff] at h ⊢
  obtain ⟨h4, j, hj, hb⟩ := h
  rw [len_rot] at h4 hj
  refine ⟨h4, (j + i) % a.length, Nat.mod_lt _ (by omega), ?_⟩
  rw [shB_iff] at hb ⊢
  rw [len_rot] at hb
  have hj1 : (j + 1) % a.length < a.length := Nat.mod_lt _ (by omega)
  have hj2 : (j + a.length - 1) % a.length < a.length := Nat.mod_lt _ (by omega)
  rw [rot_get hi hj, rot_get hi hj1, rot_get hi hj2, rot_get (hk ▸ hi) (hk ▸ hj), rot_get (hk ▸ hi) (hk ▸ hj1), ← hk] at hb
  have e1 : ((j + 1) % a.length + i) % a.length = ((j + i) % a.length + 1) % a.length := by
    rw [Nat.mod_add_mod, Nat.mod_add_mod]; congr 1; omega
  have e2 : ((j + a.length - 1) % a.length + i) % a.length = ((j + i) % a.length + a.length - 1) % a.length := by
    have : (j + i) % a.length + a.length - 1 = (j + i) % a.length + (a.length - 1) := by omega
    rw [this, Nat.mod_add_mod, Nat.mod_add_mod]; congr 1; omega
  rw [e1, e2] at hb
  exact hb
theorem pt_rot {a k : List Int} (hk : a.length = k.length) {i : Nat} (hi : i ≤ a.length) : ptB (rotL a i) (rotL k i) = ptB a k := by
  rw [Bool.eq_iff_iff]
  refine ⟨pt_rot1 hk hi, fun h => ?_⟩
  refine pt_rot1 (i := a.length - i) (by rw [len_rot, len_rot, hk]) (by rw [len_rot]; omega) ?_
  rw [rot_rot hi, hk, rot_rot (hk ▸ hi)]
  exact h
theorem mir_get {k : List Int} {j : Nat} (hj : j < k.length) : (mirK k)[j]?.getD 0 = k[(k.length - j) % k.length]?.getD 0 := by
  have hl : k.reverse.length = k.length := List.length_reverse
  rw [mirK, rot_get (by rw [hl]; omega) (by rw [hl]; exact hj), hl, rev_get (Nat.mod_lt _ (by omega))]
  congr 2
  by_cases h : j = 0
  · subst h
    rw [Nat.zero_add, Nat.mod_eq_of_lt (by omega), Nat.sub_zero, Nat.mod_self]; omega
  · rw [show j + (k.length - 1) = j - 1 + k.length by omega, Nat.add_mod_right, Nat.mod_eq_of_lt (by omega), Nat.mod_eq_of_lt (by omega)]; omega
theorem mir_mir (k : List Int) : mirK (mirK k) = k := by
  refine ext_getD (by rw [len_mir, len_mir]) fun m hm => ?_
  rw [len_mir, len_mir] at hm
  rw [mir_get (by rw [len_mir]; exact hm), len_mir, mir_get (Nat.mod_lt _ (by omega))]
  congr 2
  by_cases h : m = 0
  · subst h; simp
  · rw [Nat.mod_eq_of_lt (a := k.length - m) (by omega), Nat.mod_eq_of_lt (by omega)]; omega
theorem pt_mir1 {a k : List Int} (hk : a.length = k.length) (h : ptB a.reverse (mirK k) = true) : ptB a k = true := by
  rw [pt_iff] at h ⊢
  obtain ⟨h4, j, hj, hb⟩ := h
  rw [List.length_reverse] at h4 hj
  refine ⟨h4, a.length - 1 - j, by omega, ?_⟩
  rw [shB_iff] at hb ⊢
  rw [List.length_reverse] at hb
  have hj1 : (j + 1) % a.length < a.length := Nat.mod_lt _ (by omega)
  have hj2 : (j + a.length - 1) % a.length < a.length := Nat.mod_lt _ (by omega)
  rw [rev_get hj, rev_get hj1, rev_get hj2, mir_get (hk ▸ hj), mir_get (hk ▸ hj1), ← hk] at hb
  have e1 : a.length - 1 - (j + 1) % a.length = (a.length - 1 - j + a.length - 1) % a.length := by
    by_cases e : j + 1 = a.length
    · rw [e, Nat.mod_self, Nat.mod_eq_of_lt (by omega)]; omega
    · rw [Nat.mod_eq_of_lt (by omega), show a.length - 1 - j + a.length - 1 = a.length - 1 - (j + 1) + a.length by omega, Nat.add_mod_right, Nat.mod_eq_of_lt (by omega)]
  have e2 : a.length - 1 - (j + a.length - 1) % a.length = (a.length - 1 - j + 1) % a.length := by
    by_cases e : j = 0
    · subst e
      rw [Nat.zero_add, Nat.mod_eq_of_lt (by omega), show a.length - 1 - 0 + 1 = a.length by omega, Nat.mod_self]; omega
    · rw [show j + a.length - 1 = j - 1 + a.length by omega, Nat.add_mod_right, Nat.mod_eq_of_lt (by omega), Nat.mod_eq_of_lt (by omega)]; omega
  have e3 : (a.length - j) % a.length = (a.length - 1 - j + 1) % a.length := by congr 1; omega
  have e4 : (a.length - (j + 1) % a.length) % a.length = a.length - 1 - j := by
    by_cases e : j + 1 = a.length
    · rw [e, Nat.mod_self, Nat.sub_zero, Nat.mod_self]; omega
    · rw [Nat.mod_eq_of_lt (a := j + 1) (by omega), Nat.mod_eq_of_lt (by omega)]; omega
  rw [e1, e2, e3, e4] at hb
  exact ⟨hb.2.1, hb.1, hb.2.2.1.symm, by rw [← hb.2.2.1]; exact hb.2.2.2⟩
theorem pt_mir {a k : List Int} (hk : a.length = k.length) : ptB a.reverse (mirK k) = ptB a k := by
  rw [Bool.eq_iff_iff]
  refine ⟨pt_mir1 hk, fun h => ?_⟩
  refine pt_mir1 (by rw [List.length_reverse, len_mir, hk]) ?_
  rw [List.reverse_reverse, mir_mir]; exact h
theorem ov_get {k : List Int} {j : Nat} (hj : j < k.length) : (ovK k)[j]?.getD 0 = if k[j]?.getD 0 = 1 ∨ k[j]?.getD 0 = 2 then 3 - k[j]?.getD 0 else k[j]?.getD 0 := by
  rw [ovK, List.getElem?_map, List.getElem?_eq_getElem hj]; rfl
theorem pt_ov {a k : List Int} (hk : a.length = k.length) (h3 : ∀ x ∈ k, 1 ≤ x ∧ x ≤ 3) : ptB a (ovK k) = ptB a k := by
  rw [Bool.eq_iff_iff, pt_iff, pt_iff]
  refine and_congr_right fun h4 => exists_congr fun i => and_congr_right fun hi => ?_
  rw [shB_iff, shB_iff]
  have hj1 : (i + 1) % a.length < a.length := Nat.mod_lt _ (by omega)
  rw [ov_get (hk ▸ hi), ov_get (hk ▸ hj1)]
  have g1 := h3 _ (getD_mem (l := k) (n := i) (by omega))
  have g2 := h3 _ (getD_mem (l := k) (n := (i + 1) % a.length) (by omega))
  generalize k[i]?.getD 0 = u at *
  generalize k[(i + 1) % a.length]?.getD 0 = v at *
  split <;> split <;> omega
theorem odd_iff (a : List Int) : oddB a = true ↔ a.length % 2 = 1 := by
  unfold oddB; rw [tmod2, beq_iff_eq]; omega
theorem lk_of {a k b q : List Int} (hl : b.length = a.length) (h1 : a.length % 2 = 0 → unevB b = unevB a) (h2 : unbB b q = unbB a k) (h3 : ptB b q = ptB a k) : lk b q = lk a k := by
  have ho : oddB b = oddB a := by rw [Bool.eq_iff_iff, odd_iff, odd_iff, hl]
  unfold lk
  rw [ho, h2, h3]
  by_cases e : oddB a = true
  · rw [if_pos e, if_pos e]
  · rw [if_neg e, if_neg e, h1 (by rw [odd_iff] at e; omega)]
theorem dif_eq {k q : List Int} (h : ∀ x, cntK q x = cntK k x) : dif q = dif k := by rw [dif, dif, h, h]
theorem lk_rot {a k : List Int} (hc : chk a k = 0) {i : Nat} (hi : i ≤ a.length) : lk (rotL a i) (rotL k i) = lk a k := by
  have hk := chk_len hc
  refine lk_of (len_rot _ _) (fun he => unev_rot hi he) (unb_of (len_rot _ _).symm (.inl (dif_eq fun x => cntK_rot _ _ x)) (cntK_rot _ _ 3)) (pt_rot hk hi)
theorem lk_mir {a k : List Int} (hc : chk a k = 0) : lk a.reverse (mirK k) = lk a k := by
  have hk := chk_len hc
  refine lk_of List.length_reverse (fun he => unev_rev) (unb_of List.length_reverse.symm (.inl (dif_eq fun x => cntK_mir _ x)) (cntK_mir _ 3)) (pt_mir hk)
theorem lk_ov {a k : List Int} (hc : chk a k = 0) : lk a (ovK k) = lk a k := by
  obtain ⟨hk, _, h3⟩ := chk_ok hc
  obtain ⟨g1, g2, g3⟩ := cntK_ov h3
  refine lk_of rfl (fun _ => rfl) (unb_of rfl (.inr (by rw [dif, dif, g1, g2]; omega)) g3) (pt_ov hk h3)
end Go.Proofs.YtidpllnmghgomaaDoor.X
