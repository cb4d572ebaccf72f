/-
  Plain laws: all ways to decide a fan.
-/
import Derived.Test.YtidpllnmghgomaaDoorC9Z
import Derived.Test.YtidpllnmghgomaaDoorD10Z
import Derived.Test.YtidpllnmghgomaaDoorAb6
set_option maxRecDepth 1000000
set_option linter.unusedVariables false
set_option linter.unusedSimpArgs false
namespace Go.Proofs.YtidpllnmghgomaaDoor.X
open Go Go.Ab

theorem mem_ext {x : Int} {q r : List Int} : r ∈ ext x q ↔ ((x = 3 ∨ x = 1) ∧ r = q ++ [1]) ∨ ((x = 3 ∨ x = 2) ∧ r = q ++ [2]) := by
  unfold ext ext1
  rw [List.mem_append]
  constructor
  · rintro (h | h)
    · split at h
      · rename_i c; exact .inl ⟨c, by simpa using h⟩
      · simp at h
    · split at h
      · rename_i c; exact .inr ⟨c, by simpa using h⟩
      · simp at h
  · rintro (⟨c, rfl⟩ | ⟨c, rfl⟩)
    · rw [if_pos c]; simp
    · rw [if_pos c]; simp
theorem mem_decs {k : List Int} {n : Nat} {r : List Int} : r ∈ decs k (n + 1) ↔ ∃ q, q ∈ decs k n ∧ r ∈ ext (k[n]?.getD 0) q := by
  simp only [decs, List.mem_flatMap]
theorem decs_len {k : List Int} : ∀ {n : Nat} {q : List Int}, q ∈ decs k n → q.length = n
  | 0, q, h => by simp [decs] at h; simp [h]
  | n + 1, q, h => by
    obtain ⟨p, hp, he⟩ := mem_decs.1 h
    have := decs_len hp
    rcases mem_ext.1 he with ⟨_, rfl⟩ | ⟨_, rfl⟩ <;> simp [this]
theorem ext_le (x : Int) (q : List Int) : (ext x q).length ≤ 2 := by
  unfold ext ext1
  split <;> split <;> simp
theorem flat_le (x : Int) : ∀ L : List (List Int), (L.flatMap (ext x)).length ≤ 2 * L.length
  | [] => by simp
  | q :: L => by
    have := flat_le x L
    have := ext_le x q
    rw [List.flatMap_cons, List.length_append, List.length_cons]; omega
theorem decs_le (k : List Int) : ∀ n, (decs k n).length ≤ 2 ^ n
  | 0 => by simp [decs]
  | n + 1 => by
    have := decs_le k n
    have := flat_le (k[n]?.getD 0) (decs k n)
    simp only [decs, Nat.pow_succ]; omega
theorem cntK_app2 (x : Int) : ∀ (l r : List Int), cntK (l ++ r) x = cntK l x + cntK r x
  | [], r => by simp [cntK]
  | a :: l, r => by simp only [List.cons_append, cntK, cntK_app2 x l]; omega
theorem cnt_take {k : List Int} {n : Nat} (h : n < k.length) (x : Int) : cntK (k.take (n + 1)) x = cntK (k.take n) x + (if k[n]?.getD 0 = x then 1 else 0) := by
  rw [List.take_add_one, List.getElem?_eq_getElem h, cntK_app2, Option.getD_some]
  simp only [Option.toList, cntK]
  by_cases e : k[n] = x
  · rw [if_pos e, beq_iff_eq.2 e]; simp
  · rw [if_neg e, beq_eq_false_iff_ne.2 e]; simp
theorem cnt_snoc (q : List Int) (c x : Int) : cntK (q ++ [c]) x = cntK q x + (if c = x then 1 else 0) := by
  rw [cntK_app2]
  simp only [cntK]
  by_cases e : c = x
  · rw [if_pos e, beq_iff_eq.2 e]; simp
  · rw [if_neg e, beq_eq_false_iff_ne.2 e]; simp
theorem getD_in {k : List Int} (hk : ∀ x ∈ k, 1 ≤ x ∧ x ≤ 3) {n : Nat} (h : n < k.length) : 1 ≤ k[n]?.getD 0 ∧ k[n]?.getD 0 ≤ 3 := hk _ (getD_mem h)
theorem decs_cnt {k : List Int} (hk : ∀ x ∈ k, 1 ≤ x ∧ x ≤ 3) : ∀ {n : Nat}, n ≤ k.length → ∀ {q : List Int}, q ∈ decs k n → cntK (k.take n) 1 ≤ cntK q 1 ∧ cntK q 1 ≤ cntK (k.take n) 1 + cntK (k.take n) 3
  | 0, _, q, h => by simp [decs] at h; subst h; simp [cntK]
  | n + 1, hn, q, h => by
    obtain ⟨p, hp, he⟩ := mem_decs.1 h
    have ih := decs_cnt hk (by omega) hp
    have hx := getD_in hk (show n < k.length by omega)
    rw [cnt_take (by omega), cnt_take (by omega)]
    rcases mem_ext.1 he with ⟨c, rfl⟩ | ⟨c, rfl⟩
    all_goals
      rw [cnt_snoc]
      rcases c with c | c <;> rw [c] <;> simp <;> omega
theorem decs_ex {k : List Int} (hk : ∀ x ∈ k, 1 ≤ x ∧ x ≤ 3) : ∀ {n : Nat}, n ≤ k.length → ∀ {j : Int}, 0 ≤ j → j ≤ cntK (k.take n) 3 → ∃ q, q ∈ decs k n ∧ cntK q 1 = cntK (k.take n) 1 + j
  | 0, _, j, h0, h1 => ⟨[], by simp [decs], by simp [cntK] at h1 ⊢; omega⟩
  | n + 1, hn, j, h0, h1 => by
    have hx := getD_in hk (show n < k.length by omega)
    rw [cnt_take (by omega)] at h1 ⊢
    have go : ∀ (c : Int) (j' : Int), (c = 1 ∨ c = 2) → (k[n]?.getD 0 = 3 ∨ k[n]?.getD 0 = c) → 0 ≤ j' → j' ≤ cntK (k.take n) 3 → ∃ q, q ∈ decs k (n + 1) ∧ cntK q 1 = cntK (k.take n) 1 + j' + (if c = 1 then 1 else 0) := fun c j' hc hx' g0 g1 => by
      obtain ⟨q, g2, g3⟩ := decs_ex hk (n := n) (by omega) g0 g1
      refine ⟨q ++ [c], mem_decs.2 ⟨q, g2, mem_ext.2 ?_⟩, by rw [cnt_snoc, g3]⟩
      rcases hc with rfl | rfl
      · exact .inl ⟨hx', rfl⟩
      · exact .inr ⟨hx', rfl⟩
    obtain h | h | h : k[n]?.getD 0 = 1 ∨ k[n]?.getD 0 = 2 ∨ k[n]?.getD 0 = 3 := by omega
    · rw [h] at h1
      obtain ⟨q, g1, g2⟩ := go 1 j (.inl rfl) (.inr h) h0 (by simpa using h1)
      exact ⟨q, g1, by rw [g2, h]; simp; omega⟩
    · rw [h] at h1
      obtain ⟨q, g1, g2⟩ := go 2 j (.inr rfl) (.inr h) h0 (by simpa using h1)
      exact ⟨q, g1, by rw [g2, h]; simp⟩
    · rw [h] at h1 ⊢
      by_cases hj : j ≤ cntK (k.take n) 3
      · obtain ⟨q, g1, g2⟩ := go 2 j (.inr rfl) (.inl h) h0 hj
        exact ⟨q, g1, by rw [g2]; simp⟩
      · obtain ⟨q, g1, g2⟩ := go 1 (j - 1) (.inl rfl) (.inl h) (by have := (cntK_bound (k.take n) 3).1; omega) (by simp at h1; omega)
        exact ⟨q, g1, by rw [g2]; simp; omega⟩
theorem cnt_all : ∀ {k : List Int}, (∀ x ∈ k, 1 ≤ x ∧ x ≤ 3) → cntK k 1 + cntK k 2 + cntK k 3 = k.length
  | [], _ => by simp [cntK]
  | a :: k, h => by
    have := cnt_all (k := k) (fun x hx => h x (by simp [hx]))
    have ha := h a (by simp)
    simp only [cntK, List.length_cons]
    obtain rfl | rfl | rfl : a = 1 ∨ a = 2 ∨ a = 3 := by omega
    all_goals simp; omega
/-- Every way: its difference. -/
theorem way_d {k : List Int} (hk : ∀ x ∈ k, 1 ≤ x ∧ x ≤ 3) {q : List Int} (hq : q ∈ decs k k.length) : ∃ j : Nat, (j : Int) ≤ cntK k 3 ∧ cntK q 1 = cntK k 1 + j ∧ dOf q = dif k - cntK k 3 + 2 * j ∧ q.length = k.length := by
  have h1 := decs_cnt hk (Nat.le_refl _) hq
  have h2 := decs_len hq
  have h3 := cnt_all hk
  rw [List.take_length] at h1
  refine ⟨(cntK q 1 - cntK k 1).toNat, by omega, by omega, ?_, h2⟩
  unfold dOf dif
  rw [h2]; omega
theorem way_ex {k : List Int} (hk : ∀ x ∈ k, 1 ≤ x ∧ x ≤ 3) {j : Nat} (hj : (j : Int) ≤ cntK k 3) : ∃ q, q ∈ decs k k.length ∧ cntK q 1 = cntK k 1 + j ∧ dOf q = dif k - cntK k 3 + 2 * j := by
  obtain ⟨q, h1, h2⟩ := decs_ex hk (Nat.le_refl _) (show 0 ≤ (j : Int) by omega) (by rw [List.take_length]; exact hj)
  rw [List.take_length] at h2
  obtain ⟨j', g1, g2, g3, g4⟩ := way_d hk h1
  exact ⟨q, h1, h2, by omega⟩
theorem fansL_get {p : List Int} {L : List (List Int)} {j i : Nat} (hj : j < L.length) (hi : i < 2) : (((fansL p L).drop (j * 2)).drop i)[0]? = (fanL p (L[j]?.getD []))[i]? := by
  rw [List.getElem?_drop, List.getElem?_drop]
  have := flatMap_get (f := fanL p) (z := 2) (l := L) (fun x _ => rfl) (i := j) (j := i) (a := L[j]?.getD []) (by rw [List.getElem?_eq_getElem hj]; rfl) hi
  simpa [fansL, Nat.add_assoc] using this
theorem fansL_app (p : List Int) (L M : List (List Int)) : fansL p (L ++ M) = fansL p L ++ fansL p M := by simp [fansL]
theorem fansL_len (p : List Int) (L : List (List Int)) : (fansL p L).length = L.length * 2 := by
  unfold fansL; rw [flatMap_len (z := 2) (fun x _ => rfl)]
theorem extN_step (x : Int) (q : List Int) {c : Nat} (h1 : 1 ≤ c) (h2 : c ≤ 2) : extN x q (c + 1) = extN x q c ++ ext1 x c q := by
  obtain rfl | rfl : c = 1 ∨ c = 2 := by omega
  · rfl
  · rfl
theorem flat_take {x : Int} {L : List (List Int)} {j : Nat} (h : j < L.length) : (L.take (j + 1)).flatMap (ext x) = (L.take j).flatMap (ext x) ++ ext x (L[j]?.getD []) := by
  rw [List.take_add_one, List.getElem?_eq_getElem h, List.flatMap_append]
  simp [Option.toList]
end Go.Proofs.YtidpllnmghgomaaDoor.X
