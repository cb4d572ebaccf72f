/-
 Plain facts: lists in order; the least of some; turns of a list.
-/
import Derived.Test.YtfafinkgmhkdmaaDoorVD3Z
set_option maxRecDepth 1000000
set_option linter.unusedVariables false
namespace Go.Proofs.YtfafinkgmhkdmaaDoor.X
open Go Go.Ab

def cmpL : List Int → List Int → Int
 | [], [] => 0
 | [], _ :: _ => -1
 | _ :: _, [] => 1
 | x :: a, y :: b => if x < y then -1 else if y < x then 1 else cmpL a b
theorem cmpL_anti : ∀ a b : List Int, cmpL a b = - cmpL b a
 | [], [] => rfl
 | [], _ :: _ => rfl
 | _ :: _, [] => rfl
 | x :: a, y :: b => by
  have ih := cmpL_anti a b
  simp only [cmpL]
  by_cases h1 : x < y
  ·rw [if_pos h1, if_neg (show ¬ y < x by omega), if_pos h1]
  ·rw [if_neg h1]
   by_cases h2 : y < x
   ·rw [if_pos h2, if_pos h2]; rfl
   ·rw [if_neg h2, if_neg h2, if_neg h1]; exact ih
theorem cmpL_zero : ∀ {a b : List Int}, cmpL a b = 0 → a = b
 | [], [], _ => rfl
 | [], _ :: _, h => by cases h
 | _ :: _, [], h => by cases h
 | x :: a, y :: b, h => by
  simp only [cmpL] at h
  split at h
  ·cases h
  ·split at h
   ·cases h
   ·have := cmpL_zero h
    have e : x = y := by omega
    rw [this, e]
theorem cmpL_self (a : List Int) : cmpL a a = 0 := by have := cmpL_anti a a; omega
theorem cmpL_trans : ∀ {a b c : List Int}, cmpL a b ≤ 0 → cmpL b c ≤ 0 → cmpL a c ≤ 0
 | [], _, [], _, _ => by simp [cmpL]
 | [], _, _ :: _, _, _ => by simp [cmpL]
 | x :: a, [], c, h, _ => by simp [cmpL] at h
 | x :: a, y :: b, [], _, h => by simp [cmpL] at h
 | x :: a, y :: b, z :: c, h1, h2 => by
  simp only [cmpL] at h1 h2 ⊢
  split
  ·decide
  ·split
   ·split at h1
    ·split at h2
     ·omega
     ·split at h2 <;> omega
    ·split at h1
     ·omega
     ·split at h2
      ·omega
      ·split at h2 <;> omega
   ·split at h1
    ·split at h2
     ·omega
     ·split at h2 <;> omega
    ·split at h1
     ·omega
     ·split at h2
      ·omega
      ·split at h2
       ·omega
       ·exact cmpL_trans h1 h2
theorem cmpL_app : ∀ {a b k j : List Int}, a.length = b.length → cmpL (a ++ k) (b ++ j) = if cmpL a b = 0 then cmpL k j else cmpL a b
 | [], [], k, j, _ => by simp [cmpL]
 | x :: a, y :: b, k, j, h => by
  simp only [List.cons_append, cmpL]
  have ih := cmpL_app (k := k) (j := j) (show a.length = b.length by simpa using h)
  split
  ·rfl
  ·split
   ·rfl
   ·exact ih
 | [], _ :: _, k, j, h => by simp at h
 | _ :: _, [], k, j, h => by simp at h
/-- The first of the least ones. -/
def bestN (f : Nat → List Int) : Nat → Nat
 | 0 => 0
 | m + 1 => if cmpL (f m) (f (bestN f m)) < 0 then m else bestN f m
theorem best_lt (f : Nat → List Int) : ∀ n, bestN f n ≤ n - 1
 | 0 => Nat.le_refl _
 | m + 1 => by
  have := best_lt f m
  unfold bestN
  split <;> omega
theorem best_le (f : Nat → List Int) : ∀ n i, i < n → cmpL (f (bestN f n)) (f i) ≤ 0
 | 0, i, h => by omega
 | m + 1, i, h => by
  have hb := best_le f m
  unfold bestN
  split
  ·rename_i hc
   by_cases e : i = m
   ·rw [e, cmpL_self]; omega
   ·exact cmpL_trans (by omega) (hb i (by omega))
  ·rename_i hc
   by_cases e : i = m
   ·have := cmpL_anti (f (bestN f m)) (f m)
    rw [e]; omega
   ·exact hb i (by omega)
theorem best_same {f g : Nat → List Int} {n : Nat} (hn : 0 < n) (h1 : ∀ i, i < n → ∃ j, j < n ∧ f i = g j) (h2 : ∀ i, i < n → ∃ j, j < n ∧ g i = f j) : f (bestN f n) = g (bestN g n) := by
 have l1 := best_lt f n
 have l2 := best_lt g n
 obtain ⟨j, hj, e1⟩ := h1 (bestN f n) (by omega)
 obtain ⟨i, hi, e2⟩ := h2 (bestN g n) (by omega)
 apply cmpL_zero
 have q1 := best_le g n j hj
 have q2 := best_le f n i hi
 rw [← e1] at q1
 rw [← e2] at q2
 have := cmpL_anti (f (bestN f n)) (g (bestN g n))
 omega
theorem rot_len (l : List Int) (i : Nat) : (rotL' l i).length = l.length := by simp [rotL']; omega
theorem rot_get {l : List Int} {i m : Nat} (hi : i ≤ l.length) (hm : m < l.length) : (rotL' l i)[m]?.getD 0 = l[(m + i) % l.length]?.getD 0 := by
 unfold rotL'
 by_cases h : m < l.length - i
 ·rw [List.getElem?_append_left (by simp; omega), List.getElem?_drop, Nat.mod_eq_of_lt (by omega), Nat.add_comm]
 ·rw [List.getElem?_append_right (by simp; omega), List.getElem?_take, List.length_drop]
  have e : (m + i) % l.length = m - (l.length - i) := by
   rw [show m + i = (m - (l.length - i)) + l.length by omega, Nat.add_mod_right, Nat.mod_eq_of_lt (by omega)]
  rw [if_pos (by omega), e]
theorem ext_D {a b : List Int} (hl : a.length = b.length) (h : ∀ m, m < a.length → a[m]?.getD 0 = b[m]?.getD 0) : a = b := by
 refine List.ext_getElem hl fun m h1 h2 => ?_
 have := h m h1
 rwa [List.getElem?_eq_getElem h1, List.getElem?_eq_getElem h2] at this
theorem rot_rot {l : List Int} {i j : Nat} (hi : i < l.length) (hj : j < l.length) : rotL' (rotL' l i) j = rotL' l ((i + j) % l.length) := by
 have hm : (i + j) % l.length < l.length := Nat.mod_lt _ (by omega)
 refine ext_D (by rw [rot_len, rot_len, rot_len]) fun m h => ?_
 rw [rot_len, rot_len] at h
 have hm2 : (m + j) % l.length < l.length := Nat.mod_lt _ (by omega)
 rw [rot_get (by rw [rot_len]; omega) (by rw [rot_len]; omega), rot_len, rot_get (by omega) hm2, rot_get (by omega) h]
 congr 2
 rw [Nat.mod_add_mod, Nat.add_mod_mod]
 congr 1; omega
/-- The turns of a fan, each as one list. -/
def trn (a k : List Int) (i : Nat) : List Int := rotL' a i ++ rotL' k i
def lsI (a k : List Int) : Nat := bestN (trn a k) a.length
def lsA (a k : List Int) : List Int := rotL' a (lsI a k)
def lsK (a k : List Int) : List Int := rotL' k (lsI a k)
theorem ls_rot {a k : List Int} {i : Nat} (hk : k.length = a.length) (hi : i < a.length) : lsA (rotL' a i) (rotL' k i) = lsA a k ∧ lsK (rotL' a i) (rotL' k i) = lsK a k := by
 have hf : ∀ j, j < a.length → trn (rotL' a i) (rotL' k i) j = trn a k ((i + j) % a.length) := fun j hj => by
  unfold trn
  rw [rot_rot hi hj, rot_rot (by omega) (by omega), hk]
 have key := best_same (f := trn (rotL' a i) (rotL' k i)) (g := trn a k) (n := a.length) (by omega) (fun j hj => ⟨(i + j) % a.length, Nat.mod_lt _ (by omega), hf j hj⟩) (fun j hj => by
  refine ⟨(j + (a.length - i)) % a.length, Nat.mod_lt _ (by omega), ?_⟩
  rw [hf _ (Nat.mod_lt _ (by omega)), Nat.add_mod_mod]
  congr 1
  rw [show i + (j + (a.length - i)) = j + a.length by omega, Nat.add_mod_right, Nat.mod_eq_of_lt hj])
 have e : lsI (rotL' a i) (rotL' k i) = bestN (trn (rotL' a i) (rotL' k i)) a.length := by unfold lsI; rw [rot_len]
 have key2 : rotL' (rotL' a i) (lsI (rotL' a i) (rotL' k i)) ++ rotL' (rotL' k i) (lsI (rotL' a i) (rotL' k i)) = rotL' a (lsI a k) ++ rotL' k (lsI a k) := by
  rw [e]; exact key
 exact List.append_inj key2 (by unfold lsA; rw [rot_len, rot_len, rot_len])
theorem ls_le {a k : List Int} {i : Nat} (hi : i < a.length) : cmpL (lsA a k ++ lsK a k) (rotL' a i ++ rotL' k i) ≤ 0 := best_le (trn a k) a.length i hi
theorem ls_lt (a k : List Int) : lsI a k ≤ a.length - 1 := best_lt _ _
end Go.Proofs.YtfafinkgmhkdmaaDoor.X
