/-
  Plain facts: fans turned, mirrored, turned over fold if they did.
-/
import Derived.Test.YtfafinkgmhkdmaaDoorP1Z
set_option maxRecDepth 1000000
set_option linter.unusedVariables false
namespace Go.Proofs.YtfafinkgmhkdmaaDoor.X
open Go Go.Ab

def rotL' (l : List Int) (n : Nat) : List Int := l.drop n ++ l.take n
def mirK' (k : List Int) : List Int := rotL' k.reverse (k.length - 1)
def ovK' (k : List Int) : List Int := k.map fun x => if x = 1 ∨ x = 2 then 3 - x else x
def same2 (t : Bool) (a k : List Int) : Bool := okF a k 8 && look a k == t
def chk2 (a k : List Int) : Bool :=
  let t := look a k
  same2 t (rotL' a 1) (rotL' k 1) && (same2 t a.reverse (mirK' k) && same2 t a.reverse (ovK' (mirK' k)))
theorem all2 : allC chk2 9 [] [] 8 = true := by decide +kernel
theorem chk2_ok {a k : List Int} (h : okF a k 8 = true) : chk2 a k = true := by
  have := (okF_len h).2 (by omega)
  simpa using allC_ok a k 9 8 [] [] (by omega) all2 h
theorem same2_ok {a k b m : List Int} (h : okF a k 8 = true) (hs : same2 (look a k) b m = true) : okF b m 8 = true ∧ foldB b m = foldB a k := by
  simp only [same2, Bool.and_eq_true, beq_iff_eq] at hs
  exact ⟨hs.1, by rw [fold_look hs.1, fold_look h, hs.2]⟩
theorem fold_mir {a k : List Int} (h : okF a k 8 = true) : okF a.reverse (mirK' k) 8 = true ∧ foldB a.reverse (mirK' k) = foldB a k := by
  have := chk2_ok h
  simp only [chk2, Bool.and_eq_true] at this
  exact same2_ok h this.2.1
theorem fold_ov {a k : List Int} (h : okF a k 8 = true) : okF a.reverse (ovK' (mirK' k)) 8 = true ∧ foldB a.reverse (ovK' (mirK' k)) = foldB a k := by
  have := chk2_ok h
  simp only [chk2, Bool.and_eq_true] at this
  exact same2_ok h this.2.2
theorem fold_rot1 {a k : List Int} (h : okF a k 8 = true) : okF (rotL' a 1) (rotL' k 1) 8 = true ∧ foldB (rotL' a 1) (rotL' k 1) = foldB a k := by
  have := chk2_ok h
  simp only [chk2, Bool.and_eq_true] at this
  exact same2_ok h this.1
theorem rotL_succ {l : List Int} {n : Nat} (h : n < l.length) : rotL' l (n + 1) = rotL' (rotL' l n) 1 := by
  have e : l.drop n = l[n] :: l.drop (n + 1) := List.drop_eq_getElem_cons h
  have e2 : rotL' l n = l[n] :: (l.drop (n + 1) ++ l.take n) := by unfold rotL'; rw [e]; rfl
  rw [e2]
  unfold rotL'
  rw [← List.take_append_getElem h]
  simp
theorem fold_rot {a k : List Int} (h : okF a k 8 = true) : ∀ n, n ≤ a.length → okF (rotL' a n) (rotL' k n) 8 = true ∧ foldB (rotL' a n) (rotL' k n) = foldB a k
  | 0, _ => by simpa [rotL'] using h
  | n + 1, hn => by
    obtain ⟨h1, h2⟩ := fold_rot h n (by omega)
    have hk := (okF_len h).1
    rw [rotL_succ (l := a) (by omega), rotL_succ (l := k) (by omega), ← h2]
    exact fold_rot1 h1
end Go.Proofs.YtfafinkgmhkdmaaDoor.X
