/-
  Facts for the laws of the reductions.
-/
import Derived.Test.YtfafinkgmhkdmaaDoorO5Z
import Derived.Test.YtfafinkgmhkdmaaDoorC6Z
import Derived.Test.YtfafinkgmhkdmaaDoorLZ
set_option maxRecDepth 1000000
set_option linter.unusedVariables false
set_option linter.unusedSimpArgs false
namespace Go.Proofs.YtfafinkgmhkdmaaDoor.X
open Go Go.Ab

theorem okF_chk : ∀ {a k : List Int} {s : Int}, okF a k s = true → chkL a k (8 - s) = 0
  | [], [], s, h => rfl
  | x :: a, y :: k, s, h => by
    simp only [okF, Bool.and_eq_true, Bool.or_eq_true, beq_iff_eq, decide_eq_true_eq] at h
    obtain ⟨h1, h2, h3, h4⟩ := h
    simp only [chkL]
    rw [if_neg (by omega)]
    have := okF_chk h4
    have e : 8 - s + x = 8 - (s - x) := by omega
    rw [e]; exact this
  | [], y :: k, s, h => by simp [okF] at h
  | x :: a, [], s, h => by simp [okF] at h
theorem memB_no {l : List Int} {x : Int} (h : x ∉ l) : memB l x = false := by
  rw [Bool.eq_false_iff]; intro e; exact h (memB_true.1 e)
theorem dcd_of {a k : List Int} (h : okF a k 8 = true) : dcd a k = 0 := by
  have hl := (okF_len h).1
  have hc : chk a k = 0 := by
    unfold chk
    rw [if_pos hl.symm]; exact okF_chk h
  have h3 : memB k 3 = false := memB_no fun hm => by have := (okF_ok (by omega) h).2.2 3 hm; omega
  unfold dcd
  rw [if_pos hc, h3]; rfl
theorem okD_of {a k : List Int} (h : okF a k 8 = true) : okD a k = true := okD_iff.2 (dcd_of h)
/-- The law's fan is decided. -/
theorem d_ok {c l : Int} {ks : List Int} (h : okK ks) : okF (ofA c l ks) (vK (ofK c ks)) 8 = true := by
  obtain ⟨h1, h2, h3, h4⟩ := of_ok (c := c) (l := l) h
  have hv : ∀ x ∈ vK (ofK c ks), 1 ≤ x ∧ x ≤ 2 := by
    intro x hx
    obtain ⟨y, hy, rfl⟩ := List.mem_map.1 hx
    have := h4 y hy
    split <;> omega
  have hc : chk (ofA c l ks) (vK (ofK c ks)) = 0 := chk_of (by rw [len_v, h1]) h3 fun x hx => by have := hv x hx; omega
  refine dcd_ok ?_
  unfold dcd
  rw [if_pos hc, memB_no fun hm => by have := hv 3 hm; omega]; rfl
theorem uLok : CtsOk Tryd.prog G uL := ⟨ct12, ct14, ct22, ct15, ct16, uFok⟩
theorem ULok : TabOk Tryd.prog G UL := tabL_ok noCh_ok uLok
theorem doB_of {a k : List Int} {i : Int} (h : okF a k 8 = true) (hi : isS a k i = true) : doB a k i = true := by
  unfold doB; rw [okD_of h, hi]; rfl
theorem doE_of {a k : List Int} {i : Int} (h : okF a k 8 = true) (hi : isS a k i = true) : doE a k i = 0 := by
  unfold doE; rw [if_pos (dcd_of h), hi]; rfl
theorem isS_of {a k : List Int} {x : Int} (h : x ∈ stI a k) : isS a k x = true := memB_true.2 h
end Go.Proofs.YtfafinkgmhkdmaaDoor.X
