/-
 The law on merging, in plain terms.
-/
import Derived.Test.YtmnaghfndigfkaaDoorCGZ
import Derived.Test.YtmnaghfndigfkaaDoorCFZ
set_option maxRecDepth 1000000
set_option linter.unusedVariables false
set_option linter.unusedSimpArgs false
namespace Go.Proofs.YtmnaghfndigfkaaDoor.X
open Go Go.Ab

theorem whB14 (a b : List Cl) (x : Cl) : whB 14 a b x = (hasL a x || hasL b x) := by
 unfold whB cdC
 cases hasL a x <;> cases hasL b x <;> decide
theorem whB8 (a b : List Cl) (x : Cl) : whB 8 a b x = (hasL a x && hasL b x) := by
 unfold whB cdC
 cases hasL a x <;> cases hasL b x <;> decide
theorem whB2 (a b : List Cl) (x : Cl) : whB 2 a b x = (hasL a x && !hasL b x) := by
 unfold whB cdC
 cases hasL a x <;> cases hasL b x <;> decide
theorem wh14 {a b : List Cl} (ha : Srt a) (hb : Srt b) : mrg 89 a b = whL 14 a b (a ++ b) := by
 obtain ⟨w1, w2, _⟩ := whL_ok 14 a b (a ++ b)
 refine srt_ext (mrg_srt _ ha hb) w1 fun x => ?_
 rw [mem_un ha hb, w2, whB14, Bool.or_eq_true, hasL_iff, hasL_iff, List.mem_append, and_self]
theorem wh8 {a b : List Cl} (ha : Srt a) (hb : Srt b) : mrg 90 a b = whL 8 a b (a ++ b) := by
 obtain ⟨w1, w2, _⟩ := whL_ok 8 a b (a ++ b)
 refine srt_ext (mrg_srt _ ha hb) w1 fun x => ?_
 rw [mem_in ha hb, w2, whB8, Bool.and_eq_true, hasL_iff, hasL_iff, List.mem_append]
 exact ⟨fun h => ⟨.inl h.1, h⟩, fun h => h.2⟩
theorem wh2 {a b : List Cl} (ha : Srt a) (hb : Srt b) : mrg 91 a b = whL 2 a b (a ++ b) := by
 obtain ⟨w1, w2, _⟩ := whL_ok 2 a b (a ++ b)
 refine srt_ext (mrg_srt _ ha hb) w1 fun x => ?_
 rw [mem_mi ha hb, w2, whB2, Bool.and_eq_true, Bool.not_eq_true', hasL_iff, hasL_no, List.mem_append]
 exact ⟨fun h => ⟨.inl h.1, h⟩, fun h => h.2⟩
theorem un_comm {a b : List Cl} (ha : Srt a) (hb : Srt b) : mrg 89 b a = mrg 89 a b := by
 refine srt_ext (mrg_srt _ hb ha) (mrg_srt _ ha hb) fun x => ?_
 rw [mem_un ha hb, mem_un hb ha]; exact Or.comm
theorem in_comm {a b : List Cl} (ha : Srt a) (hb : Srt b) : mrg 90 b a = mrg 90 a b := by
 refine srt_ext (mrg_srt _ hb ha) (mrg_srt _ ha hb) fun x => ?_
 rw [mem_in ha hb, mem_in hb ha]; exact And.comm
theorem parts {a b : List Cl} (ha : Srt a) (hb : Srt b) : mrg 89 (mrg 90 a b) (mrg 91 a b) = a := by
 refine srt_ext (mrg_srt _ (mrg_srt _ ha hb) (mrg_srt _ ha hb)) ha fun x => ?_
 rw [mem_un (mrg_srt _ ha hb) (mrg_srt _ ha hb), mem_in ha hb, mem_mi ha hb]
 constructor
 ·rintro (h | h) <;> exact h.1
 ·intro h
  by_cases g : x ∈ b
  ·exact .inl ⟨h, g⟩
  ·exact .inr ⟨h, g⟩
theorem kp89 (p q : Bool) : kpF 89 p q = true := rfl
theorem kp90 (p q : Bool) : kpF 90 p q = (p && q) := rfl
theorem mrg_count : ∀ (n : Nat) (a b : List Cl), a.length + b.length ≤ n → (mrgF 89 n a b).length + (mrgF 90 n a b).length = a.length + b.length
 | 0, a, b, h => by simp only [mrgF, List.length_nil]; omega
 | n + 1, [], [], _ => rfl
 | n + 1, [], b :: s, h => by
  have := mrg_count n [] s (by simp at h ⊢; omega)
  simp [mrgF, kp89, kp90, addK] at this ⊢; omega
 | n + 1, a :: r, [], h => by
  have := mrg_count n r [] (by simp at h ⊢; omega)
  simp [mrgF, kp89, kp90, addK] at this ⊢; omega
 | n + 1, a :: r, b :: s, h => by
  simp only [List.length_cons] at h
  have h1 := mrg_count n r (b :: s) (by simp; omega)
  have h2 := mrg_count n (a :: r) s (by simp; omega)
  have h3 := mrg_count n r s (by omega)
  simp only [mrgF]
  cases ltC a b with
  | true => simp [kp89, kp90, addK] at h1 ⊢; omega
  | false =>
   cases ltC b a with
   | true => simp [kp89, kp90, addK] at h2 ⊢; omega
   | false => simp [kp89, kp90, addK] at h3 ⊢; omega
end Go.Proofs.YtmnaghfndigfkaaDoor.X
