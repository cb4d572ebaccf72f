/-
  The contracts of the functions on fans.
-/
import Derived.Test.YtidpllnmghgomaaDoorO1Z
import Derived.Test.YtidpllnmghgomaaDoorMZ
set_option maxRecDepth 1000000
set_option linter.unusedVariables false
set_option linter.unusedSimpArgs false
namespace Go.Proofs.YtidpllnmghgomaaDoor.X
open Go Go.Ab

theorem chkL_step {a k : List Int} {n : Nat} {s : Int} (h1 : n < a.length) (h2 : n < k.length) : chkL (a.drop n) (k.drop n) s = if a[n]?.getD 0 < 1 ∨ 8 - s < a[n]?.getD 0 ∨ k[n]?.getD 0 < 1 ∨ 3 < k[n]?.getD 0 then 1 else chkL (a.drop (n + 1)) (k.drop (n + 1)) (s + a[n]?.getD 0) := by
  rw [drop_step h1, drop_step h2]; rfl
theorem chkL_end {a k : List Int} {n : Nat} {s : Int} (h1 : a.length ≤ n) : chkL (a.drop n) (k.drop n) s = 0 := by
  rw [List.drop_of_length_le h1]; rfl

theorem sp18 (a k : List Int) (hz : a.length < 1000000000000) : SpecP Tryd.prog G 18 [fanV a k] (.int .i64 (chk a k)) [] := by
  refine fnP_spec hcm hmx T0ok ok18 rfl (ob_o18 a k) ?_
  simp only [bne_iff_ne, ne_eq, bne_eq_false_iff_eq, Int.natCast_inj, and_true, true_and]
  refine ⟨fun h => by simp [chk, h], fun h => ⟨⟨0, rfl, by simp, by decide, by decide, rfl⟩, ?_⟩⟩
  rintro ⟨i, s⟩ ⟨n, rfl, hn, h0, h8, hc⟩
  have hc' : chk a k = chkL (a.drop n) (k.drop n) s := by rw [← hc]; simp [chk, h]
  simp at h0 h8 ⊢
  refine ⟨fun hlt => ?_, fun hlt => by rw [hc', chkL_end (by omega)]⟩
  rw [chkL_step hlt (by omega)] at hc'
  have hb : 0 < a.length ∧ 0 < k.length := by omega
  refine ⟨hlt, by omega, by omega, fun h1 => by rw [hc', if_pos (.inl h1)], fun h1 => ⟨by omega, fun h2 => by rw [hc', if_pos (.inr (.inl h2))], fun h2 => ?_⟩⟩
  refine ⟨by omega, by omega, by omega, fun h3 => by rw [hc', if_pos (by omega)], fun h3 => ?_⟩
  refine ⟨by omega, by omega, by omega, fun h4 => by rw [hc', if_pos (by omega)], fun h4 => ?_⟩
  refine ⟨by omega, by omega, ⟨n + 1, by omega, by omega, by omega, by omega, ?_⟩, by omega⟩
  rw [if_neg (by omega)] at hc'
  rw [← hc']; simp [chk, h]
theorem ct18 : CtOk Tryd.prog G 18 e18 := by
  intro args r h hp
  unfold e18 at h
  split at h <;> cases h
  obtain ⟨rfl, rfl, hz⟩ := hp
  exact (sp18 _ _ hz).caps

theorem sp29 (a k : List Int) (h : okA a) : SpecP Tryd.prog G 29 [fanV a k] (.tup [.int .i64 (sumP true a), .int .i64 (sumP false a)]) [] := by
  have hlen : a.length ≤ 8 := by
    have key : ∀ l : List Int, (∀ x ∈ l, 1 ≤ x) → (l.length : Int) ≤ l.sum := by
      intro l
      induction l with
      | nil => simp
      | cons x r ih => intro h; have h1 := h x (by simp); have h2 := ih fun y hy => h y (by simp [hy]); simp; omega
    have := key a h.1; have := h.2; omega
  refine fnP_spec hcm hmx T0ok ok29 rfl (ob_o29 a k) ?_
  simp only [and_true, true_and]
  refine ⟨⟨0, rfl, by simp, by decide, by decide, by have := h.2; simpa using this, by simp, by simp⟩, ?_⟩
  rintro ⟨i, e, o⟩ ⟨n, rfl, hn, h0, h1, h2, h3, h4⟩
  simp at h0 h1 h2 h3 h4 ⊢
  refine ⟨fun hlt => ?_, fun hlt => ?_⟩
  · have hx := okA_get h hlt
    have hd := okA_drop h (n + 1)
    rw [sum_step hlt] at h2
    rw [sumP_step hlt] at h3 h4
    rw [tmod2]
    refine ⟨hlt, by omega, by omega, fun hm => ?_, fun hm => ?_⟩
    · have hm' : n % 2 = 0 := by omega
      refine ⟨by omega, by omega, ⟨n + 1, by omega, by omega, by omega, by omega, by omega, ?_, ?_⟩, by omega⟩
      · simp [hm', show (n + 1) % 2 = 1 by omega] at h3 ⊢; omega
      · simp [hm', show (n + 1) % 2 = 1 by omega] at h4 ⊢; omega
    · have hm' : n % 2 = 1 := by omega
      refine ⟨by omega, by omega, ⟨n + 1, by omega, by omega, by omega, by omega, by omega, ?_, ?_⟩, by omega⟩
      · simp [hm', show (n + 1) % 2 = 0 by omega] at h3 ⊢; omega
      · simp [hm', show (n + 1) % 2 = 0 by omega] at h4 ⊢; omega
  · rw [drop_end hlt] at h3 h4
    simp [sumP] at h3 h4
    exact ⟨h3, h4⟩
theorem ct29 : CtOk Tryd.prog G 29 e29 := by
  intro args r h hp
  unfold e29 at h
  split at h <;> cases h
  obtain ⟨rfl, rfl, hz⟩ := hp
  exact (sp29 _ _ hz).caps
theorem T1ok : TabOk Tryd.prog G T1 := tabL_ok noCh_ok ⟨ct18, ct29, trivial⟩

theorem sp16 (a k : List Int) (hz : a.length < 1000000000000) : SpecP Tryd.prog G 16 [fanV a k] (.tup [.int .i64 (bI (isOk a k) (sumP true a) 0), .int .i64 (bI (isOk a k) (sumP false a) 0), .int .i64 (chk a k)]) [] := by
  refine fnP_spec hcm hmx T1ok ok16 rfl (ob_o16 a k) ?_
  simp [isOk, hz]
  exact ⟨fun h => by have h' : (chk a k == 0) = false := by simpa using h
                     simp [h', bI], fun h => ⟨(chk_ok h).2.1, by simp [h, bI]⟩⟩
theorem ct16 : CtOk Tryd.prog G 16 e16 := by
  intro args r h hp
  unfold e16 at h
  split at h <;> cases h
  obtain ⟨rfl, rfl, hz⟩ := hp
  exact (sp16 _ _ hz).caps
theorem sp30 (a k : List Int) : SpecP Tryd.prog G 30 [fanV a k] (.bool (oddB a)) [] :=
  fnP_spec hcm hmx T1ok ok30 rfl (ob_o30 a k) (by simp [oddB])
theorem ct30 : CtOk Tryd.prog G 30 e30 := by
  intro args r h hp
  unfold e30 at h
  split at h <;> cases h
  obtain ⟨rfl, rfl⟩ := hp
  exact (sp30 _ _).caps
theorem sp31 (a k : List Int) (h : okA a) : SpecP Tryd.prog G 31 [fanV a k] (.bool (unevB a)) [] :=
  fnP_spec hcm hmx T1ok ok31 rfl (ob_o31 a k) (by simp [unevB, h])
theorem ct31 : CtOk Tryd.prog G 31 e31 := by
  intro args r h hp
  unfold e31 at h
  split at h <;> cases h
  obtain ⟨rfl, rfl, hz⟩ := hp
  exact (sp31 _ _ hz).caps
theorem tl2ok : CtsOk Tryd.prog G tl2 := ⟨ct30, ct31, ct18, ct29, trivial⟩
theorem T2ok : TabOk Tryd.prog G T2 := tabL_ok noCh_ok tl2ok
theorem sp17 (a k : List Int) (hz : a.length < 1000000000000) : SpecP Tryd.prog G 17 [fanV a k] (.tup [.bool (altB a k), .int .i64 (chk a k)]) [] := by
  refine fnP_spec hcm hmx T2ok ok17 rfl (ob_o17 a k) ?_
  simp [altB, isOk, hz]
  refine ⟨fun h => by simp [h], fun h => ⟨fun h1 => ⟨(chk_ok h).2.1, by simp [h, h1]⟩, fun h1 => by simp [h, h1]⟩⟩
theorem ct17 : CtOk Tryd.prog G 17 e17 := by
  intro args r h hp
  unfold e17 at h
  split at h <;> cases h
  obtain ⟨rfl, rfl, hz⟩ := hp
  exact (sp17 _ _ hz).caps
end Go.Proofs.YtidpllnmghgomaaDoor.X
