/-
  The law on texts.
-/
import Derived.Test.YtpkmnabefnhcfaaDoorTC5Z
set_option maxRecDepth 1000000
set_option linter.unusedVariables false
set_option linter.unusedSimpArgs false
namespace Go.Proofs.YtpkmnabefnhcfaaDoor.X
open Go Go.Ab

theorem idx_mem : ∀ (l : List UInt8) (i : Int), 0 ≤ i → (∃ x ∈ l, x.toNat = 45) → 0 ≤ idxB l (45 : Int).toNat.toUInt8 i
  | [], i, h, ⟨x, hx, _⟩ => by simp at hx
  | b :: l, i, h, hx => by
    rw [idxB, cond_eq_ite]
    split
    · exact h
    · rename_i hb
      refine idx_mem l (i + 1) (by omega) ?_
      obtain ⟨x, hx, he⟩ := hx
      rcases List.mem_cons.1 hx with rfl | hx
      · exfalso; apply hb; rw [he]; rfl
      · exact ⟨x, hx, he⟩
theorem hasM_yes {s : List UInt8} (h : ∃ x ∈ s, x.toNat = 45) : hasM s = true := leb_iff.2 (idx_mem s 0 (by omega) h)
theorem hasM_no {s : List UInt8} (h : ∀ x ∈ s, x.toNat ≠ 45) : hasM s = false := by
  unfold hasM
  rw [ix_none (b := 45) h]; rfl
theorem let_ok : ∀ m : Nat, m < 5 → m ≠ 0 → ((letters.getD m 0).toNat < 128 ∧ (letters.getD m 0).toNat ≠ 45 ∧ max (ixR (letters.getD m 0).toNat) 0 = m) := by decide
theorem parse_txt {k c : Int} (h : vl k c = true) : pOk (txt k c) = true ∧ pK (txt k c) = k ∧ pC (txt k c) = c := by
  have hv := of_decide_eq_true h
  obtain ⟨m, rfl⟩ : ∃ m : Nat, k = m := ⟨k.toNat, (Int.toNat_of_nonneg (by omega)).symm⟩
  obtain ⟨l1, l2, l3⟩ := let_ok m (by omega) (by omega)
  have hmem : ∀ x ∈ txt m c, x.toNat < 128 ∧ (x.toNat = 45 → c < 0) := by
    intro x hx
    unfold txt at hx
    rcases List.mem_cons.1 hx with rfl | hx
    · exact ⟨l1, fun e => absurd e l2⟩
    rcases List.mem_cons.1 hx with rfl | hx
    · exact ⟨by decide, fun e => absurd e (by decide)⟩
    unfold decI at hx
    split at hx
    · rename_i hc
      rcases List.mem_cons.1 hx with rfl | hx
      · exact ⟨by decide, fun _ => hc⟩
      · exact ⟨(decN_mem (by omega) (by omega) x hx).1, fun _ => hc⟩
    · have := decN_mem (n := c) (by omega) (by omega) x hx
      exact ⟨this.1, fun e => absurd e this.2⟩
  have hpr : pr (txt m c) (txt m c).length 0 0 0 = ((m : Int), if c < 0 then -c else c) := by
    rw [pr_ascii (fun x hx => (hmem x hx).1) _ _ _ _ (by omega), List.drop_zero]
    have s1 : stA (letters.getD m 0) 0 0 0 = ((m : Int), 0) := by
      unfold stA; rw [if_pos rfl, l3]
    have s2 : stA 32 1 (m : Int) 0 = ((m : Int), 0) := by
      unfold stA; rw [if_neg (by omega), if_neg (by omega)]
    show foA (letters.getD m 0 :: 32 :: decI c) 0 0 0 = _
    simp only [foA, s1, s2]
    unfold decI
    split
    · have s3 : stA 45 2 (m : Int) 0 = ((m : Int), 0) := by
        unfold stA; rw [if_neg (by omega), if_neg (fun g => g.2.1 (by decide))]
      simp only [foA, s3]
      exact foA_dec (by omega) (by omega) (by omega) _
    · exact foA_dec (by omega) (by omega) (by omega) _
  have ek : pK (txt m c) = m := by unfold pK; rw [hpr]
  have ec : pC (txt m c) = c := by
    unfold pC
    rw [hpr]
    by_cases hc : c < 0
    · have : hasM (txt m c) = true := hasM_yes ⟨45, by unfold txt decI; rw [if_pos hc]; simp, rfl⟩
      rw [this, if_pos hc]; show - - c = c; omega
    · have : hasM (txt m c) = false := hasM_no fun x hx e => hc ((hmem x hx).2 e)
      rw [this, if_neg hc]; rfl
  refine ⟨?_, ek, ec⟩
  unfold pOk
  rw [ek, ec]
  unfold tx
  rw [if_pos h, beq_self_eq_true, Bool.and_true]
  rfl
theorem pOk_ok {s : List UInt8} (h : pOk s = true) : vl (pK s) (pC s) = true ∧ txt (pK s) (pC s) = s := by
  unfold pOk at h
  rw [Bool.and_eq_true, bne_iff_ne, beq_iff_eq] at h
  obtain ⟨h1, h2⟩ := h
  unfold tx at h2
  split at h2
  · rename_i h3; exact ⟨h3, h2⟩
  · exact absurd h2.symm h1
theorem T9ok : TabOk Tryd.prog G T9 := tabL_ok noCh_ok ⟨ct11, ct27, ct28, ct29, ct16, trivial⟩
theorem sp9 (k c : Int) (s : List UInt8) (hk : 0 ≤ k ∧ k ≤ 255) : SpecP Tryd.prog G 9 [lnV k c, .str s] (.bool true) [] := by
  refine fnP_spec hcm hmx T9ok ok9 rfl (ob_o9 k c s) ?_
  have hfold : letters.getD k.toNat 0 :: 32 :: decI c = txt k c := rfl
  have hfold2 : letters.getD (bI (pOk s) (pK s) 0).toNat 0 :: 32 :: decI (bI (pOk s) (pC s) 0) = txt (bI (pOk s) (pK s) 0) (bI (pOk s) (pC s) 0) := rfl
  rw [hfold, hfold2]
  have hd := decI_len c
  have htl : (txt k c).length ≤ 7 := by unfold txt; simp; omega
  by_cases hv : vl k c = true
  · obtain ⟨p1, p2, p3⟩ := parse_txt hv
    have htx : tx k c = txt k c := if_pos hv
    by_cases ho : pOk s = true
    · obtain ⟨g1, g2⟩ := pOk_ok ho
      simp [hv, p1, p2, p3, htx, ho, g1, g2, bI, hk]
      omega
    · have ho : pOk s = false := by simpa using ho
      simp [hv, p1, p2, p3, htx, ho, bI, hk]
      omega
  · have hv' : vl k c = false := by simpa using hv
    have htx : tx k c = [] := if_neg hv
    by_cases ho : pOk s = true
    · obtain ⟨g1, g2⟩ := pOk_ok ho
      simp [hv', htx, ho, g1, g2, bI, hk]
      omega
    · have ho : pOk s = false := by simpa using ho
      simp [hv', htx, ho, bI, hk]
      omega
end Go.Proofs.YtpkmnabefnhcfaaDoor.X
