/-
  Plain laws: texts of lines, parsed.
-/
import Derived.Test.YtpkmnabefnhcfaaDoorTD4Z
import Derived.Test.YtpkmnabefnhcfaaDoorTC4Z
import Derived.Lib.DecodeN
set_option maxRecDepth 1000000
set_option linter.unusedVariables false
set_option linter.unusedSimpArgs false
namespace Go.Proofs.YtpkmnabefnhcfaaDoor.X
open Go Go.Ab

theorem decN_ok {n b0 b1 b2 b3 : Nat} (hn : 1 ≤ n) (h0 : b0 < 256) : (Lib.decodeN n b0 b1 b2 b3).1 ≤ 1114111 ∧ 1 ≤ (Lib.decodeN n b0 b1 b2 b3).2 ∧ (Lib.decodeN n b0 b1 b2 b3).2 ≤ n := by
  unfold Lib.decodeN
  repeat' split
  all_goals (refine ⟨?_, ?_, ?_⟩ <;> simp only <;> omega)
theorem rn_ok {s : List UInt8} {p : Nat} (h : p < s.length) : 0 ≤ rn s p ∧ rn s p ≤ 1114111 ∧ p < nxtP s p ∧ nxtP s p ≤ s.length := by
  have hs : (ByteArray.mk s.toArray).size = s.length := by simp [ByteArray.size]
  have hd := Lib.decode_at (ByteArray.mk s.toArray) p
  rw [hs] at hd
  have hk := decN_ok (n := s.length - p) (b1 := ((ByteArray.mk s.toArray).get! (p + 1)).toNat) (b2 := ((ByteArray.mk s.toArray).get! (p + 2)).toNat) (b3 := ((ByteArray.mk s.toArray).get! (p + 3)).toNat) (by omega) ((ByteArray.mk s.toArray).get! p).toNat_lt
  unfold rn nxtP
  rw [hd]
  omega
theorem get_bang (s : List UInt8) (p : Nat) : (ByteArray.mk s.toArray).get! p = s[p]?.getD 0 := by
  show (s.toArray)[p]! = _
  simp [Array.getElem!_eq_getD, List.getElem!_eq_getElem?_getD]
  rfl
theorem rn_ascii {s : List UInt8} {p : Nat} (h : (s[p]?.getD 0).toNat < 128) : rn s p = ((s[p]?.getD 0).toNat : Int) ∧ nxtP s p = p + 1 := by
  have hd := Lib.decode_at (ByteArray.mk s.toArray) p
  rw [get_bang] at hd
  have : Lib.decodeN ((ByteArray.mk s.toArray).size - p) (s[p]?.getD 0).toNat ((ByteArray.mk s.toArray).get! (p + 1)).toNat ((ByteArray.mk s.toArray).get! (p + 2)).toNat ((ByteArray.mk s.toArray).get! (p + 3)).toNat = ((s[p]?.getD 0).toNat, 1) := by
    unfold Lib.decodeN; rw [if_pos h]
  rw [this] at hd
  unfold rn nxtP
  rw [hd]
  exact ⟨rfl, rfl⟩
theorem ixR_ok (r : Int) : -1 ≤ ixR r ∧ ixR r ≤ 4 := by
  unfold ixR ixB
  split
  · have := idxB_ge (r.toNat.toUInt8) letters 0 (by omega)
    have e : letters.length = 5 := rfl
    omega
  · omega
theorem prI_step {s : List UInt8} {p : Nat} {k c : Int} (h : prI s p k c) (hp : p < s.length) : prI s (nxtP s p) (stp s p k c).1 (stp s p k c).2 := by
  obtain ⟨h1, ⟨f, h2, h3⟩, h4, h5, h6, h7⟩ := h
  obtain ⟨r1, r2, r3, r4⟩ := rn_ok hp
  obtain ⟨f', rfl⟩ : ∃ f', f = f' + 1 := ⟨f - 1, by omega⟩
  have hx := ixR_ok (rn s p)
  refine ⟨r4, ⟨f', by omega, ?_⟩, ?_⟩
  · rw [← h3]; simp only [pr]; rw [if_pos hp]
  · unfold stp
    split
    · exact ⟨by omega, by omega, h6, h7⟩
    · split
      · exact ⟨h4, h5, by simp only; omega, by simp only; omega⟩
      · exact ⟨h4, h5, h6, h7⟩
theorem prI_end {s : List UInt8} {p : Nat} {k c : Int} (h : prI s p k c) (hp : ¬ p < s.length) : pr s s.length 0 0 0 = (k, c) := by
  obtain ⟨h1, ⟨f, h2, h3⟩, _⟩ := h
  rw [← h3]
  cases f with
  | zero => rfl
  | succ f => simp only [pr]; rw [if_neg hp]
theorem prI_start (s : List UInt8) : prI s 0 0 0 := ⟨by omega, ⟨s.length, by omega, rfl⟩, by omega, by omega, by omega, by omega⟩
/-- On plain letters: byte by byte. -/
def stA (b : UInt8) (p : Nat) (k c : Int) : Int × Int := if p = 0 then (max (ixR b.toNat) 0, c) else if 1 < p ∧ (b.toNat : Int) ≠ 45 ∧ 48 ≤ (b.toNat : Int) ∧ (b.toNat : Int) ≤ 57 ∧ c ≤ 4096 then (k, 10 * c + ((b.toNat : Int) - 48)) else (k, c)
def foA : List UInt8 → Nat → Int → Int → Int × Int
  | [], p, k, c => (k, c)
  | b :: l, p, k, c => foA l (p + 1) (stA b p k c).1 (stA b p k c).2
theorem pr_ascii {s : List UInt8} (hs : ∀ x ∈ s, x.toNat < 128) : ∀ (f p : Nat) (k c : Int), s.length ≤ f + p → pr s f p k c = foA (s.drop p) p k c
  | 0, p, k, c, h => by rw [List.drop_of_length_le (by omega)]; rfl
  | f + 1, p, k, c, h => by
    by_cases hp : p < s.length
    · have hm : s[p]?.getD 0 ∈ s := by rw [List.getElem?_eq_getElem hp]; exact List.getElem_mem _
      obtain ⟨e1, e2⟩ := rn_ascii (s := s) (p := p) (hs _ hm)
      have e3 : s.drop p = s[p]?.getD 0 :: s.drop (p + 1) := by rw [List.drop_eq_getElem_cons hp]; simp [hp]
      have e4 : stp s p k c = stA (s[p]?.getD 0) p k c := by unfold stp stA; rw [e1]
      simp only [pr]
      rw [if_pos hp, e2, e4, pr_ascii hs f (p + 1) _ _ (by omega), e3]; rfl
    · simp only [pr]
      rw [if_neg hp, List.drop_of_length_le (by omega)]; rfl
end Go.Proofs.YtpkmnabefnhcfaaDoor.X
