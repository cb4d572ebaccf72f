/-
  The contracts of texts of lines; of places of letters.
-/
import Derived.Test.YtpkmnabefnhcfaaDoorTO3Z
import Derived.Test.YtpkmnabefnhcfaaDoorTC3Z
import Derived.Test.YtpkmnabefnhcfaaDoorGC2Z
import Derived.Test.YtpkmnabefnhcfaaDoorGLZ
set_option maxRecDepth 1000000
set_option linter.unusedVariables false
set_option linter.unusedSimpArgs false
namespace Go.Proofs.YtpkmnabefnhcfaaDoor.X
open Go Go.Ab

theorem TTok : TabOk Tryd.prog G TT := tabL_ok noCh_ok ⟨ct33, ct36, tlAok⟩
theorem sp27 (k c : Int) (h : vl k c = true) : SpecP Tryd.prog G 27 [lnV k c] (.str (txt k c)) [] := by
  refine fnP_spec hcm hmx TTok ok27 rfl (ob_o27 k c) ?_
  have hv := of_decide_eq_true h
  have hl := decI_len c
  obtain ⟨m, rfl⟩ : ∃ m : Nat, k = m := ⟨k.toNat, (Int.toNat_of_nonneg (by omega)).symm⟩
  have hm : m = 1 ∨ m = 2 ∨ m = 3 ∨ m = 4 := by omega
  rcases hm with rfl | rfl | rfl | rfl <;> simp [strs5, letters, ltb_iff, leb_iff, ltn_iff, len'_iff] <;> omega
theorem sp29v (k c : Int) (h : vl k c = true) : SpecP Tryd.prog G 29 [lnV k c] (.str (txt k c)) [] := by
  refine fnP_spec hcm hmx TTok ok29 rfl (ob_o29v k c) ?_
  have hv := of_decide_eq_true h
  have hl := decI_len c
  have hb : bI (vl k c) 0 1 = 0 := by rw [h]; rfl
  rw [hb]
  clear hb h
  obtain ⟨m, rfl⟩ : ∃ m : Nat, k = m := ⟨k.toNat, (Int.toNat_of_nonneg (by omega)).symm⟩
  have hm : m = 1 ∨ m = 2 ∨ m = 3 ∨ m = 4 := by omega
  rcases hm with rfl | rfl | rfl | rfl <;> simp [letters, ltb_iff, leb_iff, ltn_iff, len'_iff, inR_u8] <;> omega
theorem sp29n (k c : Int) (h : vl k c = false) : SpecP Tryd.prog G 29 [lnV k c] (.str []) [] := by
  refine fnP_spec hcm hmx TTok ok29 rfl (ob_o29n k c) ?_
  simp [h, bI]
theorem sp29 (k c : Int) : SpecP Tryd.prog G 29 [lnV k c] (.str (tx k c)) [] := by
  unfold tx
  by_cases h : vl k c = true
  · rw [if_pos h]; exact sp29v k c h
  · rw [if_neg h]; exact sp29n k c (by simpa using h)
theorem specP_nat {f : Nat} {args : List AV} {v : AV} {nat : Nat → List AV → Option AV} (hn : NatOk Tryd.prog nat) (h : nat f args = some v) : SpecP Tryd.prog G f args v [] := by
  intro F w vs hm hv
  obtain ⟨y, h1, h2⟩ := hn f args v h F noR noH w vs hv.toVs
  have e : hsH [] = noH := by funext i; simp [hsH, noH]
  rw [e]
  exact .inl ⟨_, y, w, h1, .inl rfl, F, noR, hm, Ext.refl _ _ _, h2⟩
theorem sp58 (s : List UInt8) (b : Int) : SpecP Tryd.prog G 58 [.str s, .int .u8 b] (.int .i64 (ixB s b)) [] := specP_nat nat58 rfl
theorem ctIdx {f : Nat} (h : ∀ s b, SpecP Tryd.prog G f [.str s, .int .u8 b] (.int .i64 (ixB s b)) []) : CtOk Tryd.prog G f eIdx := by
  intro args r hr hp
  unfold eIdx at hr
  split at hr <;> cases hr
  exact h _ _
theorem idxB_ge (c : UInt8) : ∀ (l : List UInt8) (i : Int), 0 ≤ i → -1 ≤ idxB l c i ∧ idxB l c i < i + l.length
  | [], i, h => by simp [idxB]; omega
  | b :: l, i, h => by
    have := idxB_ge c l (i + 1) (by omega)
    rw [idxB, cond_eq_ite]
    split
    · simp; omega
    · simp; omega
theorem ix_none {l : List UInt8} {b : Int} (h : ∀ x ∈ l, x.toNat ≠ b.toNat % 256) : ixB l b = -1 := by
  unfold ixB
  have key : ∀ (l : List UInt8) (i : Int), (∀ x ∈ l, x.toNat ≠ b.toNat % 256) → idxB l b.toNat.toUInt8 i = -1 := by
    intro l
    induction l with
    | nil => intro i _; rfl
    | cons a l ih =>
      intro i hh
      have h1 := hh a (by simp)
      have e : b.toNat.toUInt8.toNat = b.toNat % 256 := by simp
      rw [idxB, e, beq_ne h1, cond_false]
      exact ih _ (fun x hx => hh x (by simp [hx]))
  exact key l 0 h
theorem sp55 (s : List UInt8) (b : Int) : SpecP Tryd.prog G 55 [.str s, .int .u8 b] (.int .i64 (ixB s b)) [] := by
  refine fnP_spec hcm hmx (tabL_ok noCh_ok ⟨ctIdx sp58, trivial⟩ : TabOk Tryd.prog G T55) ok55 rfl (ob_o55 s b) ?_
  simp
theorem sp49 (s : List UInt8) (b : Int) : SpecP Tryd.prog G 49 [.str s, .int .u8 b] (.int .i64 (ixB s b)) [] := by
  refine fnP_spec hcm hmx (tabL_ok noCh_ok ⟨ctIdx sp55, trivial⟩ : TabOk Tryd.prog G T49) ok49 rfl (ob_o49 s b) ?_
  simp
theorem T49ok : TabOk Tryd.prog G T49 := tabL_ok noCh_ok ⟨ctIdx sp55, trivial⟩
theorem sp50 (r : Int) : SpecP Tryd.prog G 50 [.int .i32 r] (.bool (vrB r)) [] := by
  refine fnP_spec hcm hmx T330 ok50 rfl (ob_o50 r) ?_
  simp only [ltb_iff, ltb_no, leb_iff, leb_no, ltn_iff, ltn_no, len'_iff, len'_no, inR_i64, inR_u8, inR_i32, size_ints, size_bools, size_vals, size_cells, getD_drop, List.getElem?_drop, beq_iff_eq, beq_eq_false_iff_ne, bne_iff_ne, bne_eq_false_iff_eq, ne_eq, Nat.zero_add, Nat.add_zero, Nat.mul_one, Int.toNat_natCast, and_true, true_and, List.length_drop, List.length_append, List.length_cons, List.length_nil, List.length_set, List.getD_eq_getElem?_getD, implies_true, iI, iL, Bool.not_eq_true', Bool.not_eq_false', Int.natCast_inj, vrB, eq_comm (a := true), eq_comm (a := false), decide_eq_true_eq, decide_eq_false_iff_not]
  repeat' (first | apply And.intro | intro _)
  all_goals omega
theorem T34ok : TabOk Tryd.prog G T34 := tabL_ok noCh_ok ⟨ctIdx sp49, fun args r h hp => by
  unfold e50 at h
  split at h <;> cases h
  exact sp50 _, trivial⟩
theorem enc_ok (r : Int) (h0 : 128 ≤ r) : ∃ n, (Utf8.encode r).data.toList.length = n + 1 ∧ 1 ≤ n ∧ n ≤ 3 ∧ 128 ≤ ((Utf8.encode r).data.toList[n]?.getD 0).toNat := by
  unfold Utf8.encode
  have hc : 128 ≤ (if Utf8.valid r = true then r.toNat else Utf8.runeError) := by
    split
    · omega
    · decide
  generalize (if Utf8.valid r = true then r.toNat else Utf8.runeError) = c at hc
  simp only
  rw [if_neg (by omega)]
  split
  · refine ⟨1, rfl, by omega, by omega, ?_⟩
    show 128 ≤ (UInt8.ofNat (0x80 + c % 64)).toNat
    rw [UInt8.toNat_ofNat']; omega
  · split
    · refine ⟨2, rfl, by omega, by omega, ?_⟩
      show 128 ≤ (UInt8.ofNat (0x80 + c % 64)).toNat
      rw [UInt8.toNat_ofNat']; omega
    · refine ⟨3, rfl, by omega, by omega, ?_⟩
      show 128 ≤ (UInt8.ofNat (0x80 + c % 64)).toNat
      rw [UInt8.toNat_ofNat']; omega
theorem sp34 (r : Int) (h0 : 0 ≤ r) (h1 : r ≤ 1114111) : SpecP Tryd.prog G 34 [.str letters, .int .i32 r] (.int .i64 (ixR r)) [] := by
  unfold ixR
  by_cases c1 : r < 128
  · rw [if_pos c1]
    refine fnP_spec hcm hmx T34ok ok34 rfl (ob_o34a r) ?_
    simp only [ltb_iff, ltb_no, leb_iff, leb_no, ltn_iff, ltn_no, len'_iff, len'_no, inR_i64, inR_u8, inR_i32, size_ints, size_bools, size_vals, size_cells, getD_drop, List.getElem?_drop, beq_iff_eq, beq_eq_false_iff_ne, bne_iff_ne, bne_eq_false_iff_eq, ne_eq, Nat.zero_add, Nat.add_zero, Nat.mul_one, Int.toNat_natCast, and_true, true_and, List.length_drop, List.length_append, List.length_cons, List.length_nil, List.length_set, List.getD_eq_getElem?_getD, implies_true, iI, iL, Bool.not_eq_true', Bool.not_eq_false', Int.natCast_inj]
    omega
  · rw [if_neg c1]
    by_cases c2 : r = 65533
    · subst c2
      refine fnP_spec hcm hmx T34ok ok34 rfl ob_o34e ?_
      have hd : ∀ p, p < 5 → ((((Utf8.decode (ByteArray.mk (Array.mk letters)) p).1 : Int) == 65533) = false ∧ nxtP letters p = p + 1) := by decide
      refine ⟨rfl, rfl, rfl, by decide, ?_⟩
      rintro ⟨p⟩ hp
      simp only at hp ⊢
      refine ⟨fun h => ?_, fun h => by rw [h]; simp⟩
      have h5 : p < 5 := ltn_iff.1 h
      obtain ⟨g1, g2⟩ := hd p h5
      simp only [h, g1, true_and, and_true]
      repeat' apply And.intro
      all_goals first | trivial | rfl | omega
    · by_cases c3 : vrB r = true
      · refine fnP_spec hcm hmx T34ok ok34 rfl (ob_o34v r) ?_
        obtain ⟨n, e1, e2, e3, e4⟩ := enc_ok r (by omega)
        generalize (Utf8.encode r).data.toList = L at *
        have en : ((L.length : Int) - 1).toNat = n := by omega
        have en2 : ((L.length : Int) - 1 + 1).toNat = n + 1 := by omega
        have hlet : ∀ x ∈ letters, x.toNat < 128 := by decide
        have hix : ixB (letters.drop (n + 1)) ((L[n]?.getD 0).toNat : Int) = -1 := ix_none fun x hx => by
          have := hlet x (List.mem_of_mem_drop hx)
          have h2 := (L[n]?.getD 0).toNat_lt
          omega
        have hln : (letters[n]?.getD 0).toNat < 128 := by
          have : letters[n]?.getD 0 ∈ letters := by
            rw [List.getElem?_eq_getElem (by show n < 5; omega)]; exact List.getElem_mem _
          exact hlet _ this
        simp only [ltb_iff, ltb_no, leb_iff, leb_no, ltn_iff, ltn_no, len'_iff, len'_no, inR_i64, inR_u8, inR_i32, size_ints, size_bools, size_vals, size_cells, getD_drop, List.getElem?_drop, beq_iff_eq, beq_eq_false_iff_ne, bne_iff_ne, bne_eq_false_iff_eq, ne_eq, Nat.zero_add, Nat.add_zero, Nat.mul_one, Int.toNat_natCast, and_true, true_and, List.length_drop, List.length_append, List.length_cons, List.length_nil, List.length_set, List.getD_eq_getElem?_getD, implies_true, iI, iL, Bool.not_eq_true', Bool.not_eq_false', Int.natCast_inj, c3, en, en2, hix]
        omega
      · refine fnP_spec hcm hmx T34ok ok34 rfl (ob_o34i r) ?_
        have c3 : vrB r = false := by simpa using c3
        simp only [ltb_iff, ltb_no, leb_iff, leb_no, ltn_iff, ltn_no, len'_iff, len'_no, inR_i64, inR_u8, inR_i32, size_ints, size_bools, size_vals, size_cells, getD_drop, List.getElem?_drop, beq_iff_eq, beq_eq_false_iff_ne, bne_iff_ne, bne_eq_false_iff_eq, ne_eq, Nat.zero_add, Nat.add_zero, Nat.mul_one, Int.toNat_natCast, and_true, true_and, List.length_drop, List.length_append, List.length_cons, List.length_nil, List.length_set, List.getD_eq_getElem?_getD, implies_true, iI, iL, Bool.not_eq_true', Bool.not_eq_false', Int.natCast_inj, c3]
        omega
theorem ct34 : CtOk Tryd.prog G 34 e34 := by
  intro args r h hp
  unfold e34 at h
  split at h <;> cases h
  obtain ⟨g1, g2⟩ := hp
  exact sp34 _ g1 g2
theorem sp56 (s : List UInt8) : SpecP Tryd.prog G 56 [.str s, .str [45]] (.int .i64 (ixB s 45)) [] := by
  refine fnP_spec hcm hmx T49ok ok56 rfl (ob_o56 s) ?_
  simp only [ltb_iff, ltb_no, leb_iff, leb_no, ltn_iff, ltn_no, len'_iff, len'_no, inR_i64, inR_u8, inR_i32, size_ints, size_bools, size_vals, size_cells, getD_drop, List.getElem?_drop, beq_iff_eq, beq_eq_false_iff_ne, bne_iff_ne, bne_eq_false_iff_eq, ne_eq, Nat.zero_add, Nat.add_zero, Nat.mul_one, Int.toNat_natCast, and_true, true_and, List.length_drop, List.length_append, List.length_cons, List.length_nil, List.length_set, List.getD_eq_getElem?_getD, implies_true, iI, iL, Bool.not_eq_true', Bool.not_eq_false', Int.natCast_inj]
  exact fun h => by subst h; rfl
theorem ct56 {f : Nat} (h : ∀ s, SpecP Tryd.prog G f [.str s, .str [45]] (.int .i64 (ixB s 45)) []) : CtOk Tryd.prog G f e56 := by
  intro args r hr hp
  unfold e56 at hr
  split at hr <;> cases hr
  exact h _
theorem sp53 (s : List UInt8) : SpecP Tryd.prog G 53 [.str s, .str [45]] (.int .i64 (ixB s 45)) [] := by
  refine fnP_spec hcm hmx (tabL_ok noCh_ok ⟨ct56 sp56, trivial⟩ : TabOk Tryd.prog G T53) ok53 rfl (ob_o53 s) ?_
  simp
theorem sp35 (s : List UInt8) : SpecP Tryd.prog G 35 [.str s, .str [45]] (.bool (hasM s)) [] := by
  refine fnP_spec hcm hmx (tabL_ok noCh_ok ⟨ct56 sp53, trivial⟩ : TabOk Tryd.prog G T35) ok35 rfl (ob_o35 s) ?_
  simp [hasM]
theorem ct35 : CtOk Tryd.prog G 35 e35 := by
  intro args r hr hp
  unfold e35 at hr
  split at hr <;> cases hr
  exact sp35 _
theorem ct27 : CtOk Tryd.prog G 27 e27 := by
  intro args r hr hp
  unfold e27 at hr
  split at hr <;> cases hr
  exact sp27 _ _ hp
theorem ct29 : CtOk Tryd.prog G 29 e29 := by
  intro args r hr hp
  unfold e29 at hr
  split at hr <;> cases hr
  exact sp29 _ _
end Go.Proofs.YtpkmnabefnhcfaaDoor.X
