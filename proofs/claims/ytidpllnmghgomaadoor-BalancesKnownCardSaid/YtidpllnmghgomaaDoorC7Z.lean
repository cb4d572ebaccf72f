/-
  The contracts of the sharp angles' list; the law on it.
-/
import Derived.Test.YtidpllnmghgomaaDoorO5Z
import Derived.Test.YtidpllnmghgomaaDoorC6Z
set_option maxRecDepth 1000000
set_option linter.unusedVariables false
set_option linter.unusedSimpArgs false
namespace Go.Proofs.YtidpllnmghgomaaDoor.X
open Go Go.Ab

theorem ct28 : CtOk Tryd.prog G 28 e28 := by
  intro args r h hp
  unfold e28 at h
  split at h <;> cases h
  obtain ⟨rfl, rfl⟩ := hp
  exact (sp28 _ _).caps
theorem ct37 : CtOk Tryd.prog G 37 e37 := by
  intro args r h hp
  unfold e37 at h
  split at h <;> cases h
  obtain ⟨rfl, rfl, hk, hl⟩ := hp
  exact sp37 _ _ hk hl
theorem tl6aok : CtsOk Tryd.prog G tl6a := ⟨ct28, ct37, tl5ok⟩
theorem T6aok : TabOk Tryd.prog G T6a := tabL_ok noCh_ok tl6aok
theorem sp27 (a k : List Int) (hk : a.length = k.length) (hl : a.length < 1000000000000) : SpecP Tryd.prog G 27 [.fn 38 [] [.iptr (fanC a k)]] (.imm (.ints .i64 (shps a k)) (shps a k).length none) [] := by
  refine fnP_spec hcm hmx T6aok ok27 rfl (ob_o27 a k) ?_
  simp [hk, hl]
  omega
theorem ct27 : CtOk Tryd.prog G 27 e27 := by
  intro args r h hp
  unfold e27 at h
  split at h <;> cases h
  obtain ⟨rfl, rfl, hk, hl⟩ := hp
  exact sp27 _ _ hk hl
theorem tl6ok : CtsOk Tryd.prog G tl6 := ⟨ct27, tl6aok⟩
theorem T6ok : TabOk Tryd.prog G T6 := tabL_ok noCh_ok tl6ok
theorem sp15 (a k : List Int) (hl : a.length < 1000000000000) (hc : chk a k = 0) : SpecP Tryd.prog G 15 [fanV a k] (.tup [.imm (.ints .i64 (shps a k)) (shps a k).length (some (shps a k).length), .int .i64 0]) [] := by
  refine fnP_spec hcm hmx T6ok ok15 rfl (ob_o15 a k) ?_
  have := chk_len hc
  simp [hc, hl, this]
  omega
theorem sp15n (a k : List Int) (hl : a.length < 1000000000000) (hc : chk a k ≠ 0) : SpecP Tryd.prog G 15 [fanV a k] (.tup [.nils, .int .i64 (chk a k)]) [] := by
  refine fnP_spec hcm hmx T6ok ok15 rfl (ob_o15n a k) ?_
  simp [hc, hl]
theorem specP_res {P : Program} {f : Nat} {args : List AV} {v v' : AV} {bs : List Blk} (h : SpecP P G f args v bs) (hr : ∀ w F ρ h x, RelV w F ρ h v x → RelV w F ρ h v' x) : SpecP P G f args v' bs :=
  fun F w vs hm hv => (h F w vs hm hv).mono fun x w' ⟨F', ρ', h1, h2, h3⟩ => ⟨F', ρ', h1, h2, hr _ _ _ _ _ h3⟩
theorem nils_imm {w : World} {F : Nat → Prop} {ρ : Nat → Option Nat} {h : Nat → Option HO} {y : AV} {x : Value} (hx : RelV w F ρ h (.tup [.nils, y]) x) : RelV w F ρ h (.tup [.imm (.ints .i64 []) 0 (some 0), y]) x := by
  cases hx with
  | imm _ _ hi =>
    cases hi with
    | tup _ xs hl =>
      refine .tup _ xs ?_
      generalize xs.toList = l at hl
      cases hl with
      | cons _ _ z zs hz hs => exact .cons _ _ z zs (.imm _ _ (hz.nil_imm rfl)) hs.toVs
  | tup _ xs hl =>
    refine .tup _ xs ?_
    generalize xs.toList = l at hl
    cases hl with
    | cons _ _ z zs hz hs =>
      cases hz with
      | imm _ _ hi => exact .cons _ _ z zs (.imm _ _ (hi.nil_imm rfl)) hs
theorem sp15u (a k : List Int) (hl : a.length < 1000000000000) : SpecP Tryd.prog G 15 [fanV a k] (.tup [.imm (.ints .i64 (bL (isOk a k) (shps a k))) (bL (isOk a k) (shps a k)).length (some (bL (isOk a k) (shps a k)).length), .int .i64 (chk a k)]) [] := by
  by_cases hc : chk a k = 0
  · rw [isOk_t hc, hc]; exact sp15 a k hl hc
  · rw [isOk_f hc]; exact specP_res (sp15n a k hl hc) fun _ _ _ _ _ => nils_imm
theorem sp11u (a k : List Int) (hl : a.length < 1000000000000) : SpecP Tryd.prog G 11 [fanV a k] (.tup [.imm (.ints .i64 (bL (isOk a k) (chs a k))) (bL (isOk a k) (chs a k)).length (some (bL (isOk a k) (chs a k)).length), .int .i64 (chk a k)]) [] := by
  by_cases hc : chk a k = 0
  · rw [isOk_t hc, hc]; exact sp11 a k hl hc
  · rw [isOk_f hc]; exact specP_res (sp11n a k hl hc) fun _ _ _ _ _ => nils_imm
theorem ct15 : CtOk Tryd.prog G 15 e15 := by
  intro args r h hp
  unfold e15 at h
  split at h <;> cases h
  obtain ⟨rfl, rfl, hl⟩ := hp
  exact (sp15u _ _ hl).caps
theorem ct11u : CtOk Tryd.prog G 11 e11u := by
  intro args r h hp
  unfold e11u at h
  split at h <;> cases h
  obtain ⟨rfl, rfl, hl⟩ := hp
  exact (sp11u _ _ hl).caps
theorem take_step {a b : List Int} {n : Nat} (h1 : n < a.length) (h2 : a.length = b.length) (h : a.take n = b.take n) : a[n]?.getD 0 = b[n]?.getD 0 ↔ a.take (n + 1) = b.take (n + 1) := by
  have h3 : n < b.length := h2 ▸ h1
  have e1 : a.take (n + 1) = a.take n ++ [a[n]?.getD 0] := by rw [List.take_add_one, List.getElem?_eq_getElem h1]; rfl
  have e2 : b.take (n + 1) = b.take n ++ [b[n]?.getD 0] := by rw [List.take_add_one, List.getElem?_eq_getElem h3]; rfl
  rw [e1, e2, h]
  exact ⟨fun e => by rw [e], fun e => by simpa using List.append_cancel_left e⟩
theorem sp13 (a b : List Int) (hl : a.length < 1000000000000) : SpecP Tryd.prog G 13 [.imm (.ints .i64 a) a.length (some a.length), .imm (.ints .i64 b) b.length none] (.bool (eqL a b)) [] := by
  refine fnP_spec hcm hmx T0ok ok13 rfl (ob_o13 a b) ?_
  simp only [ltb_iff, ltb_no, leb_iff, leb_no, ltn_iff, ltn_no, len'_iff, len'_no, inR_i64, inR_u8, inR_i32, size_ints, size_bools, size_vals, size_cells, getD_drop, List.getElem?_drop, beq_iff_eq, beq_eq_false_iff_ne, bne_iff_ne, bne_eq_false_iff_eq, ne_eq, Nat.zero_add, Nat.add_zero, Nat.mul_one, Int.toNat_natCast, and_true, true_and, List.length_drop, List.length_append, List.length_cons, List.length_nil, List.length_set, List.getD_eq_getElem?_getD, implies_true, iI, iL, Bool.not_eq_true', Bool.not_eq_false', Int.natCast_inj, eq_comm (a := false), eqL, decide_eq_false_iff_not, eq_comm (a := true), decide_eq_true_eq]
  refine ⟨fun h => ?_, fun h => ⟨fun h' => absurd trivial h', fun _ => ⟨⟨0, rfl, by omega, by omega, by simp⟩, ?_⟩⟩⟩
  · intro e; subst e; exact h rfl
  rintro ⟨i⟩ ⟨n, rfl, hn, hll, he⟩
  simp only [Int.toNat_natCast]
  refine ⟨fun hlt => ?_, fun hge => ?_⟩
  · have hs := take_step (by omega) hll he
    refine ⟨by omega, by omega, by omega, by omega, by omega, by omega, by omega, by omega, fun hne => ?_, fun heq => ⟨by omega, ⟨n + 1, by omega, by omega, hll, hs.1 heq⟩, by omega⟩⟩
    intro e; subst e; exact hne rfl
  · have : n = a.length := by omega
    subst this
    rw [List.take_of_length_le (Nat.le_refl _), hll, List.take_of_length_le (Nat.le_refl _)] at he
    exact he
theorem ct13 : CtOk Tryd.prog G 13 e13 := by
  intro args r h hp
  unfold e13 at h
  split at h <;> cases h
  obtain ⟨rfl, rfl, rfl, hl⟩ := hp
  refine (sp13 _ _ hl).args fun w F xs hx => ?_
  cases hx with
  | cons _ _ x xs h1 h2 => exact .cons _ _ x xs h1 h2.caps
theorem tl7ok : CtsOk Tryd.prog G tl7 := ⟨ct15, ct13, ct11u, ct10, tl6ok⟩
theorem T7ok : TabOk Tryd.prog G T7 := tabL_ok noCh_ok tl7ok
theorem bef_eq {n m : Nat} (h : n < m) : befI m n = (((n + m - 1) % m : Nat) : Int) := by
  unfold befI
  by_cases h0 : n = 0
  · subst h0
    rw [if_pos (by rfl), Nat.mod_eq_of_lt (by omega)]; omega
  · rw [if_neg (by omega), show n + m - 1 = n - 1 + m by omega, Nat.add_mod_right, Nat.mod_eq_of_lt (by omega)]; omega
theorem nex_eq {n m : Nat} (h : n < m) : nexI m n = (((n + 1) % m : Nat) : Int) := by
  unfold nexI
  by_cases h0 : n + 1 = m
  · rw [if_pos (by omega), h0, Nat.mod_self]; rfl
  · rw [if_neg (by omega), Nat.mod_eq_of_lt (by omega)]; rfl
theorem sp4 (c l : Int) (ks : List Int) (hk : okK ks) : SpecP Tryd.prog G 4 [fV c l ks] (.bool true) [] := by
  refine fnP_spec hcm hmx T7ok ok4 rfl (ob_o4 c l ks) ?_
  obtain ⟨hl, h8, ha, hkd⟩ := of_ok (c := c) (l := l) hk
  have hch := of_chk (c := c) (l := l) hk
  generalize ofA c l ks = A at *
  generalize ofK c ks = K at *
  simp only [ltb_iff, ltb_no, leb_iff, leb_no, ltn_iff, ltn_no, len'_iff, len'_no, inR_i64, inR_u8, inR_i32, size_ints, size_bools, size_vals, size_cells, getD_drop, List.getElem?_drop, beq_iff_eq, beq_eq_false_iff_ne, bne_iff_ne, bne_eq_false_iff_eq, ne_eq, Nat.zero_add, Nat.add_zero, Nat.mul_one, Int.toNat_natCast, and_true, true_and, List.length_drop, List.length_append, List.length_cons, List.length_nil, List.length_set, List.getD_eq_getElem?_getD, implies_true, iI, iL, Bool.not_eq_true', Bool.not_eq_false', Int.natCast_inj]
  refine ⟨hk, by omega, ⟨0, rfl, by omega, by omega, by omega, rfl⟩, ?_⟩
  rintro ⟨i, s⟩ ⟨n, rfl, h1, h2, h3, rfl⟩
  simp only [Int.toNat_natCast] at h2 ⊢
  have hend : (¬ (n : Int) < A.length ∨ A.length < 4) → shpL A K n = bL (isOk A K) (shps A K) := fun h => by
    rw [isOk_t hch]
    simp only [bL, cond_true, shps]
    by_cases h4 : A.length < 4
    · rw [if_pos h4]
      have : n = 0 := by omega
      subst this; rfl
    · rw [if_neg h4]
      have : n = A.length := by omega
      subst this; rfl
  have hlen : (shpL A K n).length < 1000000000000 := by omega
  refine ⟨fun hlt => ⟨fun h4 => ?_, fun h4 => ?_⟩, fun hge => ?_⟩
  · have hb := bef_eq (n := n) (m := A.length) (by omega)
    have hn := nex_eq (n := n) (m := A.length) (by omega)
    refine ⟨by omega, by omega, ⟨fun h0 => ⟨by omega, by unfold befI; rw [if_pos h0]⟩, fun h0 => by unfold befI; rw [if_neg h0]⟩, ?_⟩
    rintro ⟨b⟩ rfl
    refine ⟨by omega, ⟨fun h0 => by unfold nexI; rw [if_pos h0], fun h0 => by unfold nexI; rw [if_neg h0]⟩, ?_⟩
    rintro ⟨d⟩ rfl
    simp only [hb, hn, Int.toNat_natCast]
    have hj2 := Nat.mod_lt (n + 1) (show 0 < A.length by omega)
    have hp2 := Nat.mod_lt (n + A.length - 1) (show 0 < A.length by omega)
    have hkn : 1 ≤ K[n]?.getD 0 ∧ K[n]?.getD 0 ≤ 3 := hkd _ (getD_mem (by omega))
    have hs : shpL A K (n + 1) = if shB A K n then shpL A K n ++ [(n : Int)] else shpL A K n := rfl
    have hB : shB A K n = (decide (A[n]?.getD 0 < A[(n + 1) % A.length]?.getD 0) && (decide (A[n]?.getD 0 < A[(n + A.length - 1) % A.length]?.getD 0) && ((K[n]?.getD 0 == K[(n + 1) % A.length]?.getD 0) && (K[n]?.getD 0 != 3)))) := rfl
    rw [hB] at hs
    have hex : ∀ L, L = shpL A K (n + 1) → L.length ≤ n + 1 → ∃ m : Nat, (n : Int) + 1 = m ∧ m ≤ A.length ∧ L.length ≤ m ∧ (m = 0 ∨ 4 ≤ A.length) ∧ L = shpL A K m := fun L hL hll => ⟨n + 1, by omega, by omega, by omega, by omega, hL⟩
    generalize (n + 1) % A.length = j at *
    generalize (n + A.length - 1) % A.length = p at *
    refine ⟨fun c1 => ⟨fun c2 => ⟨fun c3 => ?_, fun c3 => ?_⟩, fun c2 => ?_⟩, fun c1 => ?_⟩
    · simp only [c1, c2, c3, true_and, and_true]
      have hk3 : K[j]?.getD 0 < 3 ∨ K[j]?.getD 0 = 3 := by omega
      rw [c3] at hs hkn
      have e1 : (K[j]?.getD 0 == K[j]?.getD 0) = true := beq_self_eq_true _
      rw [decide_eq_true c1, decide_eq_true c2, e1] at hs
      simp only [Bool.true_and] at hs
      repeat' apply And.intro
      all_goals try omega
      · intro c4
        rw [if_pos (by rw [bne_iff_ne]; omega)] at hs
        have hx := hex _ hs.symm (by simp; omega)
        rw [List.length_append, List.length_cons, List.length_nil] at hx
        exact ⟨by omega, by omega, hx, by omega⟩
      · intro c4
        rw [if_neg (by rw [bne_iff_ne]; omega)] at hs
        exact ⟨by omega, hex _ hs.symm (by omega), by omega⟩
    · simp only [c1, c2, c3, true_and, and_true, not_false_eq_true]
      rw [beq_eq_false_iff_ne.2 c3] at hs
      simp only [Bool.false_and, Bool.and_false, if_neg Bool.false_ne_true] at hs
      repeat' apply And.intro
      all_goals first | omega | exact hex _ hs.symm (by omega) | skip
    · simp only [c1, c2, true_and, and_true, not_false_eq_true]
      rw [decide_eq_false (by omega : ¬ A[n]?.getD 0 < A[j]?.getD 0)] at hs
      simp only [Bool.false_and, Bool.and_false, if_neg Bool.false_ne_true] at hs
      repeat' apply And.intro
      all_goals first | omega | exact hex _ hs.symm (by omega) | skip
    · simp only [c1, true_and, and_true, not_false_eq_true]
      rw [decide_eq_false (by omega : ¬ A[n]?.getD 0 < A[p]?.getD 0)] at hs
      simp only [Bool.false_and, Bool.and_false, if_neg Bool.false_ne_true] at hs
      repeat' apply And.intro
      all_goals first | omega | exact hex _ hs.symm (by omega) | skip
  · have he := hend (.inr (by omega))
    rw [← he]
    simp [hch, eqL]
    omega
  · have he := hend (.inl (by omega))
    rw [← he]
    simp [hch, eqL]
    omega
end Go.Proofs.YtidpllnmghgomaaDoor.X
