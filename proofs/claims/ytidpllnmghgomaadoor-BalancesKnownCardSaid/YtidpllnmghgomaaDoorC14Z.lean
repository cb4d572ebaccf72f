/-
  The law on the range.
-/
import Derived.Test.YtidpllnmghgomaaDoorO10Z
import Derived.Test.YtidpllnmghgomaaDoorC13Z
set_option maxRecDepth 1000000
set_option linter.unusedVariables false
set_option linter.unusedSimpArgs false
namespace Go.Proofs.YtidpllnmghgomaaDoor.X
open Go Go.Ab

theorem ct12 : CtOk Tryd.prog G 12 e12 := by
  intro args r h hp
  unfold e12 at h
  split at h <;> cases h
  obtain ⟨rfl, rfl, hk, h8⟩ := hp
  exact (sp12 _ _ hk h8).caps
theorem tlEok : CtsOk Tryd.prog G tlE := ⟨ct12, tl9ok⟩
theorem TEok : TabOk Tryd.prog G TE := tabL_ok noCh_ok tlEok
theorem BP_set {f g : Nat → Bool} {s : List Bool} {i : Nat} (h : BP f s) (hi : i < 17) (hg : ∀ j, j < 17 → g j = (f j || decide (i = j))) : BP g (s.set i true) := by
  refine ⟨by rw [List.length_set]; exact h.1, fun j hj => ?_⟩
  rw [hg j hj, ← h.2 j hj, List.getD_eq_getElem?_getD, List.getD_eq_getElem?_getD, List.getElem?_set]
  have := h.1
  by_cases e : i = j
  · subst e
    rw [if_pos rfl, if_pos (by omega), decide_eq_true rfl, Bool.or_true]; rfl
  · rw [if_neg e, decide_eq_false e, Bool.or_false]
theorem BP_same {f g : Nat → Bool} {s : List Bool} (h : BP f s) (hg : ∀ j, j < 17 → g j = f j) : BP g s := ⟨h.1, fun j hj => by rw [hg j hj]; exact h.2 j hj⟩
theorem any_take {L : List (List Int)} {n : Nat} (h : n < L.length) (p : List Int → Bool) : (L.take (n + 1)).any p = ((L.take n).any p || p (L[n]?.getD [])) := by
  rw [List.take_add_one, List.getElem?_eq_getElem h, List.any_append]
  simp [Option.toList]
theorem seen_step {L : List (List Int)} {n : Nat} (h : n < L.length) {s : List Bool} (hs : seenP (L.take n) s) {d : Int} (hd : d = dOf (L[n]?.getD [])) (h0 : 0 ≤ d + 8) (h1 : d + 8 < 17) : seenP (L.take (n + 1)) (s.set (d + 8).toNat true) := by
  refine BP_set hs (by omega) fun j hj => ?_
  unfold seenF
  rw [any_take h]
  congr 1
  rw [← hd]
  by_cases e : d + 8 = j
  · rw [decide_eq_true e, decide_eq_true (by omega)]
  · rw [decide_eq_false e, decide_eq_false (by omega)]
theorem may_step {f : Int} {m : Nat} {L : List (List Int)} {n : Nat} (h : n < L.length) {s : List Bool} (hs : mayP f m (L.take n) s) {c : Int} (hc : c = cntK (L[n]?.getD []) 1) (hd : dOf (L[n]?.getD []) = 2 ∨ dOf (L[n]?.getD []) = -2 ∨ m = 0) (h0 : 0 ≤ c - f) (h1 : c - f < 17) : mayP f m (L.take (n + 1)) (s.set (c - f).toNat true) := by
  refine BP_set hs (by omega) fun j hj => ?_
  unfold mayF
  rw [any_take h]
  congr 1
  rw [← hc]
  by_cases e : c - f = j
  · rw [decide_eq_true ⟨hd, e⟩, decide_eq_true (by omega)]
  · rw [decide_eq_false (fun g => e g.2), decide_eq_false (by omega)]
theorem may_skip {f : Int} {m : Nat} {L : List (List Int)} {n : Nat} (h : n < L.length) {s : List Bool} (hs : mayP f m (L.take n) s) (hd : ¬ (dOf (L[n]?.getD []) = 2 ∨ dOf (L[n]?.getD []) = -2 ∨ m = 0)) : mayP f m (L.take (n + 1)) s := by
  refine BP_same hs fun j hj => ?_
  unfold mayF
  rw [any_take h, decide_eq_false (fun g => hd g.1), Bool.or_false]
theorem may_iff {k : List Int} (hk : ∀ x ∈ k, 1 ≤ x ∧ x ≤ 3) {n : Nat} : mayF (cntK k 1) k.length (decs k k.length) n = true ↔ (n : Int) ≤ cntK k 3 ∧ (dif k + 2 * n - cntK k 3 = 2 ∨ dif k + 2 * n - cntK k 3 = -2 ∨ k.length = 0) := by
  unfold mayF
  rw [List.any_eq_true]
  constructor
  · rintro ⟨q, hq, h⟩
    have h := of_decide_eq_true h
    obtain ⟨j, g1, g2, g3, g4⟩ := way_d hk hq
    have : (j : Int) = n := by omega
    refine ⟨by omega, ?_⟩
    rcases h.1 with h | h | h
    · exact .inl (by omega)
    · exact .inr (.inl (by omega))
    · exact .inr (.inr h)
  · rintro ⟨h1, h2⟩
    obtain ⟨q, g1, g2, g3⟩ := way_ex hk h1
    refine ⟨q, g1, decide_eq_true ⟨?_, by omega⟩⟩
    rcases h2 with h | h | h
    · exact .inl (by omega)
    · exact .inr (.inl (by omega))
    · exact .inr (.inr h)
theorem wantF_up {f : Int} {m : Nat} {L : List (List Int)} {t : Nat} (h : ∀ n, t ≤ n → mayF f m L n ≠ true) : ∀ i, wantF f m L (t + i) = wantF f m L t
  | 0 => rfl
  | i + 1 => by
    show wantF f m L (t + i + 1) = _
    simp only [wantF]
    rw [if_neg (h (t + i) (by omega)), wantF_up h i]
theorem want_chs {a k : List Int} (hl : a.length = k.length) (hk : ∀ x ∈ k, 1 ≤ x ∧ x ≤ 3) (h8 : k.length ≤ 8) : wantF (cntK k 1) k.length (decs k k.length) 17 = chs a k := by
  have ht := cntK_bound k 3
  have hup := wantF_up (f := cntK k 1) (m := k.length) (L := decs k k.length) (t := (cntK k 3).toNat + 1) (fun n hn h => by have := (may_iff hk).1 h; omega) (16 - (cntK k 3).toNat)
  rw [show (cntK k 3).toNat + 1 + (16 - (cntK k 3).toNat) = 17 by omega] at hup
  rw [hup]
  unfold chs
  split
  · rename_i h0
    have h3 : cntK k 3 = 0 := by omega
    rw [h3]
    have : mayF (cntK k 1) k.length (decs k k.length) 0 = true := (may_iff hk).2 ⟨by omega, .inr (.inr (by omega))⟩
    simp only [Int.toNat_zero, wantF]
    rw [if_pos this]; rfl
  · rename_i h0
    have : ∀ n, n ≤ (cntK k 3).toNat + 1 → wantF (cntK k 1) k.length (decs k k.length) n = chL (dif k) (cntK k 3) n := by
      intro n
      induction n with
      | zero => intro _; rfl
      | succ n ih =>
        intro hn
        have hi := may_iff hk (n := n)
        simp only [wantF, chL, ih (by omega)]
        by_cases hm : mayF (cntK k 1) k.length (decs k k.length) n = true
        · rw [if_pos hm, if_pos]
          rcases (hi.1 hm).2 with h | h | h
          · exact .inl h
          · exact .inr h
          · omega
        · rw [if_neg hm, if_neg]
          intro h
          refine hm (hi.2 ⟨by omega, ?_⟩)
          rcases h with h | h
          · exact .inl h
          · exact .inr (.inl h)
    exact this _ (Nat.le_refl _)
theorem tm2b (x : Int) : x.tmod 2 = 0 ↔ x % 2 = 0 :=
  ⟨fun h => Int.emod_eq_zero_of_dvd (Int.dvd_of_tmod_eq_zero h), fun h => Int.tmod_eq_zero_of_dvd (Int.dvd_of_emod_eq_zero h)⟩
theorem sp3 (c l : Int) (ks : List Int) (hk : okK ks) : SpecP Tryd.prog G 3 [fV c l ks] (.bool true) [] := by
  refine fnP_spec hcm hmx TEok ok3 rfl (ob_o3 c l ks) ?_
  obtain ⟨hl, h8, ha, hkd⟩ := of_ok (c := c) (l := l) hk
  have hch := of_chk (c := c) (l := l) hk
  have hok := isOk_t hch
  have hwc := want_chs (a := ofA c l ks) hl hkd (by omega)
  have hgL : ∀ n : Nat, gL (ofK c ks) n = (decs (ofK c ks) (ofK c ks).length)[n]?.getD [] := fun n => by
    unfold gL; rw [List.getD_eq_getElem?_getD, Int.toNat_natCast]
  generalize ofA c l ks = A at *
  generalize ofK c ks = K at *
  have c1 := cntK_bound K 1
  have c2 := cntK_bound K 2
  have c3 := cntK_bound K 3
  have hd : dif K = cntK K 1 - cntK K 2 := rfl
  simp only [ltb_iff, ltb_no, leb_iff, leb_no, ltn_iff, ltn_no, len'_iff, len'_no, inR_i64, inR_u8, inR_i32, size_ints, size_bools, size_vals, size_cells, getD_drop, List.getElem?_drop, beq_iff_eq, beq_eq_false_iff_ne, bne_iff_ne, bne_eq_false_iff_eq, ne_eq, Nat.zero_add, Nat.add_zero, Nat.mul_one, Int.toNat_natCast, and_true, true_and, List.length_drop, List.length_append, List.length_cons, List.length_nil, List.length_set, List.getD_eq_getElem?_getD, implies_true, iI, iL, Bool.not_eq_true', Bool.not_eq_false', Int.natCast_inj, hok, bI, bL, cond_true, hch, hk]
  refine ⟨by omega, by omega, ⟨0, rfl, by omega, by omega, by omega, by simp⟩, ?_⟩
  rintro ⟨f, i⟩ ⟨n, rfl, h1, h2, h3, h4⟩
  simp only [Int.toNat_natCast] at h2 h3 h4 ⊢
  refine ⟨fun hlt => ?_, fun hge => ?_⟩
  · have hst := cntK_step (x := 1) (show n < K.length by omega)
    refine ⟨by omega, by omega, by omega, fun e => ?_, fun e => ?_⟩
    · rw [if_pos e] at hst
      exact ⟨by omega, by omega, ⟨n + 1, by omega, by omega, by omega, by omega, by omega⟩, by omega⟩
    · rw [if_neg e] at hst
      exact ⟨by omega, ⟨n + 1, by omega, by omega, by omega, by omega, by omega⟩, by omega⟩
  have hf : f = cntK K 1 := by
    have : n = K.length := by omega
    subst this
    simpa [cntK] using h4
  subst hf
  have hDl : (decs K K.length).length ≤ 2 ^ 8 := Nat.le_trans (decs_le K K.length) (Nat.pow_le_pow_right (by omega) (by omega))
  have hc := cnt_all hkd
  generalize hD : decs K K.length = D at *
  refine ⟨by omega, ⟨0, rfl, by omega, ?_, ?_⟩, ?_⟩
  · exact ⟨rfl, fun j hj => by
      have : ∀ j, j < 17 → [false, false, false, false, false, false, false, false, false, false, false, false, false, false, false, false, false].getD j false = false := by decide
      rw [this j hj]; rfl⟩
  · exact ⟨rfl, fun j hj => by
      have : ∀ j, j < 17 → [false, false, false, false, false, false, false, false, false, false, false, false, false, false, false, false, false].getD j false = false := by decide
      rw [this j hj]; rfl⟩
  rintro ⟨i1, s, m⟩ ⟨n1, rfl, g1, g2, g3⟩
  simp only [Int.toNat_natCast, hgL] at g2 g3 ⊢
  refine ⟨fun hlt1 => ?_, fun hge1 => ?_⟩
  · have hn1 : n1 < D.length := by omega
    have hqm : D[n1]?.getD [] ∈ D := by rw [List.getElem?_eq_getElem hn1]; exact List.getElem_mem _
    obtain ⟨j, q1, q2, q3, q4⟩ := way_d hkd (by rw [hD]; exact hqm)
    have hcell := fansL_get (p := A) (i := 1) hn1 (by omega)
    generalize hq : D[n1]?.getD [] = q at *
    have hcell' : (List.drop 1 (List.drop (n1 * 2) (fansL A D)))[0]? = some (AV.imm (.ints .u8 q) K.length (capO K.length)) := by
      rw [hcell]; simp only [fanL, q4]; rfl
    simp only [List.drop_zero, List.getElem?_drop, Nat.add_zero] at hcell'
    have hfl := fansL_len A D
    have hpos : 0 < (fansL A D).length := by rw [hfl]; omega
    have cq := cntK_bound q 1
    refine ⟨⟨0, rfl, by omega, by omega, by omega, by omega, by simp⟩, ?_⟩
    rintro ⟨d, mm, r0⟩ ⟨r, r0e, r1, r2, r3, r4, r5⟩
    simp only [Int.toNat_natCast] at r0e r2 r3 r4 r5 ⊢
    subst r0e
    have hdq : dOf q = 2 * cntK q 1 - q.length := rfl
    refine ⟨by omega, by omega, hpos, hcell', fun hr => ?_, fun hr => ?_⟩
    · have hst := cntK_step (x := 1) (show r < q.length by omega)
      refine ⟨by omega, by omega, hpos, hcell', by omega, by omega, by omega, by simp only [Int.toNat_natCast]; omega, fun e => ?_, fun e => ?_⟩
      · simp only [Int.toNat_natCast] at e
        rw [if_pos e] at hst
        exact ⟨by omega, by omega, by omega, ⟨r + 1, by omega, by omega, by omega, by omega, by omega, by omega⟩, by omega⟩
      · simp only [Int.toNat_natCast] at e
        rw [if_neg e] at hst
        exact ⟨by omega, by omega, ⟨r + 1, by omega, by omega, by omega, by omega, by omega, by omega⟩, by omega⟩
    · have er : r = q.length := by omega
      have em : mm = cntK q 1 := by
        subst er
        simpa [cntK] using r5
      have ed : d = dOf q := by omega
      have hs17 := g2.1
      have hm17 := g3.1
      have hc := cnt_all hkd
      have tail : ∀ (b : VBs), mayP (cntK K 1) K.length (D.take (n1 + 1)) b.v → (-9223372036854775808 ≤ (n1 : Int) + 1 ∧ (n1 : Int) + 1 ≤ 9223372036854775807) ∧ (∃ n' : Nat, (n1 : Int) + 1 = n' ∧ n' ≤ D.length ∧ seenP (D.take n') (s.set (d + 8).toNat true) ∧ mayP (cntK K 1) K.length (D.take n') b.v) ∧ D.length - ((n1 : Int) + 1).toNat < D.length - n1 := fun b hb => ⟨by omega, ⟨n1 + 1, by omega, by omega, seen_step hn1 g2 (by rw [hq]; exact ed) (by omega) (by omega), hb⟩, by omega⟩
      have yes : (d = 2 ∨ d = -2 ∨ K.length = 0) → mayP (cntK K 1) K.length (D.take (n1 + 1)) (m.set (mm - cntK K 1).toNat true) := fun h => may_step hn1 g3 (by rw [hq]; exact em) (by rw [hq, ← ed]; exact h) (by omega) (by omega)
      have mid : (d = 2 ∨ d = -2 ∨ K.length = 0) → (-9223372036854775808 ≤ mm - cntK K 1 ∧ mm - cntK K 1 ≤ 9223372036854775807) ∧ 0 ≤ mm - cntK K 1 ∧ mm - cntK K 1 < 17 ∧ (mm - cntK K 1).toNat + 1 ≤ m.length ∧ mayP (cntK K 1) K.length (D.take (n1 + 1)) (m.set (mm - cntK K 1).toNat true) := fun h => ⟨by omega, by omega, by omega, by omega, yes h⟩
      refine ⟨by omega, by omega, by omega, (tm2b _).2 (by omega), by omega, by omega, by omega, by omega, ⟨fun e => mid (.inl e), fun e => ⟨fun e2 => mid (.inr (.inl e2)), fun e2 => ⟨fun e3 => mid (.inr (.inr (by omega))), fun e3 => may_skip hn1 g3 ?_⟩⟩⟩, tail⟩
      rw [hq, ← ed]
      rintro (h | h | h)
      · exact e h
      · exact e2 h
      · omega
  · have hn1 : n1 = D.length := by omega
    subst hn1
    rw [List.take_length] at g2 g3
    have hs17 := g2.1
    have hm17 := g3.1
    refine ⟨⟨0, by omega, by omega⟩, ?_⟩
    rintro ⟨d⟩ ⟨j, dj, hj⟩
    simp only at dj ⊢
    refine ⟨fun hle => ?_, fun hgt => ?_⟩
    · obtain ⟨q, w1, w2, w3⟩ := way_ex hkd (j := j) (by omega)
      rw [hD] at w1
      have hsn := g2.2 (d + 8).toNat (by omega)
      have hsf : seenF D (d + 8).toNat = true := List.any_eq_true.2 ⟨q, w1, decide_eq_true (by omega)⟩
      rw [hsf, List.getD_eq_getElem?_getD] at hsn
      exact ⟨by omega, by omega, by omega, by omega, hsn, by omega, ⟨j + 1, by omega, by omega⟩, by omega⟩
    · refine ⟨⟨0, rfl, by omega, by omega, rfl⟩, ?_⟩
      rintro ⟨i3, l3⟩ ⟨n3, rfl, z1, z2, rfl⟩
      simp only [Int.toNat_natCast] at z2 ⊢
      refine ⟨fun hlt3 => ⟨by omega, by omega, by omega, fun e => ?_, fun e => ?_⟩, fun hge3 => ?_⟩
      · have hmn := g3.2 n3 (by omega)
        rw [List.getD_eq_getElem?_getD, e] at hmn
        have hw : wantF (cntK K 1) K.length D (n3 + 1) = wantF (cntK K 1) K.length D n3 ++ [(n3 : Int)] := by simp only [wantF]; rw [if_pos hmn.symm]
        exact ⟨by omega, by omega, ⟨n3 + 1, by omega, by omega, by omega, hw.symm⟩, by omega⟩
      · have hmn := g3.2 n3 (by omega)
        rw [List.getD_eq_getElem?_getD, e] at hmn
        have hw : wantF (cntK K 1) K.length D (n3 + 1) = wantF (cntK K 1) K.length D n3 := by simp only [wantF]; rw [if_neg (by rw [← hmn]; decide)]
        exact ⟨by omega, ⟨n3 + 1, by omega, by omega, by omega, hw.symm⟩, by omega⟩
      · have e17 : n3 = 17 := by omega
        subst e17
        rw [hwc] at z2 ⊢
        exact ⟨by omega, by simp [eqL]⟩
end Go.Proofs.YtidpllnmghgomaaDoor.X
