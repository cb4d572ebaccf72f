/-
  The parser of fans.
-/
import Derived.Test.YtfafinkgmhkdmaaDoorVO10Z
import Derived.Test.YtfafinkgmhkdmaaDoorVC11Z
set_option maxRecDepth 1000000
set_option linter.unusedVariables false
set_option linter.unusedSimpArgs false
namespace Go.Proofs.YtfafinkgmhkdmaaDoor.X
open Go Go.Ab

theorem YAok : TabOk Tryd.prog G YA := tabL_ok noCh_ok ⟨ct60, ct59, ct17, ct41, ct61, trivial⟩
theorem idxB_rng (c : UInt8) : ∀ (l : List UInt8) (i : Int), 0 ≤ i → -1 ≤ idxB l c i ∧ idxB l c i < i + l.length
  | [], i, h => by simp [idxB]; omega
  | b :: l, i, h => by
    have := idxB_rng c l (i + 1) (by omega)
    rw [idxB, cond_eq_ite]
    split
    · simp; omega
    · simp; omega
theorem knd_rng (p : List UInt8) : 0 ≤ kndP p ∧ kndP p ≤ 3 := by
  have := idxB_rng (((p.getD 0 0).toNat : Int).toNat.toUInt8) [109, 118, 97] 0 (by omega)
  unfold kndP ixB
  simp at this ⊢
  omega
theorem prs_no {t : List UInt8} (h : okT t = false) : prsA t = [] ∧ prsK t = [] := by
  unfold prsA prsK; rw [h]; exact ⟨rfl, rfl⟩
theorem prs_yes {t : List UInt8} (h : okT t = true) : prsA t = pcA (splitS t) ∧ prsK t = pcK (splitS t) ∧ prsE t = 0 := by
  unfold prsA prsK prsE; rw [h]; exact ⟨rfl, rfl, rfl⟩
theorem prs_err {t : List UInt8} (h : okT t = false) (h2 : (t == [45]) = false) : prsE t = 4 := by
  unfold prsE; rw [h, h2]; rfl
theorem sp35 (t : List UInt8) (ht : t.length < 1000000) : SpecP Tryd.prog G 35 [.str t] (.tup [fanW (prsA t) (prsK t), .int .i64 (prsE t)]) [] := by
  refine fnP_spec hcm hmx YAok ok35 rfl (ob_o35 t) ?_
  obtain ⟨p1, p2⟩ := split_pos t
  simp only [ltb_iff, ltb_no, leb_iff, leb_no, ltn_iff, ltn_no, len'_iff, len'_no, inR_i64, inR_u8, size_ints, Cont.size, getD_drop, List.getElem?_drop, beq_iff_eq, beq_eq_false_iff_ne, bne_iff_ne, bne_eq_false_iff_eq, ne_eq, Nat.zero_add, Nat.add_zero, Nat.mul_one, Int.toNat_natCast, and_true, true_and, List.length_drop, List.length_append, List.length_cons, List.length_nil, List.length_set, List.getD_eq_getElem?_getD, implies_true, iI, iL, Int.natCast_inj]
  refine ⟨fun h => ?_, fun h => ⟨ht, ⟨0, rfl, by omega, rfl, rfl, rfl⟩, ?_⟩⟩
  · have ho : okT t = false := by rw [h]; rfl
    obtain ⟨e1, e2⟩ := prs_no ho
    rw [e1, e2]
    refine ⟨rfl, rfl, rfl, rfl, rfl, rfl, ?_⟩
    rw [h]; rfl
  · have h45 : (t == [45]) = false := beq_eq_false_iff_ne.2 h
    rintro ⟨i, a, k⟩ ⟨n, rfl, hn, hok, rfl, rfl⟩
    simp only [Int.toNat_natCast]
    refine ⟨fun hlt => ?_, fun hge => ?_⟩
    · have hnl : n < (splitS t).length := by omega
      have eg : (splitS t)[n]? = some (splitS t)[n] := List.getElem?_eq_getElem hnl
      have hm : (splitS t)[n] ∈ splitS t := List.getElem_mem hnl
      have tk : (splitS t).take (n + 1) = (splitS t).take n ++ [(splitS t)[n]] := by
        rw [List.take_add_one, eg]; rfl
      rw [eg]
      generalize (splitS t)[n] = p at *
      have bad : okP p = false → prsA t = [] ∧ prsK t = [] ∧ 4 = prsE t := fun hb => by
        have ho : okT t = false := by
          unfold okT
          have : (splitS t).all okP = false := by
            rw [List.all_eq_false]
            exact ⟨p, hm, by rw [hb]; simp⟩
          rw [this]; simp
        exact ⟨(prs_no ho).1, (prs_no ho).2, (prs_err ho h45).symm⟩
      simp only [Option.getD_some]
      have badg : okP p = false → (prsA t).length = 0 ∧ (prsA t).length = 0 ∧ (prsA t).length = 0 ∧ (prsK t).length = 0 ∧ (prsK t).length = 0 ∧ (prsK t).length = 0 ∧ 4 = prsE t := fun hb => by
        obtain ⟨e1, e2, e3⟩ := bad hb
        rw [e1, e2]; exact ⟨rfl, rfl, rfl, rfl, rfl, rfl, e3⟩
      have kr := knd_rng p
      have ea : ((p[Int.toNat 1]?.getD 0).toNat : Int) - 48 = angP p := by
        unfold angP; rw [List.getD_eq_getElem?_getD]; rfl
      have ek : 1 + ixB [109, 118, 97] ((p[Int.toNat 0]?.getD 0).toNat : Int) = kndP p := by
        unfold kndP; rw [List.getD_eq_getElem?_getD]; rfl
      have eo : okP p = decide (p.length = 2 ∧ 49 ≤ (p[Int.toNat 1]?.getD 0).toNat ∧ (p[Int.toNat 1]?.getD 0).toNat ≤ 56) := by
        unfold okP; rw [List.getD_eq_getElem?_getD, Bool.eq_iff_iff]
        simp
      have la : (pcA ((splitS t).take n)).length = n := by unfold pcA; rw [List.length_map, List.length_take]; omega
      have lk : (pcK ((splitS t).take n)).length = n := by unfold pcK; rw [List.length_map, List.length_take]; omega
      rw [ek, la, lk]
      have eb : ∀ h : ¬ (p.length = 2 ∧ 49 ≤ (p[Int.toNat 1]?.getD 0).toNat ∧ (p[Int.toNat 1]?.getD 0).toNat ≤ 56), okP p = false := fun h => by
        rw [eo, decide_eq_false_iff_not]; exact h
      refine ⟨by omega, by omega, by omega, by omega, fun hl => badg (eb (by omega)), fun hl => ⟨by omega, fun h1 => badg (eb (by omega)), fun h1 => ⟨by omega, fun h2 => badg (eb (by omega)), fun h2 => ?_⟩⟩⟩
      have hp : okP p = true := by
        rw [eo, decide_eq_true_eq]; omega
      refine ⟨by omega, by omega, by omega, by omega, by omega, by omega, by omega, by omega, by omega, ⟨n + 1, by omega, by omega, ?_, ?_, ?_⟩, by omega⟩
      · rw [tk, List.all_append, hok]; simp [hp]
      · rw [tk, ea]; unfold pcA; rw [List.map_append]; rfl
      · rw [tk]; unfold pcK; rw [List.map_append]; rfl
    · have e : n = (splitS t).length := by omega
      subst e
      rw [List.take_length] at hok ⊢
      have la : (pcA (splitS t)).length = (splitS t).length := by unfold pcA; rw [List.length_map]
      refine ⟨by omega, fun hc => ?_, fun hc => ?_⟩
      · have ho : okT t = false := by
          unfold okT; rw [beq_eq_false_iff_ne.2 hc]; simp
        obtain ⟨e1, e2⟩ := prs_no ho
        rw [e1, e2]
        exact ⟨rfl, rfl, rfl, rfl, rfl, rfl, (prs_err ho h45).symm⟩
      · have ho : okT t = true := by
          unfold okT; rw [h45, hok, hc]; rfl
        obtain ⟨e1, e2, e3⟩ := prs_yes ho
        rw [e1, e2, e3]
        exact ⟨rfl, rfl, rfl, rfl, rfl, rfl, rfl⟩
theorem ct35 : CtOk Tryd.prog G 35 e35 := by
  intro args r hr hp
  unfold e35 at hr
  split at hr <;> cases hr
  exact sp35 _ hp
end Go.Proofs.YtfafinkgmhkdmaaDoor.X
