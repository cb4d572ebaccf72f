/-
  The law on turned fans.
-/
import Derived.Test.YtfafinkgmhkdmaaDoorVO8Z
import Derived.Test.YtfafinkgmhkdmaaDoorVC8Z
set_option maxRecDepth 1000000
set_option linter.unusedVariables false
set_option linter.unusedSimpArgs false
namespace Go.Proofs.YtfafinkgmhkdmaaDoor.X
open Go Go.Ab

theorem wLok : CtsOk Tryd.prog G wL := ⟨ct27, ct28, ct29, ct26, ct25, ct19f, wBok⟩
theorem WLok : TabOk Tryd.prog G WL := tabL_ok noCh_ok wLok
theorem chk_rot {a k : List Int} (h : chk a k = 0) {i : Nat} (hi : i ≤ a.length) : chk (rotL' a i) (rotL' k i) = 0 := by
  obtain ⟨h1, h2, h3⟩ := chk_ok h
  refine chk_of (by rw [rot_len, rot_len, h1]) ⟨fun x hx => ?_, ?_⟩ fun x hx => ?_
  · unfold rotL' at hx
    rcases List.mem_append.1 hx with hx | hx
    · exact h2.1 x (List.mem_of_mem_drop hx)
    · exact h2.1 x (List.mem_of_mem_take hx)
  · have : a.sum = (a.take i ++ a.drop i).sum := by rw [List.take_append_drop]
    rw [List.sum_append] at this
    unfold rotL'
    rw [List.sum_append]
    have := h2.2
    omega
  · unfold rotL' at hx
    rcases List.mem_append.1 hx with hx | hx
    · exact h3 x (List.mem_of_mem_drop hx)
    · exact h3 x (List.mem_of_mem_take hx)
theorem fnd_succ {a k : List Int} {n : Nat} : fndB a k (n + 1) = (fndB a k n || (eqB (rotL' a n) (lsA a k) && eqB (rotL' k n) (lsK a k))) := by
  unfold fndB
  rw [List.range_succ, List.any_append]
  simp [Bool.or_assoc]
theorem fnd_zero {a k : List Int} : ((a.length : Int) == 0) = fndB a k 0 := by
  unfold fndB
  rw [Bool.eq_iff_iff]
  simp
theorem fnd_full {a k : List Int} : fndB a k a.length = true := by
  unfold fndB
  by_cases h : a.length = 0
  · simp [h]
  · have hl := ls_lt a k
    rw [Bool.or_eq_true]
    right
    rw [List.any_eq_true]
    exact ⟨lsI a k, List.mem_range.2 (by omega), by rw [show rotL' a (lsI a k) = lsA a k from rfl, show rotL' k (lsI a k) = lsK a k from rfl, eqB_self, eqB_self]; rfl⟩
theorem bef_no {a k : List Int} {i : Nat} (hi : i < a.length) : befB (rotL' a i) (rotL' k i) (lsA a k) (lsK a k) = false := by
  unfold befB
  rw [ltb_no]
  have h1 := ls_le (a := a) (k := k) hi
  have h2 := cmpL_anti (lsA a k ++ lsK a k) (rotL' a i ++ rotL' k i)
  omega
theorem sp9 (c l : Int) (ks : List Int) (x : Int) (hk : okK ks) : SpecP Tryd.prog G 9 [fV c l ks, .int .i64 x] (.bool true) [] := by
  refine fnP_spec hcm hmx WLok ok9 rfl (ob_o9 c l ks x) ?_
  obtain ⟨hl, h8, hA, hK⟩ := of_ok (c := c) (l := l) hk
  have hc := of_chk (c := c) (l := l) hk
  generalize ofA c l ks = A at *
  generalize ofK c ks = K at *
  have l1 : (lsA A K).length = A.length := by unfold lsA; rw [rot_len]
  have l2 : (lsK A K).length = K.length := by unfold lsK; rw [rot_len]
  simp only [ltb_iff, ltb_no, leb_iff, leb_no, ltn_iff, ltn_no, len'_iff, len'_no, inR_i64, inR_u8, inR_i32, size_ints, size_bools, size_vals, size_cells, getD_drop, List.getElem?_drop, beq_iff_eq, beq_eq_false_iff_ne, bne_iff_ne, bne_eq_false_iff_eq, ne_eq, Nat.zero_add, Nat.add_zero, Nat.mul_one, Int.toNat_natCast, and_true, true_and, List.length_drop, List.length_append, List.length_cons, List.length_nil, List.length_set, List.getD_eq_getElem?_getD, implies_true, iI, iL, Bool.not_eq_true', Bool.not_eq_false', Int.natCast_inj, Bool.not_not, l1, l2, ← hl]
  refine ⟨hk, ⟨by omega, hc⟩, ⟨0, rfl, by omega, fnd_zero⟩, ?_⟩
  rintro ⟨kk, f⟩ ⟨n, rfl, hn, rfl⟩
  refine ⟨fun hlt => ?_, fun hge => ?_⟩
  · simp only at hlt
    have hnl : n < A.length := by omega
    have ht : tOk A n = true := by unfold tOk; rw [decide_eq_true_eq]; omega
    obtain ⟨r1, r2⟩ := ls_rot (a := A) (k := K) hl.symm hnl
    have hcr := chk_rot hc (i := n) (by omega)
    have hbf := bef_no (a := A) (k := K) hnl
    have hfs := fnd_succ (a := A) (k := K) (n := n)
    simp only [ht, bLt, cond_true, bI, Int.toNat_natCast, rot_len, ← hl, r1, r2, l1, l2, eqB_self, hbf, Bool.and_self, Bool.true_and, true_and]
    refine ⟨⟨by omega, hc⟩, ⟨by omega, hcr⟩, by omega, ⟨0, rfl, by omega⟩, ?_⟩
    rintro ⟨i⟩ ⟨m, rfl, hm⟩
    simp only [Int.toNat_natCast]
    refine ⟨fun hlm => ?_, fun hgm => ?_⟩
    · have e1 : (m : Int) + (n : Int) = ((m + n : Nat) : Int) := by omega
      have t1 : ∀ x y : Nat, ((x : Int)).tmod (y : Int) = ((x % y : Nat) : Int) := fun x y => rfl
      have g1 := rot_get (l := A) (i := n) (m := m) (by omega) (by omega)
      have g2 := rot_get (l := K) (i := n) (m := m) (by omega) (by omega)
      rw [← hl] at g2
      have m1 : (m + n) % A.length < A.length := Nat.mod_lt _ (by omega)
      simp only [e1, t1, Int.toNat_natCast, g1, g2, true_and, and_true, true_imp_iff, imp_self]
      simp only [bne_self_eq_false, cond_false, true_and, Bool.cond_self]
      refine ⟨by omega, by omega, by omega, by omega, by omega, by omega, by omega, by omega, by omega, by omega, by omega, by omega, by omega, by omega, by omega, by omega, by omega, by omega, by omega, ⟨m + 1, by omega, by omega⟩, by omega⟩
    · refine ⟨fun hf => ⟨by omega, by omega, ⟨n + 1, by omega, by omega, ?_⟩, by omega⟩, fun hf => ⟨by omega, by omega, by omega, ⟨n + 1, by omega, by omega, ?_⟩, by omega⟩⟩
      · rw [hfs, hf]; rfl
      · rw [hfs, hf]; rfl
  · simp only at hge
    obtain rfl : n = A.length := by omega
    have hf := fnd_full (a := A) (k := K)
    simp only [hf]
    refine ⟨⟨by omega, hc⟩, fun h0 => ⟨fun h1 => ⟨trivial, ?_⟩, fun h1 => ⟨trivial, ?_, fun hne => ?_⟩⟩, fun h0 => ⟨trivial, ?_⟩⟩
    · have e : tOk A x = true := by unfold tOk; rw [decide_eq_true_eq]; omega
      rw [e]; rfl
    · by_cases hx : x = 0
      · have e : tOk A x = true := by unfold tOk; rw [decide_eq_true_eq]; omega
        rw [e, hx]; rfl
      · have e : tOk A x = false := by unfold tOk; rw [decide_eq_false_iff_not]; omega
        rw [e, beq_eq_false_iff_ne.2 hx]; rfl
    · have e : tOk A x = false := by unfold tOk; rw [decide_eq_false_iff_not]; omega
      rw [e]; exact ⟨rfl, rfl⟩
    · have e : tOk A x = false := by unfold tOk; rw [decide_eq_false_iff_not]; omega
      rw [e]; exact ⟨rfl, rfl, rfl⟩
end Go.Proofs.YtfafinkgmhkdmaaDoor.X
