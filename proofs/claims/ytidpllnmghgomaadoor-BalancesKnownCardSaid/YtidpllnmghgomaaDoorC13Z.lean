/-
  The contract of the ways to decide a fan.
-/
import Derived.Test.YtidpllnmghgomaaDoorO9Z
import Derived.Test.YtidpllnmghgomaaDoorP2Z
set_option maxRecDepth 1000000
set_option linter.unusedVariables false
set_option linter.unusedSimpArgs false
namespace Go.Proofs.YtidpllnmghgomaaDoor.X
open Go Go.Ab

theorem new_cells {a : List Int} {m : Nat} (h : m < a.length) {q : List Int} (hq : q.length = m) (c : Int) : [AV.imm (.ints .i64 ([] ++ a.take m ++ [a[m]?.getD 0])) (m + 1) none, AV.imm (.ints .u8 ([] ++ q ++ [c])) (m + 1) none] = fansL (a.take (m + 1)) [q ++ [c]] := by
  have e : a.take (m + 1) = a.take m ++ [a[m]?.getD 0] := by rw [List.take_add_one, List.getElem?_eq_getElem h]; rfl
  have l1 : (a.take (m + 1)).length = m + 1 := by simp; omega
  have l2 : (q ++ [c]).length = m + 1 := by simp [hq]
  simp only [fansL, List.flatMap_cons, List.flatMap_nil, List.append_nil, fanL, l1, l2, e]
  simp [capO]
  omega
theorem sp12 (a k : List Int) (hk : a.length = k.length) (h8 : a.length ≤ 8) : SpecP Tryd.prog G 12 [fanV a k] (.imm (.vals (fansL a (decs k k.length))) (decs k k.length).length none) [] := by
  refine fnP_spec hcm hmx T0ok ok12 rfl (ob_o12 a k) ?_
  simp only [ltb_iff, ltb_no, leb_iff, leb_no, ltn_iff, ltn_no, len'_iff, len'_no, inR_i64, inR_u8, inR_i32, size_ints, size_bools, size_vals, size_cells, getD_drop, List.getElem?_drop, beq_iff_eq, beq_eq_false_iff_ne, bne_iff_ne, bne_eq_false_iff_eq, ne_eq, Nat.zero_add, Nat.add_zero, Nat.mul_one, Int.toNat_natCast, and_true, true_and, List.length_drop, List.length_append, List.length_cons, List.length_nil, List.length_set, List.getD_eq_getElem?_getD, implies_true, iI, iL, Bool.not_eq_true', Bool.not_eq_false', Int.natCast_inj]
  refine ⟨⟨0, rfl, by omega, rfl, rfl⟩, ?_⟩
  rintro ⟨i, l, nl⟩ ⟨m, rfl, hm, rfl, rfl⟩
  simp only [Int.toNat_natCast]
  have hpow : 2 ^ m ≤ 2 ^ 8 := Nat.pow_le_pow_right (by omega) (by omega)
  have hD := decs_le k m
  refine ⟨fun hlt => ⟨⟨0, rfl, by omega, rfl, rfl⟩, ?_⟩, fun hge => ?_⟩
  · rintro ⟨i1, l1, n1⟩ ⟨j, rfl, hj, rfl, rfl⟩
    simp only [Int.toNat_natCast]
    have hlt' : m < a.length := by omega
    have hF := flat_le (k[m]?.getD 0) ((decs k m).take j)
    have hF' : ((decs k m).take j).length ≤ 2 ^ 8 := by simp; omega
    refine ⟨fun hjl => ⟨⟨1, rfl, by omega, by omega, ?_, ?_⟩, ?_⟩, fun hjg => ?_⟩
    · simp [extN]
    · simp [extN]
    · have hjl' : j < (decs k m).length := by omega
      generalize hq : (decs k m)[j]?.getD [] = q at *
      have hql : q.length = m := by
        have : (decs k m)[j]?.getD [] ∈ decs k m := by rw [List.getElem?_eq_getElem hjl']; exact List.getElem_mem _
        rw [hq] at this
        exact decs_len this
      have hg0 := fansL_get (p := a.take m) (i := 0) hjl' (by omega)
      have hg1 := fansL_get (p := a.take m) (i := 1) hjl' (by omega)
      rw [hq] at hg0 hg1
      have hal : (a.take m).length = m := by simp; omega
      have hg0' : (List.drop 0 (List.drop (j * 2) (fansL (a.take m) (decs k m))))[0]? = some (AV.imm (.ints .i64 (a.take m)) m (capO m)) := by
        rw [hg0]; simp only [fanL, hal, hql]; rfl
      have hg1' : (List.drop 1 (List.drop (j * 2) (fansL (a.take m) (decs k m))))[0]? = some (AV.imm (.ints .u8 q) m (capO m)) := by
        rw [hg1]; simp only [fanL, hal, hql]; rfl
      generalize k[m]?.getD 0 = x at *
      generalize hpre : ((decs k m).take j).flatMap (ext x) = pre at *
      rintro ⟨i2, l2, n2⟩ ⟨c, rfl, hc1, hc3, rfl, rfl⟩
      simp only [Int.toNat_natCast]
      have hN : (extN x q c).length ≤ 2 := by
        obtain rfl | rfl | rfl : c = 1 ∨ c = 2 ∨ c = 3 := by omega
        · simp [extN]
        · show (ext1 x 1 q).length ≤ 2
          unfold ext1; split <;> simp
        · exact ext_le x q
      have hfl := fansL_len (a.take m) (decs k m)
      refine ⟨fun hc => ?_, fun hc => ?_⟩
      · have hst := extN_step x q hc1 (by omega)
        have yes : (x = 3 ∨ x = c) → ∃ c' : Nat, (c : Int) + 1 = c' ∧ 1 ≤ c' ∧ c' ≤ 3 ∧ fansL (a.take (m + 1)) (pre ++ extN x q c) ++ [AV.imm (.ints .i64 ([] ++ a.take m ++ [a[m]?.getD 0])) (m + 1) none, AV.imm (.ints .u8 ([] ++ q ++ [(c : Int)])) (m + 1) none] = fansL (a.take (m + 1)) (pre ++ extN x q c') ∧ pre.length + (extN x q c).length + 1 = pre.length + (extN x q c').length := fun h => by
          have e : ext1 x c q = [q ++ [(c : Int)]] := if_pos h
          refine ⟨c + 1, rfl, by omega, by omega, ?_⟩
          rw [new_cells hlt' hql, ← fansL_app, hst, e, List.append_assoc]
          exact ⟨rfl, by simp; omega⟩
        have no : ¬ (x = 3 ∨ x = c) → extN x q c = extN x q (c + 1) := fun h => by
          have e : ext1 x c q = [] := if_neg h
          rw [hst, e, List.append_nil]
        have hb : (c : Int) + 1 = ((c + 1 : Nat) : Int) := rfl
        have ln : (pre ++ extN x q c).length ≤ 600 := by simp; omega
        have hc' : c ≤ 2 := by omega
        have hlen0 : 0 < (fansL (a.take m) (decs k m)).length := by rw [hfl]; omega
        simp only [List.drop_zero, List.getElem?_drop, Nat.add_zero] at hg0' hg1'
        refine ⟨by omega, by omega, by omega, by omega, fun h3 => ⟨by omega, by omega, hlen0, hg0', by omega, hal, by omega, by omega, by omega, by omega, by omega, by omega, by omega, hlen0, hg1', by omega, hql, by omega, by rw [List.length_append] at ln; omega, by omega, yes (.inl h3), by omega⟩, fun h3 => ⟨by omega, by omega, by omega, by omega, fun h4 => ⟨by omega, by omega, hlen0, hg0', by omega, hal, by omega, by omega, by omega, by omega, by omega, by omega, by omega, hlen0, hg1', by omega, hql, by omega, by rw [List.length_append] at ln; omega, by omega, yes (.inr h4), by omega⟩, fun h4 => ⟨by omega, ⟨c + 1, rfl, by omega, by omega, by rw [← no (fun h => h.elim h3 h4)], by rw [← no (fun h => h.elim h3 h4)]⟩, by omega⟩⟩⟩
      · have e3 : c = 3 := by omega
        subst e3
        have e := flat_take (x := x) hjl'
        rw [hq, hpre] at e
        have e4 : extN x q 3 = ext x q := rfl
        refine ⟨by omega, ⟨j + 1, by omega, by omega, by rw [e, e4], by rw [e, e4, List.length_append]⟩, by omega⟩
    · have ej : j = (decs k m).length := by omega
      subst ej
      rw [List.take_length]
      exact ⟨by omega, ⟨m + 1, by omega, by omega, rfl, rfl⟩, by omega⟩
  · have em : m = a.length := by omega
    subst em
    rw [List.take_length, hk]
    exact ⟨rfl, rfl⟩
end Go.Proofs.YtidpllnmghgomaaDoor.X
