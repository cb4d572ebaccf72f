/-
 The move that moves nothing: the contracts.
-/
import Derived.Test.YtmnaghfndigfkaaDoorONZ
import Derived.Test.YtmnaghfndigfkaaDoorCSZ
import Derived.Test.YtmnaghfndigfkaaDoorCKZ
import Derived.Test.YtmnaghfndigfkaaDoorPCZ
set_option maxRecDepth 1000000
set_option linter.unusedVariables false
set_option linter.unusedSimpArgs false
namespace Go.Proofs.YtmnaghfndigfkaaDoor.X
open Go Go.Ab

theorem and_one (x : Int) : bitI .and .i64 x 1 = x % 2 := by
 have h : (BitVec.ofInt 64 x &&& BitVec.ofInt 64 1).toNat = (x % 2).toNat := by
  rw [BitVec.toNat_and, BitVec.toNat_ofInt, BitVec.toNat_ofInt]
  have e : (1 % ((2 ^ 64 : Nat) : Int)).toNat = 1 := rfl
  rw [e, Nat.and_one_is_mod]
  omega
 show IntKind.i64.wrap (((BitVec.ofInt 64 x &&& BitVec.ofInt 64 1).toNat : Nat) : Int) = _
 rw [h]
 have h2 : x % 2 = 0 ∨ x % 2 = 1 := by omega
 rcases h2 with e | e <;> rw [e] <;> rfl
theorem sh1_ok (x : Int) : sh1 x = x := by
 unfold sh1
 rw [and_one]
 rw [show 2 * x + 1 - (2 * x + 1) % 2 = 2 * x by omega]
 exact Int.mul_tdiv_cancel_left x (by decide)
theorem sh1_eq (x : Int) : (2 * x + 1 - bitI .and .i64 (2 * x + 1) 1).tdiv 2 = x := sh1_ok x
theorem id000 : id3 0 0 0 := ⟨rfl, rfl, rfl⟩
theorem sp108i : SpecP Tryd.prog G 108 [.int .i64 0] (.bool false) [] := fnP_spec hcm hmx T0ok ok108 rfl ob_o108i (by simp)
theorem ct108i : CtOk Tryd.prog G 108 e108i := by
 intro args r h hp
 unfold e108i at h
 split at h <;> cases h
 rename_i a
 have : a = 0 := hp
 subst this
 exact sp108i
theorem TN55ok : TabOk Tryd.prog G TN55 := tabL_ok noCh_ok ⟨ct108i, trivial⟩
theorem ct55i : CtOk Tryd.prog G 55 e55i := by
 intro args r h hp
 unfold e55i at h
 split at h <;> cases h
 obtain ⟨rfl, rfl, rfl⟩ := hp
 exact fnP_spec hcm hmx TN55ok ok55 rfl ob_o55i (by simp)
theorem ptB_iff {x y : Int} : ptB x y = true ↔ -65536 ≤ x ∧ x ≤ 65536 ∧ -65536 ≤ y ∧ y ≤ 65536 := by unfold ptB; rw [decide_eq_true_iff]
theorem ptB_no {x y : Int} : ptB x y = false ↔ ¬ (-65536 ≤ x ∧ x ≤ 65536 ∧ -65536 ≤ y ∧ y ≤ 65536) := by unfold ptB; rw [decide_eq_false_iff_not]
theorem ct151 : CtOk Tryd.prog G 151 e151 := by
 intro args r h hp
 unfold e151 at h
 split at h <;> cases h
 rename_i x y
 refine fnP_spec hcm hmx T0ok ok151 rfl (ob_o151 x y) ?_
 simp only [ltb_iff, ltb_no, and_true]
 have no : ¬ (-65536 ≤ x ∧ x ≤ 65536 ∧ -65536 ≤ y ∧ y ≤ 65536) → 1 = bI (ptB x y) 0 1 := fun h => by rw [ptB_no.2 h]; rfl
 refine ⟨fun h => no (by omega), fun h1 => ⟨fun h => no (by omega), fun h2 => ⟨fun h => no (by omega), fun h3 => ⟨fun h => no (by omega), fun h4 => ?_⟩⟩⟩⟩
 rw [ptB_iff.2 (by omega)]; rfl
theorem ct112i : CtOk Tryd.prog G 112 e112i := by
 intro args r h hp
 unfold e112i at h
 split at h <;> cases h
 obtain ⟨rfl, rfl, rfl, rfl, s1, s2, s3, s4⟩ := hp
 refine fnP_spec hcm hmx T0ok ok112 rfl (ob_o112i _ _) ?_
 simp only [inR_i64, and_true]
 refine ⟨?_, ?_, ?_, ?_, ?_, ?_, ?_, ?_⟩ <;> omega
theorem ct165 : CtOk Tryd.prog G 165 e165 := by
 intro args r h hp
 unfold e165 at h
 split at h <;> cases h
 obtain ⟨s1, s2, s3, s4⟩ := hp
 refine fnP_spec hcm hmx T0ok ok165 rfl (ob_o165 _ _ _) ?_
 simp only [inR_i64, and_true]
 refine ⟨?_, ?_, ?_, ?_⟩ <;> omega
theorem TN166ok : TabOk Tryd.prog G TN166 := tabL_ok noCh_ok ⟨ct55i, ct151, ct112i, trivial⟩
theorem ct166i : CtOk Tryd.prog G 166 e166i := by
 intro args r h hp
 unfold e166i at h
 split at h <;> cases h
 rename_i t a b x y
 obtain ⟨⟨rfl, rfl, rfl⟩, hs⟩ := hp
 obtain ⟨s1, s2, s3, s4⟩ := hs
 refine fnP_spec hcm hmx TN166ok ok166 rfl (ob_o166i x y) ?_
 have e : ptB x y = true := ptB_iff.2 ⟨s1, s2, s3, s4⟩
 have n1 : (bI (ptB x y) 0 1 != 0) = false := by rw [e]; rfl
 simp only [Int.add_zero, inR_i64, and_true, true_and, n1]
 exact ⟨id000, fun h => (by cases h), fun _ => ⟨⟨s1, s2, s3, s4⟩, by omega, by omega, fun h => (by cases h), fun _ => trivial⟩⟩
theorem TN132ok : TabOk Tryd.prog G TN132 := tabL_ok noCh_ok ⟨ct165, ct166i, trivial⟩
theorem kA (q : Int) (n : Nat) : kAft q n = if q < n then q else 0 := rfl
theorem sp132_0 (x y : Int) (h1 : -4096 ≤ x) (h2 : x ≤ 4096) (h3 : -4096 ≤ y) (h4 : y ≤ 4096) : SpecP Tryd.prog G 132 [.agg [.int .u8 0, .int .i64 0, .int .i64 0], .agg [.int .i64 x, .int .i64 y, .int .u8 0]] (.agg [.int .i64 x, .int .i64 y, .int .u8 0]) [] := by
 refine fnP_spec hcm hmx TN132ok ok132 rfl (ob_o132_0 x y) ?_
 have e1 := and_one (2 * x + 1)
 have e2 := and_one (2 * y + 1)
 simp only [sh1_eq, sh1_ok]
 simp only [e1, e2, smP, id000, inR_i64, ltb_iff, ltb_no, beq_iff_eq, beq_eq_false_iff_ne, ne_eq, and_true, true_and, iI, kA, forall_const]
 refine ⟨by omega, by omega, by omega, by omega, by omega, by omega, by omega, ⟨0, by omega, by omega, by omega⟩, ?_⟩
 rintro ⟨i, k⟩ ⟨n, i1, i2, i3⟩
 simp only at i1 i3 ⊢
 subst i1 i3
 refine ⟨fun h => ?_, fun h0 => ⟨fun h => ?_, fun h1 => ⟨fun h => ?_, fun h2 => ⟨fun h => ?_, fun h3 => ?_⟩⟩⟩⟩
 ·obtain rfl : n = 0 := by omega
  exact ⟨⟨h, by omega⟩, ⟨1, rfl, by omega, by decide⟩, by omega⟩
 ·obtain rfl : n = 1 := by omega
  exact ⟨⟨h, by omega⟩, ⟨2, rfl, by omega, by decide⟩, by omega⟩
 ·obtain rfl : n = 2 := by omega
  exact ⟨⟨h, by omega⟩, ⟨3, rfl, by omega, by decide⟩, by omega⟩
 ·obtain rfl : n = 3 := by omega
  exact ⟨⟨h, by omega⟩, ⟨4, rfl, by omega, by decide⟩, by omega⟩
 ·obtain rfl : n = 4 := by omega
  exact ⟨⟨by omega, by omega⟩, by decide⟩
theorem sp132_1 (x y : Int) (h1 : -4096 ≤ x) (h2 : x ≤ 4096) (h3 : -4096 ≤ y) (h4 : y ≤ 4096) : SpecP Tryd.prog G 132 [.agg [.int .u8 0, .int .i64 0, .int .i64 0], .agg [.int .i64 x, .int .i64 y, .int .u8 1]] (.agg [.int .i64 x, .int .i64 y, .int .u8 1]) [] := by
 refine fnP_spec hcm hmx TN132ok ok132 rfl (ob_o132_1 x y) ?_
 have e1 := and_one (2 * x + 1)
 have e2 := and_one (2 * y + 1)
 simp only [sh1_eq, sh1_ok]
 simp only [e1, e2, smP, id000, inR_i64, ltb_iff, ltb_no, beq_iff_eq, beq_eq_false_iff_ne, ne_eq, and_true, true_and, iI, kA, forall_const]
 refine ⟨by omega, by omega, by omega, by omega, by omega, by omega, by omega, ⟨0, by omega, by omega, by omega⟩, ?_⟩
 rintro ⟨i, k⟩ ⟨n, i1, i2, i3⟩
 simp only at i1 i3 ⊢
 subst i1 i3
 refine ⟨fun h => ?_, fun h0 => ⟨fun h => ?_, fun h1 => ⟨fun h => ?_, fun h2 => ⟨fun h => ?_, fun h3 => ?_⟩⟩⟩⟩
 ·obtain rfl : n = 0 := by omega
  exact ⟨⟨h, by omega⟩, ⟨1, rfl, by omega, by decide⟩, by omega⟩
 ·obtain rfl : n = 1 := by omega
  exact ⟨⟨h, by omega⟩, ⟨2, rfl, by omega, by decide⟩, by omega⟩
 ·obtain rfl : n = 2 := by omega
  exact ⟨⟨h, by omega⟩, ⟨3, rfl, by omega, by decide⟩, by omega⟩
 ·obtain rfl : n = 3 := by omega
  exact ⟨⟨h, by omega⟩, ⟨4, rfl, by omega, by decide⟩, by omega⟩
 ·obtain rfl : n = 4 := by omega
  exact ⟨⟨by omega, by omega⟩, by decide⟩
theorem sp132_2 (x y : Int) (h1 : -4096 ≤ x) (h2 : x ≤ 4096) (h3 : -4096 ≤ y) (h4 : y ≤ 4096) : SpecP Tryd.prog G 132 [.agg [.int .u8 0, .int .i64 0, .int .i64 0], .agg [.int .i64 x, .int .i64 y, .int .u8 2]] (.agg [.int .i64 x, .int .i64 y, .int .u8 2]) [] := by
 refine fnP_spec hcm hmx TN132ok ok132 rfl (ob_o132_2 x y) ?_
 have e1 := and_one (2 * x + 1)
 have e2 := and_one (2 * y + 1)
 simp only [sh1_eq, sh1_ok]
 simp only [e1, e2, smP, id000, inR_i64, ltb_iff, ltb_no, beq_iff_eq, beq_eq_false_iff_ne, ne_eq, and_true, true_and, iI, kA, forall_const]
 refine ⟨by omega, by omega, by omega, by omega, by omega, by omega, by omega, ⟨0, by omega, by omega, by omega⟩, ?_⟩
 rintro ⟨i, k⟩ ⟨n, i1, i2, i3⟩
 simp only at i1 i3 ⊢
 subst i1 i3
 refine ⟨fun h => ?_, fun h0 => ⟨fun h => ?_, fun h1 => ⟨fun h => ?_, fun h2 => ⟨fun h => ?_, fun h3 => ?_⟩⟩⟩⟩
 ·obtain rfl : n = 0 := by omega
  exact ⟨⟨h, by omega⟩, ⟨1, rfl, by omega, by decide⟩, by omega⟩
 ·obtain rfl : n = 1 := by omega
  exact ⟨⟨h, by omega⟩, ⟨2, rfl, by omega, by decide⟩, by omega⟩
 ·obtain rfl : n = 2 := by omega
  exact ⟨⟨h, by omega⟩, ⟨3, rfl, by omega, by decide⟩, by omega⟩
 ·obtain rfl : n = 3 := by omega
  exact ⟨⟨h, by omega⟩, ⟨4, rfl, by omega, by decide⟩, by omega⟩
 ·obtain rfl : n = 4 := by omega
  exact ⟨⟨by omega, by omega⟩, by decide⟩
theorem sp132_3 (x y : Int) (h1 : -4096 ≤ x) (h2 : x ≤ 4096) (h3 : -4096 ≤ y) (h4 : y ≤ 4096) : SpecP Tryd.prog G 132 [.agg [.int .u8 0, .int .i64 0, .int .i64 0], .agg [.int .i64 x, .int .i64 y, .int .u8 3]] (.agg [.int .i64 x, .int .i64 y, .int .u8 3]) [] := by
 refine fnP_spec hcm hmx TN132ok ok132 rfl (ob_o132_3 x y) ?_
 have e1 := and_one (2 * x + 1)
 have e2 := and_one (2 * y + 1)
 simp only [sh1_eq, sh1_ok]
 simp only [e1, e2, smP, id000, inR_i64, ltb_iff, ltb_no, beq_iff_eq, beq_eq_false_iff_ne, ne_eq, and_true, true_and, iI, kA, forall_const]
 refine ⟨by omega, by omega, by omega, by omega, by omega, by omega, by omega, ⟨0, by omega, by omega, by omega⟩, ?_⟩
 rintro ⟨i, k⟩ ⟨n, i1, i2, i3⟩
 simp only at i1 i3 ⊢
 subst i1 i3
 refine ⟨fun h => ?_, fun h0 => ⟨fun h => ?_, fun h1 => ⟨fun h => ?_, fun h2 => ⟨fun h => ?_, fun h3 => ?_⟩⟩⟩⟩
 ·obtain rfl : n = 0 := by omega
  exact ⟨⟨h, by omega⟩, ⟨1, rfl, by omega, by decide⟩, by omega⟩
 ·obtain rfl : n = 1 := by omega
  exact ⟨⟨h, by omega⟩, ⟨2, rfl, by omega, by decide⟩, by omega⟩
 ·obtain rfl : n = 2 := by omega
  exact ⟨⟨h, by omega⟩, ⟨3, rfl, by omega, by decide⟩, by omega⟩
 ·obtain rfl : n = 3 := by omega
  exact ⟨⟨h, by omega⟩, ⟨4, rfl, by omega, by decide⟩, by omega⟩
 ·obtain rfl : n = 4 := by omega
  exact ⟨⟨by omega, by omega⟩, by decide⟩

theorem ct132i : CtOk Tryd.prog G 132 e132i := by
 intro args r h hp
 unfold e132i at h
 split at h <;> cases h
 rename_i t a b x y q
 obtain ⟨⟨rfl, rfl, rfl⟩, hv, h0⟩ := hp
 have hv := vldC_iff.1 hv
 simp only at hv
 have : q = 0 ∨ q = 1 ∨ q = 2 ∨ q = 3 := by omega
 rcases this with rfl | rfl | rfl | rfl
 ·exact sp132_0 x y (by omega) (by omega) (by omega) (by omega)
 ·exact sp132_1 x y (by omega) (by omega) (by omega) (by omega)
 ·exact sp132_2 x y (by omega) (by omega) (by omega) (by omega)
 ·exact sp132_3 x y (by omega) (by omega) (by omega) (by omega)
theorem TN93ok : TabOk Tryd.prog G TN93 := tabL_ok noCh_ok ⟨ct55i, ct86, ct132i, trivial⟩
theorem ct93i : CtOk Tryd.prog G 93 e93i := by
 intro args r h hp
 unfold e93i at h
 split at h <;> cases h
 rename_i t a b x y q
 obtain ⟨⟨rfl, rfl, rfl⟩, hv, h0⟩ := hp
 refine fnP_spec hcm hmx TN93ok ok93 rfl (ob_o93i x y q) ?_
 have n1 : (bI (vldC (x, y, q)) 0 1 != 0) = false := by rw [hv]; rfl
 simp only [n1, and_true, true_and]
 exact ⟨id000, fun h => (by cases h), fun _ => ⟨⟨id000, hv, h0⟩, fun h => (by cases h), fun _ => trivial⟩⟩
theorem flatK_set : ∀ (R : List Cl) (n : Nat) (c : Cl), n < R.length → (((flatK R).set (n * 3) (.int .i64 c.1)).set (n * 3 + 1) (.int .i64 c.2.1)).set (n * 3 + 1 + 1) (.int .u8 c.2.2) = flatK (R.set n c)
 | [], n, c, h => by simp at h
 | a :: r, 0, c, h => by
  rw [List.set_cons_zero, flatK_cons, flatK_cons]; rfl
 | a :: r, n + 1, c, h => by
  have ih := flatK_set r n c (by simpa using h)
  rw [List.set_cons_succ, flatK_cons, flatK_cons, ← ih]
  rw [show (n + 1) * 3 = n * 3 + 1 + 1 + 1 by omega]
  simp only [List.set_cons_succ]
theorem zeroK : ∀ n : Nat, repL [AV.int .i64 0, AV.int .i64 0, AV.int .u8 0] n = flatK (List.replicate n (0, 0, 0))
 | 0 => rfl
 | n + 1 => by
  rw [List.replicate_succ, flatK_cons, ← zeroK n]; rfl
theorem ch94ok (id : Nat) (d : List Cl) : ChOk Tryd.prog G (ch94 id d) := by
 intro h cv args r hr hp
 unfold ch94 at hr
 split at hr
 ·rw [cond_eq_ite] at hr
  split at hr
  ·rename_i hc
   simp only [Bool.and_eq_true] at hc
   cases Nat.eq_of_beq_eq_true hc.1
   cases Nat.eq_of_beq_eq_true hc.2.1
   cases Nat.eq_of_beq_eq_true hc.2.2
   cases hr
   obtain ⟨rfl, rfl, hz, hq⟩ := hp
   exact sp94 hz hq
  ·cases hr
 ·cases hr
theorem TN38ok (d : List Cl) : TabOk Tryd.prog G (TN38 d) := tabL_ok (ch94ok 450 d) ⟨ct55i, ct61, ct93i, trivial⟩
theorem ct38i : CtOk Tryd.prog G 38 e38i := by
 intro args r h hp
 unfold e38i at h
 split at h <;> cases h
 obtain ⟨⟨rfl, rfl, rfl⟩, ⟨h1, h2, hz⟩, hq0⟩ := hp
 generalize unK _ = l at *
 subst h1 h2
 refine caps2 (fnP_spec hcm hmx (TN38ok l) ok38 rfl (ob_o38i l) ?_ : SpecP Tryd.prog G 38 [_, cls l] _ [])
 simp only [unK_flat, ltb_iff, ltb_no, leb_iff, leb_no, len'_iff, ltn_iff, inR_i64, and_true, true_and, size_vals, iI, flatK_len, Int.toNat_natCast]
 refine ⟨id000, ⟨okL_flat hz, hq0⟩, fun hb => ?_, fun hb => ?_⟩
 ·have e : mvX l = [] := chkX hb _ _
  rw [e]; exact ⟨rfl, rfl⟩
 have h0 : chkI l = 0 := by simpa using hb
 obtain ⟨hl, hv, hs⟩ := chk0 h0
 have eX : mvX l = srtQ l := chkY h0 _ _
 refine ⟨by omega, by omega, ⟨List.replicate l.length (0, 0, 0), 0, rfl, by omega, zeroK _, List.length_replicate .., by simp⟩, ?_⟩
 rintro ⟨i, o⟩ ⟨R, n, i1, i2, i3, i4, i5⟩
 simp only at i1 i3 ⊢
 subst i1 i3
 simp only [Int.toNat_natCast]
 refine ⟨fun hlt => ?_, fun hge => ?_⟩
 ·have g1 : n < l.length := by omega
  obtain ⟨a0, a1, a2⟩ := kget g1
  have hc : vldC (kX l n, kY l n, kQ l n) = true := by rw [← kAt g1]; exact hv _ (List.getElem_mem g1)
  have hq := okQ_at hq0 g1
  refine ⟨by omega, by omega, by omega, a0, a1, a2, ⟨id000, hc, hq.1⟩, by omega, by omega, by rw [flatK_len]; omega, by omega, ⟨R.set n (kX l n, kY l n, kQ l n), n + 1, by omega, by omega, flatK_set R n (kX l n, kY l n, kQ l n) (by omega), by rw [List.length_set]; exact i4, ?_⟩, by omega⟩
  rw [take_at g1, ← i5, List.take_add_one, List.getElem?_set_self (by omega)]
  congr 1
  apply List.ext_getElem?
  intro j
  simp only [List.getElem?_take, List.getElem?_set]
  split
  ·rw [if_neg (by omega)]
  ·rfl
 ·have e : n = l.length := by omega
  subst e
  have : R = l := by
   rw [List.take_length, ← i4, List.take_length] at i5
   exact i5
  subst this
  rw [eX, srtQ_len]
  exact ⟨⟨rfl, by omega, hq0⟩, rfl, rfl, h0.symm⟩
end Go.Proofs.YtmnaghfndigfkaaDoor.X
