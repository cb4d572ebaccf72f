/-
 The move that moves nothing: the contracts.
-/
import Derived.Test.YtmnaghfndigfkaaDoorONZ
import Derived.Test.YtmnaghfndigfkaaDoorCSZ
import Derived.Test.YtmnaghfndigfkaaDoorCKZ
import Derived.Test.YtmnaghfndigfkaaDoorPCZ
set_option maxRecDepth 1000000
set_option linter.unusedVariables false
set_option linter.unusedSimpArgs false
namespace Go.Proofs.YtmnaghfndigfkaaDoor.X
open Go Go.Ab

theorem and_one (x : Int) : bitI .and .i64 x 1 = x % 2 := by
 have h : (BitVec.ofInt 64 x &&& BitVec.ofInt 64 1).toNat = (x % 2).toNat := by
  rw [BitVec.toNat_and, BitVec.toNat_ofInt, BitVec.toNat_ofInt]
  have e : (1 % ((2 ^ 64 : Nat) : Int)).toNat = 1 := rfl
  rw [e, Nat.and_one_is_mod]
  omega
 show IntKind.i64.wrap (((BitVec.ofInt 64 x &&& BitVec.ofInt 64 1).toNat : Nat) : Int) = _
 rw [h]
 have h2 : x % 2 = 0 ∨ x % 2 = 1 := by omega
 rcases h2 with e | e <;> rw [e] <;> rfl
theorem ptB_iff {x y : Int} : ptB x y = true ↔ -65536 ≤ x ∧ x ≤ 65536 ∧ -65536 ≤ y ∧ y ≤ 65536 := by unfold ptB; rw [decide_eq_true_iff]
theorem ptB_no {x y : Int} : ptB x y = false ↔ ¬ (-65536 ≤ x ∧ x ≤ 65536 ∧ -65536 ≤ y ∧ y ≤ 65536) := by unfold ptB; rw [decide_eq_false_iff_not]
theorem ct151 : CtOk Tryd.prog G 151 e151 := by
 intro args r h hp
 unfold e151 at h
 split at h <;> cases h
 rename_i x y
 refine fnP_spec hcm hmx T0ok ok151 rfl (ob_o151 x y) ?_
 simp only [ltb_iff, ltb_no, and_true]
 have no : ¬ (-65536 ≤ x ∧ x ≤ 65536 ∧ -65536 ≤ y ∧ y ≤ 65536) → 1 = bI (ptB x y) 0 1 := fun h => by rw [ptB_no.2 h]; rfl
 refine ⟨fun h => no (by omega), fun h1 => ⟨fun h => no (by omega), fun h2 => ⟨fun h => no (by omega), fun h3 => ⟨fun h => no (by omega), fun h4 => ?_⟩⟩⟩⟩
 rw [ptB_iff.2 (by omega)]; rfl
theorem ct165 : CtOk Tryd.prog G 165 e165 := by
 intro args r h hp
 unfold e165 at h
 split at h <;> cases h
 obtain ⟨s1, s2, s3, s4⟩ := hp
 refine fnP_spec hcm hmx T0ok ok165 rfl (ob_o165 _ _ _) ?_
 simp only [inR_i64, and_true]
 refine ⟨?_, ?_, ?_, ?_⟩ <;> omega
theorem kA (q : Int) (n : Nat) : kAft q n = if q < n then q else 0 := rfl
theorem flatK_set : ∀ (R : List Cl) (n : Nat) (c : Cl), n < R.length → (((flatK R).set (n * 3) (.int .i64 c.1)).set (n * 3 + 1) (.int .i64 c.2.1)).set (n * 3 + 1 + 1) (.int .u8 c.2.2) = flatK (R.set n c)
 | [], n, c, h => by simp at h
 | a :: r, 0, c, h => by
  rw [List.set_cons_zero, flatK_cons, flatK_cons]; rfl
 | a :: r, n + 1, c, h => by
  have ih := flatK_set r n c (by simpa using h)
  rw [List.set_cons_succ, flatK_cons, flatK_cons, ← ih]
  rw [show (n + 1) * 3 = n * 3 + 1 + 1 + 1 by omega]
  simp only [List.set_cons_succ]
theorem zeroK : ∀ n : Nat, repL [AV.int .i64 0, AV.int .i64 0, AV.int .u8 0] n = flatK (List.replicate n (0, 0, 0))
 | 0 => rfl
 | n + 1 => by
  rw [List.replicate_succ, flatK_cons, ← zeroK n]; rfl
theorem ch94ok (id : Nat) (d : List Cl) : ChOk Tryd.prog G (ch94 id d) := by
 intro h cv args r hr hp
 unfold ch94 at hr
 split at hr
 ·rw [cond_eq_ite] at hr
  split at hr
  ·rename_i hc
   simp only [Bool.and_eq_true] at hc
   cases Nat.eq_of_beq_eq_true hc.1
   cases Nat.eq_of_beq_eq_true hc.2.1
   cases Nat.eq_of_beq_eq_true hc.2.2
   cases hr
   obtain ⟨rfl, rfl, hz, hq⟩ := hp
   exact sp94 hz hq
  ·cases hr
 ·cases hr
end Go.Proofs.YtmnaghfndigfkaaDoor.X
