/-
 The reference's functions on cells: the contracts.
-/
import Derived.Test.YtmnaghfndigfkaaDoorOQbZ
import Derived.Test.YtmnaghfndigfkaaDoorCJZ
set_option maxRecDepth 1000000
set_option linter.unusedVariables false
set_option linter.unusedSimpArgs false
namespace Go.Proofs.YtmnaghfndigfkaaDoor.X
open Go Go.Ab

theorem crS0 : crS 0 = 0 := rfl
theorem crS1 : crS 1 = 1 := rfl
theorem crS2 : crS 2 = 1 := rfl
theorem crS3 : crS 3 = 0 := rfl
theorem crX0 : crX 0 = 1 := rfl
theorem crX1 : crX 1 = 1 := rfl
theorem crX2 : crX 2 = 0 := rfl
theorem crX3 : crX 3 = 0 := rfl
theorem crY0 : crY 0 = 0 := rfl
theorem crY1 : crY 1 = 0 := rfl
theorem crY2 : crY 2 = 1 := rfl
theorem crY3 : crY 3 = 1 := rfl
theorem td1 (x : Int) : (2 * x + 1 - 1).tdiv 2 = x := by
 rw [show 2 * x + 1 - 1 = 2 * x by omega]
 exact Int.mul_tdiv_cancel_left x (by decide)
theorem td2 (x : Int) : (2 * x).tdiv 2 = x := Int.mul_tdiv_cancel_left x (by decide)
theorem tm1 (x : Int) : ((2 * x + 1).tmod 2 == 0) = false := by
 rw [beq_eq_false_iff_ne]
 intro h
 have := Int.mul_tdiv_add_tmod (2 * x + 1) 2
 omega
theorem ct175 : CtOk Tryd.prog G 175 e175 := by
 intro args r h hp
 unfold e175 at h
 split at h <;> cases h
 rename_i k
 refine fnP_spec hcm hmx T0ok ok175 rfl (ob_o175 k) ?_
 unfold acA acB
 simp only [beq_iff_eq, beq_eq_false_iff_ne, ne_eq, and_true, iI]
 refine ⟨fun h => ?_, fun h1 => ⟨fun h => ?_, fun h2 => ⟨fun h => ?_, fun h3 => ?_⟩⟩⟩
 ·subst h; decide
 ·subst h; decide
 ·subst h; decide
 ·rw [if_neg h1, if_neg h2, if_neg h3, if_neg h1]; decide
theorem ct134 : CtOk Tryd.prog G 134 e134 := by
 intro args r h hp
 unfold e134 at h
 split at h <;> cases h
 rename_i x y q
 obtain ⟨⟨h1, h2⟩, ⟨h3, h4⟩, h5, h6⟩ := hp
 have : q = 0 ∨ q = 1 ∨ q = 2 ∨ q = 3 := by omega
 rcases this with rfl | rfl | rfl | rfl
 ·refine fnP_spec hcm hmx T0ok ok134 rfl (ob_o134_0 x y) ?_
  simp only [inR_i64, and_true, crS0, crX0, crY0]
  simp only [true_and, and_true]
  omega
 ·refine fnP_spec hcm hmx T0ok ok134 rfl (ob_o134_1 x y) ?_
  simp only [inR_i64, and_true, crS1, crX1, crY1]
  simp only [true_and, and_true]
  omega
 ·refine fnP_spec hcm hmx T0ok ok134 rfl (ob_o134_2 x y) ?_
  simp only [inR_i64, and_true, crS2, crX2, crY2]
  simp only [true_and, and_true]
  omega
 ·refine fnP_spec hcm hmx T0ok ok134 rfl (ob_o134_3 x y) ?_
  simp only [inR_i64, and_true, crS3, crX3, crY3]
  simp only [true_and, and_true]
  omega
theorem TQ137ok : TabOk Tryd.prog G TQ137 := tabL_ok noCh_ok ⟨ct175, ct134, trivial⟩
theorem e01 (x : Int) : (2 * x + 2 * 0 = 2 * x + 2 * 1) = False := by
 rw [eq_iff_iff, iff_false]; omega
theorem e10 (x : Int) : (2 * x + 2 * 1 = 2 * x + 2 * 0) = False := by
 rw [eq_iff_iff, iff_false]; omega
theorem sp136a (x y q : Int) (h : smc x y q) : SpecP Tryd.prog G 136 [.agg (crL x y q)] (.agg [.int .i64 x, .int .i64 y, .int .u8 q]) [] := by
 obtain ⟨h1, h2, h3, h4, h5, h6⟩ := h
 refine fnP_spec hcm hmx TQ137ok ok136 rfl (ob_o136a x y q) ?_
 simp only [td1, tm1, inR_i64, inR_u8, ltb_iff, and_true, true_and, iI, Bool.not_false, Bool.and_eq_true, Bool.and_eq_false_imp, beq_iff_eq, beq_eq_false_iff_ne, ne_eq, sml, neI]
 refine ⟨by omega, ?_⟩
 rintro ⟨i⟩ ⟨i0, iq⟩
 simp only at i0 iq ⊢
 refine ⟨by omega, by omega, by omega, by omega, ?_⟩
 have cq : q = 0 ∨ q = 1 ∨ q = 2 ∨ q = 3 := by omega
 have ci : i = 0 ∨ i = 1 ∨ i = 2 ∨ i = 3 := by omega
 rcases cq with rfl | rfl | rfl | rfl <;> rcases ci with rfl | rfl | rfl | rfl <;> try omega
 all_goals simp only [crS0, crS1, crS2, crS3, crX0, crX1, crX2, crX3, crY0, crY1, crY2, crY3]
 all_goals first | (simp [e01, e10]; done) | (simp [e01, e10]; omega)
theorem sp136b (x y q : Int) (h : smc x y q) : SpecP Tryd.prog G 136 [.agg [.int .i64 (2 * x + 1), .int .i64 (2 * y + 1), .int .i64 (2 * x + 2 * crX q), .int .i64 (2 * y + 2 * crY q), .int .i64 (2 * x + 2 * crS q), .int .i64 (2 * y + 2 * crS q)]] (.agg [.int .i64 x, .int .i64 y, .int .u8 q]) [] := by
 obtain ⟨h1, h2, h3, h4, h5, h6⟩ := h
 refine fnP_spec hcm hmx TQ137ok ok136 rfl (ob_o136b x y q) ?_
 simp only [td1, tm1, inR_i64, inR_u8, ltb_iff, and_true, true_and, iI, Bool.not_false, Bool.and_eq_true, Bool.and_eq_false_imp, beq_iff_eq, beq_eq_false_iff_ne, ne_eq, sml, neI]
 refine ⟨by omega, ?_⟩
 rintro ⟨i⟩ ⟨i0, iq⟩
 simp only at i0 iq ⊢
 refine ⟨by omega, by omega, by omega, by omega, ?_⟩
 have cq : q = 0 ∨ q = 1 ∨ q = 2 ∨ q = 3 := by omega
 have ci : i = 0 ∨ i = 1 ∨ i = 2 ∨ i = 3 := by omega
 rcases cq with rfl | rfl | rfl | rfl <;> rcases ci with rfl | rfl | rfl | rfl <;> try omega
 all_goals simp only [crS0, crS1, crS2, crS3, crX0, crX1, crX2, crX3, crY0, crY1, crY2, crY3]
 all_goals first | (simp [e01, e10]; done) | (simp [e01, e10]; omega)
theorem wQ_ok {q : Int} (h0 : 0 ≤ q) (h3 : q ≤ 3) (x y : Int) : wQ (2 * x + 2 * crS q + (2 * x + 2 * crX q) - 2 * (2 * x + 1)) (2 * y + 2 * crS q + (2 * y + 2 * crY q) - 2 * (2 * y + 1)) = q := by
 have : q = 0 ∨ q = 1 ∨ q = 2 ∨ q = 3 := by omega
 have e : ∀ a b : Int, 2 * x + 2 * a + (2 * x + 2 * b) - 2 * (2 * x + 1) = 2 * a + 2 * b - 2 := fun a b => by omega
 have f : ∀ a b : Int, 2 * y + 2 * a + (2 * y + 2 * b) - 2 * (2 * y + 1) = 2 * a + 2 * b - 2 := fun a b => by omega
 rw [e, f]
 rcases this with rfl | rfl | rfl | rfl <;> rfl
theorem ct136 : CtOk Tryd.prog G 136 e136 := by
 intro args r h hp
 unfold e136 at h
 split at h <;> cases h
 rename_i mx my ax ay bx b_
 obtain ⟨x, y, q, hs, rfl, rfl, ⟨rfl, rfl, rfl, rfl⟩ | ⟨rfl, rfl, rfl, rfl⟩⟩ := hp
 ·have := sp136a x y q hs
  show SpecP Tryd.prog G 136 _ (.agg [.int .i64 ((2 * x + 1 - 1) / 2), .int .i64 ((2 * y + 1 - 1) / 2), .int .u8 _]) []
  rw [wQ_ok hs.2.2.2.2.1 hs.2.2.2.2.2, show (2 * x + 1 - 1) / 2 = x by omega, show (2 * y + 1 - 1) / 2 = y by omega]
  exact this
 ·have := sp136b x y q hs
  show SpecP Tryd.prog G 136 _ (.agg [.int .i64 ((2 * x + 1 - 1) / 2), .int .i64 ((2 * y + 1 - 1) / 2), .int .u8 _]) []
  rw [Int.add_comm (2 * x + 2 * crX q), Int.add_comm (2 * y + 2 * crY q), wQ_ok hs.2.2.2.2.1 hs.2.2.2.2.2, show (2 * x + 1 - 1) / 2 = x by omega, show (2 * y + 1 - 1) / 2 = y by omega]
  exact this
/-! ### Lines of edges -/
/-! ### Neighbours -/
end Go.Proofs.YtmnaghfndigfkaaDoor.X
