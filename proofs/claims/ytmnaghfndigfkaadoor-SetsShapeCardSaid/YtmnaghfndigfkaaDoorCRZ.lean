/-
 The reference's functions on cells: the contracts.
-/
import Derived.Test.YtmnaghfndigfkaaDoorOQZ
import Derived.Test.YtmnaghfndigfkaaDoorOQbZ
import Derived.Test.YtmnaghfndigfkaaDoorCJZ
set_option maxRecDepth 1000000
set_option linter.unusedVariables false
set_option linter.unusedSimpArgs false
namespace Go.Proofs.YtmnaghfndigfkaaDoor.X
open Go Go.Ab

theorem crS0 : crS 0 = 0 := rfl
theorem crS1 : crS 1 = 1 := rfl
theorem crS2 : crS 2 = 1 := rfl
theorem crS3 : crS 3 = 0 := rfl
theorem crX0 : crX 0 = 1 := rfl
theorem crX1 : crX 1 = 1 := rfl
theorem crX2 : crX 2 = 0 := rfl
theorem crX3 : crX 3 = 0 := rfl
theorem crY0 : crY 0 = 0 := rfl
theorem crY1 : crY 1 = 0 := rfl
theorem crY2 : crY 2 = 1 := rfl
theorem crY3 : crY 3 = 1 := rfl
theorem td1 (x : Int) : (2 * x + 1 - 1).tdiv 2 = x := by
 rw [show 2 * x + 1 - 1 = 2 * x by omega]
 exact Int.mul_tdiv_cancel_left x (by decide)
theorem td2 (x : Int) : (2 * x).tdiv 2 = x := Int.mul_tdiv_cancel_left x (by decide)
theorem tm1 (x : Int) : ((2 * x + 1).tmod 2 == 0) = false := by
 rw [beq_eq_false_iff_ne]
 intro h
 have := Int.mul_tdiv_add_tmod (2 * x + 1) 2
 omega
theorem ct175 : CtOk Tryd.prog G 175 e175 := by
 intro args r h hp
 unfold e175 at h
 split at h <;> cases h
 rename_i k
 refine fnP_spec hcm hmx T0ok ok175 rfl (ob_o175 k) ?_
 unfold acA acB
 simp only [beq_iff_eq, beq_eq_false_iff_ne, ne_eq, and_true, iI]
 refine ⟨fun h => ?_, fun h1 => ⟨fun h => ?_, fun h2 => ⟨fun h => ?_, fun h3 => ?_⟩⟩⟩
 ·subst h; decide
 ·subst h; decide
 ·subst h; decide
 ·rw [if_neg h1, if_neg h2, if_neg h3, if_neg h1]; decide
theorem TQ175ok : TabOk Tryd.prog G TQ175 := tabL_ok noCh_ok ⟨ct175, trivial⟩
theorem ac_in (k : Int) : (acA k = 1 ∨ acA k = 0 ∨ acA k = -1) ∧ (acB k = 1 ∨ acB k = 0) := by
 unfold acA acB
 constructor
 ·split
  ·exact .inl rfl
  ·split
   ·exact .inr (.inl rfl)
   ·split
    ·exact .inl rfl
    ·exact .inr (.inr rfl)
 ·split
  ·exact .inr rfl
  ·exact .inl rfl
theorem ct176 : CtOk Tryd.prog G 176 e176 := by
 intro args r h hp
 unfold e176 at h
 split at h <;> cases h
 rename_i k c x y
 obtain ⟨⟨h1, h2⟩, ⟨h3, h4⟩, h5, h6⟩ := hp
 refine fnP_spec hcm hmx TQ175ok ok176 rfl (ob_o176 k c x y) ?_
 simp only [inR_i64, and_true]
 obtain ⟨a, b⟩ := ac_in k
 rcases a with a | a | a <;> rcases b with b | b <;> rw [a, b] <;> omega
theorem TQ138ok : TabOk Tryd.prog G TQ138 := tabL_ok noCh_ok ⟨ct175, ct176, trivial⟩
theorem ct138 : CtOk Tryd.prog G 138 e138 := by
 intro args r h hp
 unfold e138 at h
 split at h <;> cases h
 rename_i k c x y
 obtain ⟨k1, k4, hc, hx, hy⟩ := hp
 have s : sml c ∧ sml x ∧ sml y := ⟨hc, hx, hy⟩
 obtain ⟨⟨h1, h2⟩, ⟨h3, h4⟩, h5, h6⟩ := s
 have : k = 1 ∨ k = 2 ∨ k = 3 ∨ k = 4 := by omega
 rcases this with rfl | rfl | rfl | rfl
 ·refine fnP_spec hcm hmx TQ138ok ok138 rfl (ob_o138_1 c x y) ?_
  have e : rfX 1 c x y = 4 * c - x ∧ rfY 1 c x y = y := ⟨rfl, rfl⟩
  rw [e.1, e.2]
  simp only [inR_i64, and_true, td2, Int.tdiv_one]
  exact ⟨⟨hc, hx, hy⟩, by omega⟩
 ·refine fnP_spec hcm hmx TQ138ok ok138 rfl (ob_o138_2 c x y) ?_
  have e : rfX 2 c x y = x ∧ rfY 2 c x y = 4 * c - y := ⟨rfl, rfl⟩
  rw [e.1, e.2]
  simp only [inR_i64, and_true, td2, Int.tdiv_one]
  exact ⟨⟨hc, hx, hy⟩, by omega⟩
 ·refine fnP_spec hcm hmx TQ138ok ok138 rfl (ob_o138_3 c x y) ?_
  have e : rfX 3 c x y = 2 * c - y ∧ rfY 3 c x y = 2 * c - x := ⟨rfl, rfl⟩
  rw [e.1, e.2]
  simp only [inR_i64, and_true, td2, Int.tdiv_one]
  exact ⟨⟨hc, hx, hy⟩, by omega⟩
 ·refine fnP_spec hcm hmx TQ138ok ok138 rfl (ob_o138_4 c x y) ?_
  have e : rfX 4 c x y = y - 2 * c ∧ rfY 4 c x y = x + 2 * c := ⟨rfl, rfl⟩
  rw [e.1, e.2]
  simp only [inR_i64, and_true, td2, Int.tdiv_one]
  exact ⟨⟨hc, hx, hy⟩, by omega⟩
theorem ct134 : CtOk Tryd.prog G 134 e134 := by
 intro args r h hp
 unfold e134 at h
 split at h <;> cases h
 rename_i x y q
 obtain ⟨⟨h1, h2⟩, ⟨h3, h4⟩, h5, h6⟩ := hp
 have : q = 0 ∨ q = 1 ∨ q = 2 ∨ q = 3 := by omega
 rcases this with rfl | rfl | rfl | rfl
 ·refine fnP_spec hcm hmx T0ok ok134 rfl (ob_o134_0 x y) ?_
  simp only [inR_i64, and_true, crS0, crX0, crY0]
  simp only [true_and, and_true]
  omega
 ·refine fnP_spec hcm hmx T0ok ok134 rfl (ob_o134_1 x y) ?_
  simp only [inR_i64, and_true, crS1, crX1, crY1]
  simp only [true_and, and_true]
  omega
 ·refine fnP_spec hcm hmx T0ok ok134 rfl (ob_o134_2 x y) ?_
  simp only [inR_i64, and_true, crS2, crX2, crY2]
  simp only [true_and, and_true]
  omega
 ·refine fnP_spec hcm hmx T0ok ok134 rfl (ob_o134_3 x y) ?_
  simp only [inR_i64, and_true, crS3, crX3, crY3]
  simp only [true_and, and_true]
  omega
theorem TQ137ok : TabOk Tryd.prog G TQ137 := tabL_ok noCh_ok ⟨ct175, ct134, trivial⟩
theorem e01 (x : Int) : (2 * x + 2 * 0 = 2 * x + 2 * 1) = False := by
 rw [eq_iff_iff, iff_false]; omega
theorem e10 (x : Int) : (2 * x + 2 * 1 = 2 * x + 2 * 0) = False := by
 rw [eq_iff_iff, iff_false]; omega
theorem sp136a (x y q : Int) (h : smc x y q) : SpecP Tryd.prog G 136 [.agg (crL x y q)] (.agg [.int .i64 x, .int .i64 y, .int .u8 q]) [] := by
 obtain ⟨h1, h2, h3, h4, h5, h6⟩ := h
 refine fnP_spec hcm hmx TQ137ok ok136 rfl (ob_o136a x y q) ?_
 simp only [td1, tm1, inR_i64, inR_u8, ltb_iff, and_true, true_and, iI, Bool.not_false, Bool.and_eq_true, Bool.and_eq_false_imp, beq_iff_eq, beq_eq_false_iff_ne, ne_eq, sml, neI]
 refine ⟨by omega, ?_⟩
 rintro ⟨i⟩ ⟨i0, iq⟩
 simp only at i0 iq ⊢
 refine ⟨by omega, by omega, by omega, by omega, ?_⟩
 have cq : q = 0 ∨ q = 1 ∨ q = 2 ∨ q = 3 := by omega
 have ci : i = 0 ∨ i = 1 ∨ i = 2 ∨ i = 3 := by omega
 rcases cq with rfl | rfl | rfl | rfl <;> rcases ci with rfl | rfl | rfl | rfl <;> try omega
 all_goals simp only [crS0, crS1, crS2, crS3, crX0, crX1, crX2, crX3, crY0, crY1, crY2, crY3]
 all_goals first | (simp [e01, e10]; done) | (simp [e01, e10]; omega)
theorem sp136b (x y q : Int) (h : smc x y q) : SpecP Tryd.prog G 136 [.agg [.int .i64 (2 * x + 1), .int .i64 (2 * y + 1), .int .i64 (2 * x + 2 * crX q), .int .i64 (2 * y + 2 * crY q), .int .i64 (2 * x + 2 * crS q), .int .i64 (2 * y + 2 * crS q)]] (.agg [.int .i64 x, .int .i64 y, .int .u8 q]) [] := by
 obtain ⟨h1, h2, h3, h4, h5, h6⟩ := h
 refine fnP_spec hcm hmx TQ137ok ok136 rfl (ob_o136b x y q) ?_
 simp only [td1, tm1, inR_i64, inR_u8, ltb_iff, and_true, true_and, iI, Bool.not_false, Bool.and_eq_true, Bool.and_eq_false_imp, beq_iff_eq, beq_eq_false_iff_ne, ne_eq, sml, neI]
 refine ⟨by omega, ?_⟩
 rintro ⟨i⟩ ⟨i0, iq⟩
 simp only at i0 iq ⊢
 refine ⟨by omega, by omega, by omega, by omega, ?_⟩
 have cq : q = 0 ∨ q = 1 ∨ q = 2 ∨ q = 3 := by omega
 have ci : i = 0 ∨ i = 1 ∨ i = 2 ∨ i = 3 := by omega
 rcases cq with rfl | rfl | rfl | rfl <;> rcases ci with rfl | rfl | rfl | rfl <;> try omega
 all_goals simp only [crS0, crS1, crS2, crS3, crX0, crX1, crX2, crX3, crY0, crY1, crY2, crY3]
 all_goals first | (simp [e01, e10]; done) | (simp [e01, e10]; omega)
theorem wQ_ok {q : Int} (h0 : 0 ≤ q) (h3 : q ≤ 3) (x y : Int) : wQ (2 * x + 2 * crS q + (2 * x + 2 * crX q) - 2 * (2 * x + 1)) (2 * y + 2 * crS q + (2 * y + 2 * crY q) - 2 * (2 * y + 1)) = q := by
 have : q = 0 ∨ q = 1 ∨ q = 2 ∨ q = 3 := by omega
 have e : ∀ a b : Int, 2 * x + 2 * a + (2 * x + 2 * b) - 2 * (2 * x + 1) = 2 * a + 2 * b - 2 := fun a b => by omega
 have f : ∀ a b : Int, 2 * y + 2 * a + (2 * y + 2 * b) - 2 * (2 * y + 1) = 2 * a + 2 * b - 2 := fun a b => by omega
 rw [e, f]
 rcases this with rfl | rfl | rfl | rfl <;> rfl
theorem ct136 : CtOk Tryd.prog G 136 e136 := by
 intro args r h hp
 unfold e136 at h
 split at h <;> cases h
 rename_i mx my ax ay bx b_
 obtain ⟨x, y, q, hs, rfl, rfl, ⟨rfl, rfl, rfl, rfl⟩ | ⟨rfl, rfl, rfl, rfl⟩⟩ := hp
 ·have := sp136a x y q hs
  show SpecP Tryd.prog G 136 _ (.agg [.int .i64 ((2 * x + 1 - 1) / 2), .int .i64 ((2 * y + 1 - 1) / 2), .int .u8 _]) []
  rw [wQ_ok hs.2.2.2.2.1 hs.2.2.2.2.2, show (2 * x + 1 - 1) / 2 = x by omega, show (2 * y + 1 - 1) / 2 = y by omega]
  exact this
 ·have := sp136b x y q hs
  show SpecP Tryd.prog G 136 _ (.agg [.int .i64 ((2 * x + 1 - 1) / 2), .int .i64 ((2 * y + 1 - 1) / 2), .int .u8 _]) []
  rw [Int.add_comm (2 * x + 2 * crX q), Int.add_comm (2 * y + 2 * crY q), wQ_ok hs.2.2.2.2.1 hs.2.2.2.2.2, show (2 * x + 1 - 1) / 2 = x by omega, show (2 * y + 1 - 1) / 2 = y by omega]
  exact this
/-! ### Lines of edges -/
theorem tdr {n C : Int} (h : n = 2 * C) (h1 : -100000 ≤ C) (h2 : C ≤ 100000) : (-9223372036854775808 ≤ n.tdiv 2 ∧ n.tdiv 2 ≤ 9223372036854775807) ∧ n.tdiv 2 = C := by
 rw [h, td2]; omega
theorem sp137_0 (x y q : Int) (h : smc x y q) : SpecP Tryd.prog G 137 [.agg [.int .i64 x, .int .i64 y, .int .u8 q], .int .i64 0] (.agg [.int .u8 (lnK q 0), .int .i64 (lnC x y q 0)]) [] := by
 obtain ⟨h1, h2, h3, h4, h5, h6⟩ := h
 refine fnP_spec hcm hmx TQ137ok ok137 rfl (ob_o137_0 x y q) ?_
 simp only [inR_i64, inR_u8, leb_iff, leb_no, and_true, true_and, iI, beq_iff_eq, beq_eq_false_iff_ne, ne_eq, sml]
 refine ⟨by omega, ?_, ?_⟩
 ·have cq : q = 0 ∨ q = 1 ∨ q = 2 ∨ q = 3 := by omega
  rcases cq with rfl | rfl | rfl | rfl <;> simp [aft, lnK]
 rintro ⟨k, a, b⟩ ⟨k1, k5, ha, hb⟩
 simp only at k1 k5 ha hb ⊢
 subst ha hb
 have cq : q = 0 ∨ q = 1 ∨ q = 2 ∨ q = 3 := by omega
 have ck : k = 1 ∨ k = 2 ∨ k = 3 ∨ k = 4 ∨ k = 5 := by omega
 rcases cq with rfl | rfl | rfl | rfl <;> rcases ck with rfl | rfl | rfl | rfl | rfl
 all_goals simp only [crS0, crS1, crS2, crS3, crX0, crX1, crX2, crX3, crY0, crY1, crY2, crY3]
 all_goals simp [aft, lnK, lnC, acA, acB]
 all_goals first | omega | (refine ⟨by omega, tdr ?_ ?_ ?_⟩ <;> omega) | (refine ⟨by omega, by omega, by omega, tdr ?_ ?_ ?_⟩ <;> omega) | (refine ⟨by omega, by omega, by omega, by omega, by omega, by omega, tdr ?_ ?_ ?_⟩ <;> omega) | (refine ⟨by omega, by omega, by omega, by omega, by omega, by omega, fun _ => ⟨by omega, by omega, by omega, tdr ?_ ?_ ?_⟩, by omega⟩ <;> omega) | trace_state
theorem sp137_1 (x y q : Int) (h : smc x y q) : SpecP Tryd.prog G 137 [.agg [.int .i64 x, .int .i64 y, .int .u8 q], .int .i64 1] (.agg [.int .u8 (lnK q 1), .int .i64 (lnC x y q 1)]) [] := by
 obtain ⟨h1, h2, h3, h4, h5, h6⟩ := h
 refine fnP_spec hcm hmx TQ137ok ok137 rfl (ob_o137_1 x y q) ?_
 simp only [inR_i64, inR_u8, leb_iff, leb_no, and_true, true_and, iI, beq_iff_eq, beq_eq_false_iff_ne, ne_eq, sml]
 refine ⟨by omega, ?_, ?_⟩
 ·have cq : q = 0 ∨ q = 1 ∨ q = 2 ∨ q = 3 := by omega
  rcases cq with rfl | rfl | rfl | rfl <;> simp [aft, lnK]
 rintro ⟨k, a, b⟩ ⟨k1, k5, ha, hb⟩
 simp only at k1 k5 ha hb ⊢
 subst ha hb
 have cq : q = 0 ∨ q = 1 ∨ q = 2 ∨ q = 3 := by omega
 have ck : k = 1 ∨ k = 2 ∨ k = 3 ∨ k = 4 ∨ k = 5 := by omega
 rcases cq with rfl | rfl | rfl | rfl <;> rcases ck with rfl | rfl | rfl | rfl | rfl
 all_goals simp only [crS0, crS1, crS2, crS3, crX0, crX1, crX2, crX3, crY0, crY1, crY2, crY3]
 all_goals simp [aft, lnK, lnC, acA, acB]
 all_goals first | omega | (refine ⟨by omega, tdr ?_ ?_ ?_⟩ <;> omega) | (refine ⟨by omega, by omega, by omega, tdr ?_ ?_ ?_⟩ <;> omega) | (refine ⟨by omega, by omega, by omega, by omega, by omega, by omega, tdr ?_ ?_ ?_⟩ <;> omega) | (refine ⟨by omega, by omega, by omega, by omega, by omega, by omega, fun _ => ⟨by omega, by omega, by omega, tdr ?_ ?_ ?_⟩, by omega⟩ <;> omega) | trace_state
theorem sp137_2 (x y q : Int) (h : smc x y q) : SpecP Tryd.prog G 137 [.agg [.int .i64 x, .int .i64 y, .int .u8 q], .int .i64 2] (.agg [.int .u8 (lnK q 2), .int .i64 (lnC x y q 2)]) [] := by
 obtain ⟨h1, h2, h3, h4, h5, h6⟩ := h
 refine fnP_spec hcm hmx TQ137ok ok137 rfl (ob_o137_2 x y q) ?_
 simp only [inR_i64, inR_u8, leb_iff, leb_no, and_true, true_and, iI, beq_iff_eq, beq_eq_false_iff_ne, ne_eq, sml]
 refine ⟨by omega, ?_, ?_⟩
 ·have cq : q = 0 ∨ q = 1 ∨ q = 2 ∨ q = 3 := by omega
  rcases cq with rfl | rfl | rfl | rfl <;> simp [aft, lnK]
 rintro ⟨k, a, b⟩ ⟨k1, k5, ha, hb⟩
 simp only at k1 k5 ha hb ⊢
 subst ha hb
 have cq : q = 0 ∨ q = 1 ∨ q = 2 ∨ q = 3 := by omega
 have ck : k = 1 ∨ k = 2 ∨ k = 3 ∨ k = 4 ∨ k = 5 := by omega
 rcases cq with rfl | rfl | rfl | rfl <;> rcases ck with rfl | rfl | rfl | rfl | rfl
 all_goals simp only [crS0, crS1, crS2, crS3, crX0, crX1, crX2, crX3, crY0, crY1, crY2, crY3]
 all_goals simp [aft, lnK, lnC, acA, acB]
 all_goals first | omega | (refine ⟨by omega, tdr ?_ ?_ ?_⟩ <;> omega) | (refine ⟨by omega, by omega, by omega, tdr ?_ ?_ ?_⟩ <;> omega) | (refine ⟨by omega, by omega, by omega, by omega, by omega, by omega, tdr ?_ ?_ ?_⟩ <;> omega) | (refine ⟨by omega, by omega, by omega, by omega, by omega, by omega, fun _ => ⟨by omega, by omega, by omega, tdr ?_ ?_ ?_⟩, by omega⟩ <;> omega) | trace_state
theorem ct137 : CtOk Tryd.prog G 137 e137 := by
 intro args r h hp
 unfold e137 at h
 split at h <;> cases h
 rename_i x y q e
 obtain ⟨hs, h0, h2⟩ := hp
 have : e = 0 ∨ e = 1 ∨ e = 2 := by omega
 rcases this with rfl | rfl | rfl
 ·exact sp137_0 x y q hs
 ·exact sp137_1 x y q hs
 ·exact sp137_2 x y q hs
/-! ### Neighbours -/
theorem wq0 {a b : Int} (h : b = -2) : wQ a b = 0 := by unfold wQ; rw [if_pos h]
theorem wq1 {a b : Int} (h : a = 2) (g : b ≠ -2) : wQ a b = 1 := by unfold wQ; rw [if_neg g, if_pos h]
theorem wq2 {a b : Int} (h : b = 2) (g : a ≠ 2) : wQ a b = 2 := by unfold wQ; rw [if_neg (by omega), if_neg g, if_pos h]
theorem wq3 {a b : Int} (h : a ≠ 2) (g : b ≠ 2) (k : b ≠ -2) : wQ a b = 3 := by unfold wQ; rw [if_neg k, if_neg h, if_neg g]
theorem TQ100ok : TabOk Tryd.prog G TQ100 := tabL_ok noCh_ok ⟨ct137, ct134, ct138, ct136, trivial⟩
theorem sp100_0 (x y q : Int) (h : smc x y q) (hx : -4096 ≤ x ∧ x ≤ 4096) (hy : -4096 ≤ y ∧ y ≤ 4096) : SpecP Tryd.prog G 100 [.agg [.int .i64 x, .int .i64 y, .int .u8 q], .int .i64 0] (.agg [.int .i64 (nrX x y q 0), .int .i64 (nrY x y q 0), .int .u8 (nrQ x y q 0)]) [] := by
 obtain ⟨h1, h2, h3, h4, h5, h6⟩ := id h
 refine fnP_spec hcm hmx TQ100ok ok100 rfl (ob_o100_0 x y q) ?_
 have cq : q = 0 ∨ q = 1 ∨ q = 2 ∨ q = 3 := by omega
 refine ⟨⟨h, by decide, by decide⟩, ⟨⟨?_, ?_⟩, ⟨?_, ?_⟩, h5, h6⟩, ⟨?_, ?_, ⟨?_, ?_⟩, ⟨?_, ?_⟩, ?_, ?_⟩, ⟨?_, ?_, ⟨?_, ?_⟩, ⟨?_, ?_⟩, ?_, ?_⟩, ⟨?_, ?_, ⟨?_, ?_⟩, ⟨?_, ?_⟩, ?_, ?_⟩, ⟨nrX x y q 0, nrY x y q 0, nrQ x y q 0, ⟨?_, ?_, ?_, ?_, ?_, ?_⟩, ?_, ?_, .inr ⟨?_, ?_, ?_, ?_⟩⟩, ?_, ?_, ?_, trivial⟩
 all_goals rcases cq with rfl | rfl | rfl | rfl
 all_goals try simp [rfX, rfY, lnK, lnC, crS, crX, crY, nrX, nrY, nrQ, nbC, nbD]
 all_goals try omega
 all_goals first | decide | (refine wq0 ?_ <;> omega) | (refine wq1 ?_ ?_ <;> omega) | (refine wq2 ?_ ?_ <;> omega) | (refine wq3 ?_ ?_ ?_ <;> omega)
theorem sp100_1 (x y q : Int) (h : smc x y q) (hx : -4096 ≤ x ∧ x ≤ 4096) (hy : -4096 ≤ y ∧ y ≤ 4096) : SpecP Tryd.prog G 100 [.agg [.int .i64 x, .int .i64 y, .int .u8 q], .int .i64 1] (.agg [.int .i64 (nrX x y q 1), .int .i64 (nrY x y q 1), .int .u8 (nrQ x y q 1)]) [] := by
 obtain ⟨h1, h2, h3, h4, h5, h6⟩ := id h
 refine fnP_spec hcm hmx TQ100ok ok100 rfl (ob_o100_1 x y q) ?_
 have cq : q = 0 ∨ q = 1 ∨ q = 2 ∨ q = 3 := by omega
 refine ⟨⟨h, by decide, by decide⟩, ⟨⟨?_, ?_⟩, ⟨?_, ?_⟩, h5, h6⟩, ⟨?_, ?_, ⟨?_, ?_⟩, ⟨?_, ?_⟩, ?_, ?_⟩, ⟨?_, ?_, ⟨?_, ?_⟩, ⟨?_, ?_⟩, ?_, ?_⟩, ⟨?_, ?_, ⟨?_, ?_⟩, ⟨?_, ?_⟩, ?_, ?_⟩, ⟨nrX x y q 1, nrY x y q 1, nrQ x y q 1, ⟨?_, ?_, ?_, ?_, ?_, ?_⟩, ?_, ?_, .inl ⟨?_, ?_, ?_, ?_⟩⟩, ?_, ?_, ?_, trivial⟩
 all_goals rcases cq with rfl | rfl | rfl | rfl
 all_goals try simp [rfX, rfY, lnK, lnC, crS, crX, crY, nrX, nrY, nrQ, nbC, nbD]
 all_goals try omega
 all_goals first | decide | (refine wq0 ?_ <;> omega) | (refine wq1 ?_ ?_ <;> omega) | (refine wq2 ?_ ?_ <;> omega) | (refine wq3 ?_ ?_ ?_ <;> omega)
theorem sp100_2 (x y q : Int) (h : smc x y q) (hx : -4096 ≤ x ∧ x ≤ 4096) (hy : -4096 ≤ y ∧ y ≤ 4096) : SpecP Tryd.prog G 100 [.agg [.int .i64 x, .int .i64 y, .int .u8 q], .int .i64 2] (.agg [.int .i64 (nrX x y q 2), .int .i64 (nrY x y q 2), .int .u8 (nrQ x y q 2)]) [] := by
 obtain ⟨h1, h2, h3, h4, h5, h6⟩ := id h
 refine fnP_spec hcm hmx TQ100ok ok100 rfl (ob_o100_2 x y q) ?_
 have cq : q = 0 ∨ q = 1 ∨ q = 2 ∨ q = 3 := by omega
 refine ⟨⟨h, by decide, by decide⟩, ⟨⟨?_, ?_⟩, ⟨?_, ?_⟩, h5, h6⟩, ⟨?_, ?_, ⟨?_, ?_⟩, ⟨?_, ?_⟩, ?_, ?_⟩, ⟨?_, ?_, ⟨?_, ?_⟩, ⟨?_, ?_⟩, ?_, ?_⟩, ⟨?_, ?_, ⟨?_, ?_⟩, ⟨?_, ?_⟩, ?_, ?_⟩, ⟨nrX x y q 2, nrY x y q 2, nrQ x y q 2, ⟨?_, ?_, ?_, ?_, ?_, ?_⟩, ?_, ?_, .inl ⟨?_, ?_, ?_, ?_⟩⟩, ?_, ?_, ?_, trivial⟩
 all_goals rcases cq with rfl | rfl | rfl | rfl
 all_goals try simp [rfX, rfY, lnK, lnC, crS, crX, crY, nrX, nrY, nrQ, nbC, nbD]
 all_goals try omega
 all_goals first | decide | (refine wq0 ?_ <;> omega) | (refine wq1 ?_ ?_ <;> omega) | (refine wq2 ?_ ?_ <;> omega) | (refine wq3 ?_ ?_ ?_ <;> omega)
theorem ct100 : CtOk Tryd.prog G 100 e100 := by
 intro args r h hp
 unfold e100 at h
 split at h <;> cases h
 rename_i x y q e
 obtain ⟨hs, hx, hy, h0, h2⟩ := hp
 have : e = 0 ∨ e = 1 ∨ e = 2 := by omega
 rcases this with rfl | rfl | rfl
 ·exact sp100_0 x y q hs hx hy
 ·exact sp100_1 x y q hs hx hy
 ·exact sp100_2 x y q hs hx hy
end Go.Proofs.YtmnaghfndigfkaaDoor.X
