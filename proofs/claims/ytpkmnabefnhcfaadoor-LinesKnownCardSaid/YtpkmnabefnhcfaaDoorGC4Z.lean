/-
  The laws on the image of a line, and on two reflections.
-/
import Derived.Test.YtpkmnabefnhcfaaDoorGO3Z
import Derived.Test.YtpkmnabefnhcfaaDoorGC3Z
set_option maxRecDepth 1000000
set_option linter.unusedVariables false
set_option linter.unusedSimpArgs false
namespace Go.Proofs.YtpkmnabefnhcfaaDoor.X
open Go Go.Ab

theorem tdl {a b : Int} (h : a = 2 * b) : a.tdiv 2 = b := by subst h; exact Int.mul_tdiv_cancel_left b (by decide)
theorem wfit_eq {k c j d : Int} (hk : k = 1 ∨ k = 2 ∨ k = 3 ∨ k = 4) (hj : j = 1 ∨ j = 2 ∨ j = 3 ∨ j = 4) {n : Nat} (hn : n = 1 ∨ n = 2 ∨ n = 3 ∨ n = 4) :
    wfit n (rfX k c (onX j d) (onY j d)) (rfY k c (onX j d) (onY j d)) (rfX k c (onX j d - 2 * crB j) (onY j d + 2 * crA j)) (rfY k c (onX j d - 2 * crB j) (onY j d + 2 * crA j)) = decide ((n : Int) = imK k c j d) := by
  rw [Bool.eq_iff_iff]
  rcases hk with rfl | rfl | rfl | rfl <;> rcases hj with rfl | rfl | rfl | rfl <;> rcases hn with rfl | rfl | rfl | rfl <;>
    first
    | (simp [wfit, crA, crB, rfX, rfY, onX, onY, imK]; done)
    | (simp [wfit, crA, crB, rfX, rfY, onX, onY, imK]; omega)
theorem wsum {k c j d : Int} (hk : k = 1 ∨ k = 2 ∨ k = 3 ∨ k = 4) (hj : j = 1 ∨ j = 2 ∨ j = 3 ∨ j = 4) :
    crA (imK k c j d) * rfX k c (onX j d) (onY j d) + crB (imK k c j d) * rfY k c (onX j d) (onY j d) = 2 * imC k c j d := by
  rcases hk with rfl | rfl | rfl | rfl <;> rcases hj with rfl | rfl | rfl | rfl <;>
    first
    | (simp [crA, crB, rfX, rfY, onX, onY, imK, imC]; done)
    | (simp [crA, crB, rfX, rfY, onX, onY, imK, imC]; omega)
theorem imK_in {k c j d : Int} (hk : k = 1 ∨ k = 2 ∨ k = 3 ∨ k = 4) (hj : j = 1 ∨ j = 2 ∨ j = 3 ∨ j = 4) : imK k c j d = 1 ∨ imK k c j d = 2 ∨ imK k c j d = 3 ∨ imK k c j d = 4 := by
  rcases hk with rfl | rfl | rfl | rfl <;> rcases hj with rfl | rfl | rfl | rfl <;> simp [imK]
theorem wfold5 {k c j d : Int} (hk : k = 1 ∨ k = 2 ∨ k = 3 ∨ k = 4) (hj : j = 1 ∨ j = 2 ∨ j = 3 ∨ j = 4) :
    wfold (rfX k c (onX j d) (onY j d)) (rfY k c (onX j d) (onY j d)) (rfX k c (onX j d - 2 * crB j) (onY j d + 2 * crA j)) (rfY k c (onX j d - 2 * crB j) (onY j d + 2 * crA j)) 5 = (imK k c j d, imC k c j d) := by
  have e1 := wfit_eq (c := c) (d := d) hk hj (n := 1) (by simp)
  have e2 := wfit_eq (c := c) (d := d) hk hj (n := 2) (by simp)
  have e3 := wfit_eq (c := c) (d := d) hk hj (n := 3) (by simp)
  have e4 := wfit_eq (c := c) (d := d) hk hj (n := 4) (by simp)
  have hs := tdl (wsum (c := c) (d := d) hk hj)
  simp only [wfold, e1, e2, e3, e4]
  rcases imK_in (c := c) (d := d) hk hj with h | h | h | h <;> rw [h] at hs <;> simp [h] <;> exact hs
theorem im_im {k c j d : Int} (hk : k = 1 ∨ k = 2 ∨ k = 3 ∨ k = 4) (hj : j = 1 ∨ j = 2 ∨ j = 3 ∨ j = 4) : imK k c (imK k c j d) (imC k c j d) = j ∧ imC k c (imK k c j d) (imC k c j d) = d := by
  rcases hk with rfl | rfl | rfl | rfl <;> rcases hj with rfl | rfl | rfl | rfl <;>
    first
    | (simp [imK, imC]; done)
    | (simp [imK, imC]; omega)
theorem rf_bound {k c x y : Int} (hv : vl k c = true) (hx : -100000 ≤ x ∧ x ≤ 100000) (hy : -100000 ≤ y ∧ y ≤ 100000) : -200000 ≤ rfX k c x y ∧ rfX k c x y ≤ 200000 ∧ -200000 ≤ rfY k c x y ∧ rfY k c x y ≤ 200000 := by
  have hc := vl_c hv
  obtain ⟨hk, _⟩ := vl_k hv
  rcases hk with rfl | rfl | rfl | rfl <;> simp [rfX, rfY] <;> omega
theorem on_bound {j d : Int} (hv : vl j d = true) : (-20000 ≤ onX j d ∧ onX j d ≤ 20000) ∧ (-20000 ≤ onY j d ∧ onY j d ≤ 20000) ∧ (-1 ≤ crA j ∧ crA j ≤ 1) ∧ -1 ≤ crB j ∧ crB j ≤ 1 := by
  have hc := vl_c hv
  obtain ⟨hk, _⟩ := vl_k hv
  rcases hk with rfl | rfl | rfl | rfl <;> simp [onX, onY, crA, crB] <;> omega
theorem law5 (k c j d : Int) : SpecP Tryd.prog G 5 [lnV k c, lnV j d] (.bool true) [] := by
  refine fnP_spec hcm hmx TDok ok5 rfl (ob_o5 k c j d) ?_
  simp only [bI10, Bool.not_eq_true', Bool.not_eq_false', Bool.and_eq_true, beq_iff_eq, bne_iff_ne, ltb_iff, ltb_no, leb_iff, leb_no, inR_i64, inR_u8, iI, ne_eq, true_and, and_true, bne_eq_false_iff_eq, beq_eq_false_iff_ne, implies_true, and_self]
  have im1 : (vl k c && vl j d) = false → imE k c j d = 1 ∧ imRK k c j d = 0 ∧ imRC k c j d = 0 := fun h => by
    have he : imE k c j d = 1 := by simp only [imE, h]; rfl
    simp [imRK, imRC, he, bI]
  refine ⟨fun h => im1 (by simp [h]), fun hv => ⟨fun h => im1 (by simp [h]), fun hw => ?_⟩⟩
  obtain ⟨hk, hsc⟩ := vl_k hv
  obtain ⟨hj, hsd⟩ := vl_k hw
  have hc := vl_c hv
  have hd := vl_c hw
  obtain ⟨o1, o2, o3, o4, o5⟩ := on_bound hw
  obtain ⟨p1, p2, p3, p4⟩ := rf_bound hv (x := onX j d) (y := onY j d) (by omega) (by omega)
  obtain ⟨q1, q2, q3, q4⟩ := rf_bound hv (x := onX j d - 2 * crB j) (y := onY j d + 2 * crA j) (by omega) (by omega)
  have hf := wfold5 (c := c) (d := d) hk hj
  have hfit := fun n h => wfit_eq (c := c) (d := d) hk hj (n := n) h
  generalize ePX : rfX k c (onX j d) (onY j d) = PX at *
  generalize ePY : rfY k c (onX j d) (onY j d) = PY at *
  generalize eQX : rfX k c (onX j d - 2 * crB j) (onY j d + 2 * crA j) = QX at *
  generalize eQY : rfY k c (onX j d - 2 * crB j) (onY j d + 2 * crA j) = QY at *
  refine ⟨hw, ⟨hv, by unfold sm; omega, by unfold sm; omega⟩, ⟨hv, by unfold sm; omega, by unfold sm; omega⟩, ⟨1, by omega, by omega, by omega, by simp [wfold]⟩, ?_⟩
  rintro ⟨q, wk, wc⟩ ⟨n, rfl, h1, h5, hw1⟩
  simp only at hw1 ⊢
  refine ⟨fun hl => ?_, fun hl => ?_⟩
  · have hn : n = 1 ∨ n = 2 ∨ n = 3 ∨ n = 4 := by omega
    have hA : -1 ≤ crA n ∧ crA n ≤ 1 ∧ (crA n * PX = 0 ∨ crA n * PX = PX ∨ crA n * PX = -PX) ∧ (crB n * PY = 0 ∨ crB n * PY = PY) ∧ (crA n * QX = 0 ∨ crA n * QX = QX ∨ crA n * QX = -QX) ∧ (crB n * QY = 0 ∨ crB n * QY = QY) := by
      rcases hn with rfl | rfl | rfl | rfl <;> simp [crA, crB]
    obtain ⟨a1, a2, a3, a4, a5, a6⟩ := hA
    have ht := td2 (crA n * PX + crB n * PY)
    refine ⟨by omega, by omega, by omega, by omega, by omega, by omega, fun he => ?_, fun he => ?_⟩
    · refine ⟨by omega, by omega, by omega, by omega, by omega, ⟨n + 1, by omega, by omega, by omega, ?_⟩, by omega⟩
      have : wfit n PX PY QX QY = true := by simpa [wfit] using he
      simp only [wfold, this, if_true]
      rw [if_neg (by omega)]
    · refine ⟨by omega, ⟨n + 1, by omega, by omega, by omega, ?_⟩, by omega⟩
      have : wfit n PX PY QX QY = false := by simpa [wfit] using he
      simp only [wfold, this]
      rw [if_neg (by omega), if_neg (by decide)]
      exact hw1
  · have hn : n = 5 := by omega
    subst hn
    rw [hf] at hw1
    obtain ⟨rfl, rfl⟩ := Prod.mk.inj hw1
    obtain ⟨i1, i2⟩ := im_im (c := c) (d := d) hk hj
    refine ⟨fun h => ?_, fun h => ?_⟩
    · have he : imE k c j d = 3 := by simp only [imE, hv, hw, h]; rfl
      simp [imRK, imRC, he, bI]
    · have he : imE k c j d = 0 := by simp only [imE, hv, hw, h]; rfl
      have r1 : imRK k c j d = imK k c j d ∧ imRC k c j d = imC k c j d := by simp [imRK, imRC, he, bI]
      have he2 : imE k c (imK k c j d) (imC k c j d) = 0 := by simp only [imE, hv, h, i1, i2, hw]; rfl
      have r2 : imRK k c (imK k c j d) (imC k c j d) = j ∧ imRC k c (imK k c j d) (imC k c j d) = d := by simp [imRK, imRC, he2, bI, i1, i2]
      rw [r1.1, r1.2]
      exact ⟨he, ⟨rfl, rfl⟩, he2, r2⟩
theorem tmod4 {k : Int} (h : 0 ≤ k ∧ k ≤ 255) : 1 + k.tmod 4 = 1 ∨ 1 + k.tmod 4 = 2 ∨ 1 + k.tmod 4 = 3 ∨ 1 + k.tmod 4 = 4 := by
  have h1 := Int.tmod_nonneg 4 h.1
  have h2 := Int.tmod_lt_of_pos k (b := 4) (by decide)
  omega
theorem tw {q c d x y : Int} (hq : q = 1 ∨ q = 2 ∨ q = 3 ∨ q = 4) (hc : -128 ≤ c ∧ c ≤ 127) (hd : -128 ≤ d ∧ d ≤ 127) (hx : -128 ≤ x ∧ x ≤ 127) (hy : -128 ≤ y ∧ y ≤ 127) :
    rfE q c x y = 0 ∧ rfPX q c x y = rfX q c x y ∧ rfPY q c x y = rfY q c x y ∧ rfE q d (rfX q c x y) (rfY q c x y) = 0 ∧
    rfPX q d (rfX q c x y) (rfY q c x y) = rfX q d (rfX q c x y) (rfY q c x y) ∧ rfPY q d (rfX q c x y) (rfY q c x y) = rfY q d (rfX q c x y) (rfY q c x y) := by
  have hv : vl q c = true ∧ vl q d = true := by constructor <;> rw [vl_iff] <;> omega
  have hi : ins x y = true := by rw [ins_iff]; omega
  have hi2 : ins (rfX q c x y) (rfY q c x y) = true := by
    rw [ins_iff]; rcases hq with rfl | rfl | rfl | rfl <;> simp [rfX, rfY] <;> omega
  have hi3 : ins (rfX q d (rfX q c x y) (rfY q c x y)) (rfY q d (rfX q c x y) (rfY q c x y)) = true := by
    rw [ins_iff]; rcases hq with rfl | rfl | rfl | rfl <;> simp [rfX, rfY] <;> omega
  simp [rfE, rfPX, rfPY, rfOk, hv.1, hv.2, hi, hi2, hi3, bI]
theorem law8 (k c j d x y : Int) (hk : 0 ≤ k ∧ k ≤ 255 ∧ -128 ≤ c ∧ c ≤ 127) (hj : 0 ≤ j ∧ j ≤ 255 ∧ -128 ≤ d ∧ d ≤ 127) (hx : -128 ≤ x ∧ x ≤ 127 ∧ -128 ≤ y ∧ y ≤ 127) :
    SpecP Tryd.prog G 8 [.agg [.int .u8 k, .int .i8 c], .agg [.int .u8 j, .int .i8 d], .agg [.int .i8 x, .int .i8 y]] (.bool true) [] := by
  refine fnP_spec hcm hmx TDok ok8 rfl (ob_o8 k c j d x y) ?_
  have hq := tmod4 (k := k) ⟨hk.1, hk.2.1⟩
  obtain ⟨t1, t2, t3, t4, t5, t6⟩ := tw hq hk.2.2 hj.2.2 ⟨hx.1, hx.2.1⟩ hx.2.2
  simp only [t2, t3]
  simp only [t1, t4, t5, t6]
  generalize 1 + k.tmod 4 = q at *
  simp only [inR_i64, beq_self_eq_true, true_and, and_true, Bool.and_eq_true, beq_iff_eq]
  refine ⟨hk, hj, ?_⟩
  obtain ⟨h1, h2, h3, h4⟩ := hk
  obtain ⟨g1, g2, g3, g4⟩ := hj
  have e1 : (4 * (d - c)).tdiv 1 = 4 * (d - c) := Int.tdiv_one _
  have e2 : (4 * (d - c)).tdiv 2 = 2 * (d - c) := tdl (by omega)
  clear t1 t2 t3 t4 t5 t6
  rcases hq with rfl | rfl | rfl | rfl <;> simp [crA, crB, rfX, rfY, e1, e2] <;> omega
end Go.Proofs.YtpkmnabefnhcfaaDoor.X
