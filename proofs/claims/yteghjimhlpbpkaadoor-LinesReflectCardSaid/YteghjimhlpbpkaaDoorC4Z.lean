import Derived.Test.YteghjimhlpbpkaaDoorC2Z
import Derived.Test.YteghjimhlpbpkaaDoorLZ
import Derived.Test.YteghjimhlpbpkaaDoorO2Z
set_option maxRecDepth 1000000
set_option linter.unusedVariables false
set_option linter.unusedSimpArgs false
namespace Go.Proofs.YteghjimhlpbpkaaDoor.X
open Go Go.Ab
theorem sp4 (k c x y : Int) : SpecP Tryd.prog G 4 [.agg [.int .u8 k, .int .i64 c], .agg [.int .i64 x, .int .i64 y]] (.bool true) [] := by
  have h18 := sp18 k c x y
  have h16 := sp16
  have h12 := sp12 x y
  cases hv : vl k c with
  | false =>
    have h11 := sp11' hv
    simp [bI] at h11
    refine fn_spec hcm hmx ok4 rfl (ob_o4f k c x y) ?_
    simp [ptV, rfPX, rfPY, rfE, rfOk, hv, bI] at h18
    simp [*]
  | true =>
    have h11 := sp11' hv
    simp [bI] at h11
    cases hi : ins x y with
    | false =>
      refine fn_spec hcm hmx ok4 rfl (ob_o4i k c x y) ?_
      simp [ptV, rfPX, rfPY, rfE, rfOk, hv, hi, bI] at h18
      simp [hi, bI] at h12
      simp [*]
    | true =>
      obtain ⟨hk, hc⟩ := vl_k hv
      obtain ⟨hx, hy⟩ := ins_sm hi
      have h19 := sp19 k c x y hv hx hy
      cases hj : ins (rfX k c x y) (rfY k c x y) with
      | false =>
        have h12j := sp12' hj
        refine fn_spec hcm hmx ok4 rfl (ob_o4j k c x y) ?_
        simp [ptV, rfPX, rfPY, rfE, rfOk, hv, hi, hj, bI] at h18
        simp [hi, bI] at h12
        simp [ptV] at h19
        simp [bI] at h12j
        simp [hi, hj, bI, *]
      | true =>
        have h12j := sp12' hj
        obtain ⟨hqx, hqy⟩ := ins_sm hj
        have h17 := sp17 k c x y hv hx hy
        have h17q := sp17 k c _ _ hv hqx hqy
        have h20 := sp20 k
        have hx2 : rfX k c (rfX k c x y) (rfY k c x y) = x := by
          rcases hk with rfl | rfl | rfl | rfl <;> simp [rfX, rfY] <;> omega
        have hy2 : rfY k c (rfX k c x y) (rfY k c x y) = y := by
          rcases hk with rfl | rfl | rfl | rfl <;> simp [rfX, rfY] <;> omega
        have h18q := sp18 k c (rfX k c x y) (rfY k c x y)
        simp [ptV, rfPX, rfPY, rfE, rfOk, hv, hi, hj, bI] at h18
        simp [ptV, rfPX, rfPY, rfE, rfOk, hv, hi, hj, hx2, hy2, bI] at h18q
        simp [hi, bI] at h12
        simp [bI] at h12j
        simp [ptV] at h19
        have hfar : acr k (rfX k c x y) (rfY k c x y) - 2 * c = - (acr k x y - 2 * c) := by
          rcases hk with rfl | rfl | rfl | rfl <;> simp [acr, rfX, rfY] <;> omega
        have h17n := h17q
        rw [hfar] at h17n
        clear hfar
        simp only [vl, decide_eq_true_eq] at hv
        simp only [ins, decide_eq_true_eq] at hi hj
        rcases hk with rfl | rfl | rfl | rfl
        · refine fn_spec hcm hmx ok4 rfl (ob_o4k1 c x y) ?_
          simp [crA, crB] at h20
          simp [hx2, hy2, inR_i64_iff, *]
          (try simp [rfX, rfY, acr] at *)
          (repeat' apply And.intro) <;> first | omega | assumption | (simpa using h17q) | (simp only [*]; done) | (simp; omega) | skip
        · refine fn_spec hcm hmx ok4 rfl (ob_o4k2 c x y) ?_
          simp [crA, crB] at h20
          simp [hx2, hy2, inR_i64_iff, *]
          (try simp [rfX, rfY, acr] at *)
          (repeat' apply And.intro) <;> first | omega | assumption | (simpa using h17q) | (simp only [*]; done) | (simp; omega) | skip
        · refine fn_spec hcm hmx ok4 rfl (ob_o4k3 c x y) ?_
          simp [crA, crB] at h20
          simp [hx2, hy2, inR_i64_iff, *]
          (try simp [rfX, rfY, acr] at *)
          (repeat' apply And.intro) <;> first | omega | assumption | (simpa using h17q) | (simp only [*]; done) | (simp; omega) | skip
        · refine fn_spec hcm hmx ok4 rfl (ob_o4k4 c x y) ?_
          simp [crA, crB] at h20
          simp [hx2, hy2, inR_i64_iff, *]
          (try simp [rfX, rfY, acr] at *)
          (repeat' apply And.intro) <;> first | omega | assumption | (simpa using h17q) | (simp only [*]; done) | (simp; omega) | skip
end Go.Proofs.YteghjimhlpbpkaaDoor.X
