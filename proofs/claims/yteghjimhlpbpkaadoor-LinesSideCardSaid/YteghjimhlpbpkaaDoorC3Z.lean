import Derived.Test.YteghjimhlpbpkaaDoorC2Z
import Derived.Test.YteghjimhlpbpkaaDoorLZ
set_option maxRecDepth 1000000
set_option linter.unusedVariables false
set_option linter.unusedSimpArgs false
namespace Go.Proofs.YteghjimhlpbpkaaDoor.X
open Go Go.Ab
theorem sp3 (k c x y : Int) : SpecP Tryd.prog G 3 [.agg [.int .u8 k, .int .i64 c], .agg [.int .i64 x, .int .i64 y]] (.bool true) [] := by
  have h15 := sp15 k c x y
  have h16 := sp16
  have h18 := sp18 k c x y
  have h15q := sp15 k c (rfPX k c x y) (rfPY k c x y)
  simp only [ptV] at h18
  cases hv : vl k c with
  | false =>
    have h11 := sp11' hv
    have h13 := sp13' hv
    cases hi : ins x y with
    | false =>
      have h12 := sp12' hi
      have h14 := sp14' hi
      refine fn_spec hcm hmx ok3 rfl (ob_o3kff k c x y) ?_
      simp [bI] at h11 h12 h13 h14
      have hs : sideI k c x y = 0 := by simp [sideI, hv]
      rw [hs] at h15
      simp [*]
    | true =>
      have h12 := sp12' hi
      have h14 := sp14' hi
      refine fn_spec hcm hmx ok3 rfl (ob_o3kft k c x y) ?_
      simp [bI] at h11 h12 h13 h14
      have hs : sideI k c x y = 0 := by simp [sideI, hv]
      rw [hs] at h15
      simp [*]
  | true =>
    have h11 := sp11' hv
    have h13 := sp13' hv
    cases hi : ins x y with
    | false =>
      have h12 := sp12' hi
      have h14 := sp14' hi
      refine fn_spec hcm hmx ok3 rfl (ob_o3ktf k c x y) ?_
      simp [bI] at h11 h12 h13 h14
      have hs : sideI k c x y = 0 := by simp [sideI, hi]
      rw [hs] at h15
      simp [*]
    | true =>
      have h12 := sp12' hi
      have h14 := sp14' hi
      obtain ⟨hx, hy⟩ := ins_sm hi
      have h17 := sp17 k c x y hv hx hy
      refine fn_spec hcm hmx ok3 rfl (ob_o3ktt k c x y) ?_
      simp [bI] at h11 h12 h13 h14
      have hq : rfE k c x y = 0 → sideI k c (rfPX k c x y) (rfPY k c x y) = - sideI k c x y := by
        intro he
        have hj : ins (rfX k c x y) (rfY k c x y) = true := by
          simp only [rfE, hv, hi, bI] at he
          cases h : ins (rfX k c x y) (rfY k c x y) with
          | true => rfl
          | false => rw [h] at he; simp at he
        obtain ⟨hk, _⟩ := vl_k hv
        have e : acr k (rfX k c x y) (rfY k c x y) - 2 * c = - (acr k x y - 2 * c) := by
          rcases hk with rfl | rfl | rfl | rfl <;> simp [acr, rfX, rfY] <;> omega
        simp only [rfPX, rfPY, rfOk, hv, hi, hj, bI, sideI, Bool.and_self, cond_true, if_true]
        grind
      have hs1 : ltb (acr k x y - 2 * c) 0 = true → sideI k c x y = -1 := by
        intro h; simp only [ltb, decide_eq_true_eq] at h; simp only [sideI, hv, hi, Bool.and_self, if_true]; rw [if_pos (by omega)]
      have hs2 : ltb (acr k x y - 2 * c) 0 = false → ltb 0 (acr k x y - 2 * c) = true → sideI k c x y = 1 := by
        intro h0 h; simp only [ltb, decide_eq_true_eq, decide_eq_false_iff_not] at h h0; simp only [sideI, hv, hi, Bool.and_self, if_true]; rw [if_neg (by omega), if_pos (by omega)]
      have hs3 : ltb (acr k x y - 2 * c) 0 = false → ltb 0 (acr k x y - 2 * c) = false → sideI k c x y = 0 := by
        intro h0 h; simp only [ltb, decide_eq_false_iff_not] at h h0; simp only [sideI, hv, hi, Bool.and_self, if_true]; rw [if_neg (by omega), if_neg (by omega)]
      have h0 : ltb (acr k x y - 2 * c) 0 = true → ltb 0 (acr k x y - 2 * c) = true → False := by
        intro h0 h; simp only [ltb, decide_eq_true_eq] at h h0; omega
      generalize ltb (acr k x y - 2 * c) 0 = b1 at *
      generalize ltb 0 (acr k x y - 2 * c) = b2 at *
      generalize sideI k c (rfPX k c x y) (rfPY k c x y) = s2 at *
      generalize sideI k c x y = s1 at *
      generalize rfE k c x y = e at *
      by_cases he : e = 0
      · have hq := hq he
        subst hq
        subst he
        cases b1 <;> cases b2 <;> simp at hs1 hs2 hs3 h0 <;> subst_vars <;> (try simp at h15q) <;> simp [*]
      · cases b1 <;> cases b2 <;> simp at hs1 hs2 hs3 h0 <;> subst_vars <;> simp [*]
end Go.Proofs.YteghjimhlpbpkaaDoor.X
