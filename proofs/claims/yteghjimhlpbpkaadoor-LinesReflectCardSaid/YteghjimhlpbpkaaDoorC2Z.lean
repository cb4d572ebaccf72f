import Derived.Test.YteghjimhlpbpkaaDoorC1Z
set_option maxRecDepth 1000000
set_option linter.unusedVariables false
set_option linter.unusedSimpArgs false
namespace Go.Proofs.YteghjimhlpbpkaaDoor.X
open Go Go.Ab

theorem sp11' {k c : Int} {b : Bool} (h : vl k c = b) : SpecP Tryd.prog G 11 [.agg [.int .u8 k, .int .i64 c]] (.int .i64 (bI b 1 0)) [] := h ▸ sp11 k c
theorem sp12' {x y : Int} {b : Bool} (h : ins x y = b) : SpecP Tryd.prog G 12 [.agg [.int .i64 x, .int .i64 y]] (.int .i64 (bI b 1 0)) [] := h ▸ sp12 x y
theorem sp13' {k c : Int} {b : Bool} (h : vl k c = b) : SpecP Tryd.prog G 13 [.agg [.int .u8 k, .int .i64 c]] (.int .i64 (bI b 0 1)) [] := h ▸ sp13 k c
theorem sp14' {x y : Int} {b : Bool} (h : ins x y = b) : SpecP Tryd.prog G 14 [.agg [.int .i64 x, .int .i64 y]] (.int .i64 (bI b 0 1)) [] := h ▸ sp14 x y
theorem ins_sm {x y : Int} (h : ins x y = true) : sm x ∧ sm y := by
  simp only [ins, decide_eq_true_eq] at h; unfold sm; omega
theorem vl_k {k c : Int} (h : vl k c = true) : (k = 1 ∨ k = 2 ∨ k = 3 ∨ k = 4) ∧ sm c := by
  simp only [vl, decide_eq_true_eq] at h; unfold sm; omega

theorem sp15 (k c x y : Int) : SpecP Tryd.prog G 15 [.agg [.int .u8 k, .int .i64 c], .agg [.int .i64 x, .int .i64 y]] (.int .i64 (sideI k c x y)) [] := by
  cases hv : vl k c with
  | false => exact fn_spec hcm hmx ok15 rfl (ob_o15kf k c x y) ⟨⟨rfl, sp13' hv, rfl, rfl, trivial⟩, by simp [sideI, hv], trivial⟩
  | true =>
    cases hi : ins x y with
    | false => exact fn_spec hcm hmx ok15 rfl (ob_o15ki k c x y) ⟨⟨rfl, sp13' hv, rfl, sp14' hi, rfl, rfl, trivial⟩, by simp [sideI, hi], trivial⟩
    | true =>
      obtain ⟨hk, hc⟩ := vl_k hv
      obtain ⟨hx, hy⟩ := ins_sm hi
      have h13 := sp13' hv
      have h14 := sp14' hi
      simp only [bI, cond_true] at h13 h14
      unfold sm at hc
      rcases hk with rfl | rfl | rfl | rfl
      · refine fn_spec hcm hmx ok15 rfl (ob_o15k1 c x y) ?_
        refine ⟨⟨rfl, h13, rfl, h14, rfl, rfl, trivial⟩, ⟨sp31, rfl, rfl, rfl, rfl, rfl, rfl, sp37 x y hx hy, trivial⟩, ?_⟩
        have hc2 : inR .i64 (2 * c) = true := inR_i64 (by omega) (by omega)
        simp [sideI, hv, hi, ltb, acr, hc2]
        grind
      · refine fn_spec hcm hmx ok15 rfl (ob_o15k2 c x y) ?_
        refine ⟨⟨rfl, h13, rfl, h14, rfl, rfl, trivial⟩, ⟨sp31, rfl, rfl, rfl, rfl, rfl, rfl, sp40 x y hx hy, trivial⟩, ?_⟩
        have hc2 : inR .i64 (2 * c) = true := inR_i64 (by omega) (by omega)
        simp [sideI, hv, hi, ltb, acr, hc2]
        grind
      · refine fn_spec hcm hmx ok15 rfl (ob_o15k3 c x y) ?_
        refine ⟨⟨rfl, h13, rfl, h14, rfl, rfl, trivial⟩, ⟨sp31, rfl, rfl, rfl, rfl, rfl, rfl, sp43 x y hx hy, trivial⟩, ?_⟩
        have hc2 : inR .i64 (2 * c) = true := inR_i64 (by omega) (by omega)
        simp [sideI, hv, hi, ltb, acr, hc2]
        grind
      · refine fn_spec hcm hmx ok15 rfl (ob_o15k4 c x y) ?_
        refine ⟨⟨rfl, h13, rfl, h14, rfl, rfl, trivial⟩, ⟨sp31, rfl, rfl, rfl, rfl, rfl, rfl, sp46 x y hx hy, trivial⟩, ?_⟩
        have hc2 : inR .i64 (2 * c) = true := inR_i64 (by omega) (by omega)
        simp [sideI, hv, hi, ltb, acr, hc2]
        grind

theorem sp18 (k c x y : Int) : SpecP Tryd.prog G 18 [.agg [.int .u8 k, .int .i64 c], .agg [.int .i64 x, .int .i64 y]] (.tup [ptV (rfPX k c x y) (rfPY k c x y), .int .i64 (rfE k c x y)]) [] := by
  cases hv : vl k c with
  | false => exact fn_spec hcm hmx ok18 rfl (ob_o18kf k c x y) ⟨⟨rfl, sp13' hv, rfl, rfl, trivial⟩, ⟨rfl, trivial⟩, by simp [rfPX, rfOk, hv, bI], by simp [rfPY, rfOk, hv, bI], by simp [rfE, hv, bI], trivial⟩
  | true =>
    cases hi : ins x y with
    | false => exact fn_spec hcm hmx ok18 rfl (ob_o18ki k c x y) ⟨⟨rfl, sp13' hv, rfl, sp14' hi, rfl, rfl, trivial⟩, ⟨rfl, trivial⟩, by simp [rfPX, rfOk, hi, bI], by simp [rfPY, rfOk, hi, bI], by simp [rfE, hi, bI], trivial⟩
    | true =>
      obtain ⟨hk, hc⟩ := vl_k hv
      obtain ⟨hx, hy⟩ := ins_sm hi
      have h13 := sp13' hv
      have h14 := sp14' hi
      simp only [bI, cond_true] at h13
      rcases hk with rfl | rfl | rfl | rfl
      · refine fn_spec hcm hmx ok18 rfl (ob_o18k1 c x y) ?_
        have hf := sp38 c x y hc hx hy
        have h31 := sp31
        simp only [ptV, rulesV, rulesB] at hf h31
        cases hj : ins (rfX 1 c x y) (rfY 1 c x y) with
        | _ => 
          simp only [rfX, rfY] at hj
          have h14' := sp14' hj
          simp [rfPX, rfPY, rfE, rfOk, rfX, rfY, hv, hi, hj, bI] at *
          simp [*]
      · refine fn_spec hcm hmx ok18 rfl (ob_o18k2 c x y) ?_
        have hf := sp41 c x y hc hx hy
        have h31 := sp31
        simp only [ptV, rulesV, rulesB] at hf h31
        cases hj : ins (rfX 2 c x y) (rfY 2 c x y) with
        | _ => 
          simp only [rfX, rfY] at hj
          have h14' := sp14' hj
          simp [rfPX, rfPY, rfE, rfOk, rfX, rfY, hv, hi, hj, bI] at *
          simp [*]
      · refine fn_spec hcm hmx ok18 rfl (ob_o18k3 c x y) ?_
        have hf := sp44 c x y hc hx hy
        have h31 := sp31
        simp only [ptV, rulesV, rulesB] at hf h31
        cases hj : ins (rfX 3 c x y) (rfY 3 c x y) with
        | _ => 
          simp only [rfX, rfY] at hj
          have h14' := sp14' hj
          simp [rfPX, rfPY, rfE, rfOk, rfX, rfY, hv, hi, hj, bI] at *
          simp [*]
      · refine fn_spec hcm hmx ok18 rfl (ob_o18k4 c x y) ?_
        have hf := sp47 c x y hc hx hy
        have h31 := sp31
        simp only [ptV, rulesV, rulesB] at hf h31
        cases hj : ins (rfX 4 c x y) (rfY 4 c x y) with
        | _ => 
          simp only [rfX, rfY] at hj
          have h14' := sp14' hj
          simp [rfPX, rfPY, rfE, rfOk, rfX, rfY, hv, hi, hj, bI] at *
          simp [*]
end Go.Proofs.YteghjimhlpbpkaaDoor.X
