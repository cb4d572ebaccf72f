import Derived.Test.YteghjimhlpbpkaaDoorO1Z
set_option maxRecDepth 1000000
set_option linter.unusedVariables false
namespace Go.Proofs.YteghjimhlpbpkaaDoor.X
open Go Go.Ab

/-- A number that is small. -/
def sm (n : Int) : Prop := -1000000000 ≤ n ∧ n ≤ 1000000000

theorem inR_i64 {n : Int} (h1 : -9223372036854775808 ≤ n) (h2 : n ≤ 9223372036854775807) : inR .i64 n = true := by
  simp [inR, IntKind.min, IntKind.max, IntKind.signed, IntKind.bits]; omega
theorem inR_i64_iff {n : Int} : inR .i64 n = true ↔ -9223372036854775808 ≤ n ∧ n ≤ 9223372036854775807 := by
  simp [inR, IntKind.min, IntKind.max, IntKind.signed, IntKind.bits]

theorem sp11 (k c : Int) : SpecP Tryd.prog G 11 [.agg [.int .u8 k, .int .i64 c]] (.int .i64 (bI (vl k c) 1 0)) [] := by
  refine fn_spec hcm hmx ok11 rfl (ob_o11 k c) ?_
  by_cases h1 : 1 ≤ k <;> by_cases h2 : k ≤ 4 <;> by_cases h3 : -4096 ≤ c <;> by_cases h4 : c ≤ 4096 <;> simp [leb, vl, bI, h1, h2, h3, h4]
theorem sp12 (x y : Int) : SpecP Tryd.prog G 12 [.agg [.int .i64 x, .int .i64 y]] (.int .i64 (bI (ins x y) 1 0)) [] := by
  refine fn_spec hcm hmx ok12 rfl (ob_o12 x y) ?_
  by_cases h1 : -65536 ≤ x <;> by_cases h2 : x ≤ 65536 <;> by_cases h3 : -65536 ≤ y <;> by_cases h4 : y ≤ 65536 <;> simp [leb, ins, bI, h1, h2, h3, h4]
theorem sp13 (k c : Int) : SpecP Tryd.prog G 13 [.agg [.int .u8 k, .int .i64 c]] (.int .i64 (bI (vl k c) 0 1)) [] := by
  refine fn_spec hcm hmx ok13 rfl (ob_o13 k c) ?_
  by_cases h1 : 1 ≤ k <;> by_cases h2 : k ≤ 4 <;> by_cases h3 : -4096 ≤ c <;> by_cases h4 : c ≤ 4096 <;> simp [ltb, vl, bI, h1, h2, h3, h4] <;> omega
theorem sp14 (x y : Int) : SpecP Tryd.prog G 14 [.agg [.int .i64 x, .int .i64 y]] (.int .i64 (bI (ins x y) 0 1)) [] := by
  refine fn_spec hcm hmx ok14 rfl (ob_o14 x y) ?_
  by_cases h1 : -65536 ≤ x <;> by_cases h2 : x ≤ 65536 <;> by_cases h3 : -65536 ≤ y <;> by_cases h4 : y ≤ 65536 <;> simp [ltb, ins, bI, h1, h2, h3, h4] <;> omega
theorem sp31 : SpecP Tryd.prog G 31 [] rulesV rulesB := fn_spec hcm hmx ok31 rfl ob_o31 (by simp)
theorem sp32 (k x y : Int) (hx : sm x) (hy : sm y) : SpecP Tryd.prog G 32 [.int .u8 k, .agg [.int .i64 x, .int .i64 y]] (.int .i64 (acr k x y)) [] := by
  refine fn_spec hcm hmx ok32 rfl (ob_o32 k x y) ?_
  unfold sm at hx hy
  simp only [inR_i64_iff, beq_iff_eq, beq_eq_false_iff_ne, acr]
  grind
theorem sp37 (x y : Int) (hx : sm x) (hy : sm y) : SpecP Tryd.prog G 37 [.agg [.int .i64 x, .int .i64 y]] (.int .i64 (x)) [] := by
  refine fn_spec hcm hmx ok37 rfl (ob_o37 x y) ?_
  exact ⟨⟨rfl, sp32 1 x y hx hy, trivial⟩, by simp [acr], trivial⟩
theorem sp40 (x y : Int) (hx : sm x) (hy : sm y) : SpecP Tryd.prog G 40 [.agg [.int .i64 x, .int .i64 y]] (.int .i64 (y)) [] := by
  refine fn_spec hcm hmx ok40 rfl (ob_o40 x y) ?_
  exact ⟨⟨rfl, sp32 2 x y hx hy, trivial⟩, by simp [acr], trivial⟩
theorem sp43 (x y : Int) (hx : sm x) (hy : sm y) : SpecP Tryd.prog G 43 [.agg [.int .i64 x, .int .i64 y]] (.int .i64 (x + y)) [] := by
  refine fn_spec hcm hmx ok43 rfl (ob_o43 x y) ?_
  exact ⟨⟨rfl, sp32 3 x y hx hy, trivial⟩, by simp [acr], trivial⟩
theorem sp46 (x y : Int) (hx : sm x) (hy : sm y) : SpecP Tryd.prog G 46 [.agg [.int .i64 x, .int .i64 y]] (.int .i64 (y - x)) [] := by
  refine fn_spec hcm hmx ok46 rfl (ob_o46 x y) ?_
  exact ⟨⟨rfl, sp32 4 x y hx hy, trivial⟩, by simp [acr], trivial⟩
theorem sp38 (c x y : Int) (hc : sm c) (hx : sm x) (hy : sm y) : SpecP Tryd.prog G 38 [.int .i64 c, .agg [.int .i64 x, .int .i64 y]] (ptV (4 * c - x) y) [] := by
  refine fn_spec hcm hmx ok38 rfl (ob_o38 c x y) ?_
  unfold sm at hc hx hy
  simp only [inR_i64_iff, true_and, and_true]
  omega
theorem sp41 (c x y : Int) (hc : sm c) (hx : sm x) (hy : sm y) : SpecP Tryd.prog G 41 [.int .i64 c, .agg [.int .i64 x, .int .i64 y]] (ptV x (4 * c - y)) [] := by
  refine fn_spec hcm hmx ok41 rfl (ob_o41 c x y) ?_
  unfold sm at hc hx hy
  simp only [inR_i64_iff, true_and, and_true]
  omega
theorem sp44 (c x y : Int) (hc : sm c) (hx : sm x) (hy : sm y) : SpecP Tryd.prog G 44 [.int .i64 c, .agg [.int .i64 x, .int .i64 y]] (ptV (2 * c - y) (2 * c - x)) [] := by
  refine fn_spec hcm hmx ok44 rfl (ob_o44 c x y) ?_
  unfold sm at hc hx hy
  simp only [inR_i64_iff, true_and, and_true]
  omega
theorem sp47 (c x y : Int) (hc : sm c) (hx : sm x) (hy : sm y) : SpecP Tryd.prog G 47 [.int .i64 c, .agg [.int .i64 x, .int .i64 y]] (ptV (y - 2 * c) (x + 2 * c)) [] := by
  refine fn_spec hcm hmx ok47 rfl (ob_o47 c x y) ?_
  unfold sm at hc hx hy
  simp only [inR_i64_iff, true_and, and_true]
  omega
theorem sp26 (x y : Int) : SpecP Tryd.prog G 26 [.int .i64 x, .int .i64 y] (ptV x y) [] := by
  refine fn_spec hcm hmx ok26 rfl (ob_o26 x y) ?_
  simp
theorem sp30 (k c : Int) : SpecP Tryd.prog G 30 [.int .u8 k, .int .i64 c] (lnV k c) [] := by
  refine fn_spec hcm hmx ok30 rfl (ob_o30 k c) ?_
  simp
theorem sp20 (k : Int) : SpecP Tryd.prog G 20 [.int .u8 k] (.tup [.int .i64 (crA k), .int .i64 (crB k)]) [] := by
  refine fn_spec hcm hmx ok20 rfl (ob_o20 k) ?_
  simp only [beq_iff_eq, beq_eq_false_iff_ne, crA, crB]
  grind
theorem sp17 (k c x y : Int) (hv : vl k c = true) (hx : sm x) (hy : sm y) : SpecP Tryd.prog G 17 [.agg [.int .u8 k, .int .i64 c], .agg [.int .i64 x, .int .i64 y]] (.int .i64 (acr k x y - 2 * c)) [] := by
  refine fn_spec hcm hmx ok17 rfl (ob_o17 k c x y) ?_
  unfold sm at hx hy
  simp only [vl, decide_eq_true_eq] at hv
  have hk : k = 1 ∨ k = 2 ∨ k = 3 ∨ k = 4 := by omega
  simp only [sp20 k, true_and, and_true]
  rcases hk with rfl | rfl | rfl | rfl <;> simp [inR_i64_iff, acr, crA, crB] <;> omega
theorem sp19 (k c x y : Int) (hv : vl k c = true) (hx : sm x) (hy : sm y) : SpecP Tryd.prog G 19 [.agg [.int .u8 k, .int .i64 c], .agg [.int .i64 x, .int .i64 y]] (ptV (rfX k c x y) (rfY k c x y)) [] := by
  refine fn_spec hcm hmx ok19 rfl (ob_o19 k c x y) ?_
  have h17 := sp17 k c x y hv hx hy
  unfold sm at hx hy
  simp only [vl, decide_eq_true_eq] at hv
  have hk : k = 1 ∨ k = 2 ∨ k = 3 ∨ k = 4 := by omega
  simp only [sp20 k, h17, true_and, and_true]
  rcases hk with rfl | rfl | rfl | rfl <;> simp [inR_i64_iff, rfX, rfY, acr, crA, crB] <;> omega
end Go.Proofs.YteghjimhlpbpkaaDoor.X
