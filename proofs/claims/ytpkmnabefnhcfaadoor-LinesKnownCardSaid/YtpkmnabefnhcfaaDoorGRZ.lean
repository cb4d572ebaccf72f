/-
  What the rows of this seat share: the tables that are laid, lines and points among the arguments.
-/
import Derived.Test.YtpkmnabefnhcfaaDoorCards
import Derived.Test.YtpkmnabefnhcfaaDoorTie
import Derived.Test.YtpkmnabefnhcfaaDoorGDZ
import Derived.Test.YtpkmnabefnhcfaaDoorAb6
import Derived.WalkKit
import Derived.ProofKit
import Derived.OpenShut
import Derived.Deep.DeepHandedRow
import Derived.Lib.LaidTab
import Derived.Lib.SmallJoins
set_option maxRecDepth 1000000
set_option linter.unusedVariables false
namespace Go.Proofs.YtpkmnabefnhcfaaDoor.X
open Go Go.Ab Go.ChangeShapes Go.WideShapes Go.ChangeAt Go.RowKit

theorem own : ownKnob Tryd.prog.godebug = none := by kernel_rfl
theorem laidOut : laidOutB Tryd.prog = true := by kernel_rfl
theorem gt1 : Tryd.prog.globalNamed "internal/strconv.uint64pow10" = some 1 := by kernel_rfl
theorem gt2 : Tryd.prog.globalNamed "math/bits.deBruijn32tab" = some 2 := by kernel_rfl
theorem gt3 : Tryd.prog.globalNamed "math/bits.deBruijn64tab" = some 3 := by kernel_rfl

/-- What the rows' lists give. -/
theorem globs {W : World} (h : laidMetH Tryd.prog Rows.linesSideRow.laid W) : GlobOk G (fun b => b < W.heap.size) W := by
  have h' : laidMet Tryd.prog Rows.linesSideRow.laid W := h
  obtain ⟨ps, hv, _⟩ := h'
  obtain ⟨t2, q2, hv⟩ := laid_tab (k := .u8) (zs := [0, 1, 28, 2, 29, 14, 24, 3, 30, 22, 20, 15, 25, 17, 4, 8, 31, 27, 13, 23, 21, 19, 16, 7, 26, 12, 18, 6, 11, 5, 10, 9]) gt2 (t := 97) (n := 32) (e := 5) (by kernel_rfl) (by kernel_rfl) (by kernel_rfl) (by kernel_rfl) (by kernel_rfl) hv
  obtain ⟨t3, q3, hv⟩ := laid_tab (k := .u8) (zs := [0, 1, 56, 2, 57, 49, 28, 3, 61, 58, 42, 50, 38, 29, 17, 4, 62, 47, 59, 36, 45, 43, 51, 22, 53, 39, 33, 30, 24, 18, 12, 5, 63, 55, 48, 27, 60, 41, 37, 16, 46, 35, 44, 21, 52, 32, 23, 11, 54, 26, 40, 15, 34, 20, 31, 10, 25, 14, 19, 9, 13, 8, 7, 6]) gt3 (t := 98) (n := 64) (e := 5) (by kernel_rfl) (by kernel_rfl) (by kernel_rfl) (by kernel_rfl) (by kernel_rfl) hv
  obtain ⟨t1, q1, hv⟩ := laid_tab (k := .u64) (zs := [1, 10, 100, 1000, 10000, 100000, 1000000, 10000000, 100000000, 1000000000, 10000000000, 100000000000, 1000000000000, 10000000000000, 100000000000000, 1000000000000000, 10000000000000000, 100000000000000000, 1000000000000000000, 10000000000000000000]) gt1 (t := 92) (n := 20) (e := 83) (by kernel_rfl) (by kernel_rfl) (by kernel_rfl) (by kernel_rfl) (by kernel_rfl) hv
  intro g c hg
  change gl g = some c at hg
  unfold gl at hg
  split at hg
  · cases hg; exact glob_tab t2 gt2 (by decide)
  · cases hg; exact glob_tab t3 gt3 (by decide)
  · cases hg; exact glob_tab t1 gt1 (by decide)
  · cases hg

/-- Lines, points, kinds as plain data. -/
theorem shp24 : shp Tryd.prog 100 24 = some (.st [.int .u8, .int .i64]) := by kernel_rfl
theorem shp26 : shp Tryd.prog 100 26 = some (.st [.int .i64, .int .i64]) := by kernel_rfl
theorem shp5 : shp Tryd.prog 100 5 = some (.int .u8) := by kernel_rfl
theorem shp9 : shp Tryd.prog 100 9 = some .str := by kernel_rfl
theorem shp50 : shp Tryd.prog 100 50 = some (.st [.int .u8, .int .i8]) := by kernel_rfl
theorem shp51 : shp Tryd.prog 100 51 = some (.st [.int .i8, .int .i8]) := by kernel_rfl
theorem conf_small {H : Type} {d : DataW H} (h : Conf (.st [.int .u8, .int .i8]) d) : ∃ k c, argV noHd (.st [.int .u8, .int .i8]) d = .agg [.int .u8 k, .int .i8 c] ∧ (0 ≤ k ∧ k ≤ 255 ∧ -128 ≤ c ∧ c ≤ 127) := by
  obtain ⟨ds, rfl, d1, r1, rfl, ⟨k, rfl, hk⟩, d2, r2, rfl, ⟨c, rfl, hc⟩, rfl⟩ := h
  exact ⟨k, c, rfl, (wf_u8 hk).1, (wf_u8 hk).2, (wf_i8 hc).1, (wf_i8 hc).2⟩
theorem conf_two {H : Type} {d : DataW H} (h : Conf (.st [.int .i8, .int .i8]) d) : ∃ x y, argV noHd (.st [.int .i8, .int .i8]) d = .agg [.int .i8 x, .int .i8 y] ∧ (-128 ≤ x ∧ x ≤ 127 ∧ -128 ≤ y ∧ y ≤ 127) := by
  obtain ⟨ds, rfl, d1, r1, rfl, ⟨k, rfl, hk⟩, d2, r2, rfl, ⟨c, rfl, hc⟩, rfl⟩ := h
  exact ⟨k, c, rfl, (wf_i8 hk).1, (wf_i8 hk).2, (wf_i8 hc).1, (wf_i8 hc).2⟩
theorem conf_line {H : Type} {d : DataW H} (h : Conf (.st [.int .u8, .int .i64]) d) : ∃ k c, argV noHd (.st [.int .u8, .int .i64]) d = lnV k c ∧ True := by
  obtain ⟨ds, rfl, d1, r1, rfl, ⟨k, rfl, _⟩, d2, r2, rfl, ⟨c, rfl, _⟩, rfl⟩ := h
  exact ⟨k, c, rfl, trivial⟩
theorem conf_point {H : Type} {d : DataW H} (h : Conf (.st [.int .i64, .int .i64]) d) : ∃ x y, argV noHd (.st [.int .i64, .int .i64]) d = ptV x y ∧ True := by
  obtain ⟨ds, rfl, d1, r1, rfl, ⟨k, rfl, _⟩, d2, r2, rfl, ⟨c, rfl, _⟩, rfl⟩ := h
  exact ⟨k, c, rfl, trivial⟩
theorem conf_int {H : Type} {k : IntKind} {d : DataW H} (h : Conf (.int k) d) : ∃ n, argV noHd (.int k) d = .int k n ∧ (Lit.int k n).wf = true := by
  obtain ⟨n, rfl, hn⟩ := h
  exact ⟨n, rfl, hn⟩
/-- A world that holds the tables. -/
def putTab (k : IntKind) (zs : List Int) : Obj → Obj
  | .cells _ t frozen => .cells (zs.map fun z => Value.int k z).toArray t frozen
  | o => o
def tabs (h : Array Obj) : Array Obj :=
  ((h.modify 1 (putTab .u64 [1, 10, 100, 1000, 10000, 100000, 1000000, 10000000, 100000000, 1000000000, 10000000000, 100000000000, 1000000000000, 10000000000000, 100000000000000, 1000000000000000, 10000000000000000, 100000000000000000, 1000000000000000000, 10000000000000000000])).modify 2
    (putTab .u8 [0, 1, 28, 2, 29, 14, 24, 3, 30, 22, 20, 15, 25, 17, 4, 8, 31, 27, 13, 23, 21, 19, 16, 7, 26, 12, 18, 6, 11, 5, 10, 9])).modify 3
    (putTab .u8 [0, 1, 56, 2, 57, 49, 28, 3, 61, 58, 42, 50, 38, 29, 17, 4, 62, 47, 59, 36, 45, 43, 51, 22, 53, 39, 33, 30, 24, 18, 12, 5, 63, 55, 48, 27, 60, 41, 37, 16, 46, 35, 44, 21, 52, 32, 23, 11, 54, 26, 40, 15, 34, 20, 31, 10, 25, 14, 19, 9, 13, 8, 7, 6])
noncomputable def laidWorld (os : Os) : World :=
  { World.holding Tryd.prog os ⟨#[], #[], []⟩ with heap := tabs (World.holding Tryd.prog os ⟨#[], #[], []⟩).heap }
theorem laid_met0 (os : Os) : laidMetH Tryd.prog Rows.linesSideRow.laid ((laidWorld os).forCall (fun _ _ => 0) ⟨#[], #[], []⟩).memory := laidMet_of_run' 8 (by kernel_rfl) (by kernel_rfl)
end Go.Proofs.YtpkmnabefnhcfaaDoor.X
