/-
  What the rows of this seat share: the tables that are laid, lines and points among the arguments.
-/
import Derived.Test.YteghjimhlpbpkaaDoorCards
import Derived.Test.YteghjimhlpbpkaaDoorTie
import Derived.Test.YteghjimhlpbpkaaDoorDZ
import Derived.Test.YteghjimhlpbpkaaDoorAb5
import Derived.WalkKit
import Derived.ProofKit
import Derived.OpenShut
import Derived.Deep.DeepHandedRow
import Derived.Lib.LaidTab
import Derived.Lib.SmallJoins
set_option maxRecDepth 1000000
set_option linter.unusedVariables false
namespace Go.Proofs.YteghjimhlpbpkaaDoor.X
open Go Go.Ab Go.ChangeShapes Go.WideShapes Go.ChangeAt Go.RowKit

theorem own : ownKnob Tryd.prog.godebug = none := by kernel_rfl
theorem laidOut : laidOutB Tryd.prog = true := by kernel_rfl
theorem gt1 : Tryd.prog.globalNamed "internal/strconv.uint64pow10" = some 1 := by kernel_rfl
theorem gt2 : Tryd.prog.globalNamed "math/bits.deBruijn32tab" = some 2 := by kernel_rfl
theorem gt3 : Tryd.prog.globalNamed "math/bits.deBruijn64tab" = some 3 := by kernel_rfl

/-- What the rows' lists give. -/
theorem globs {W : World} (h : laidMetH Tryd.prog Rows.linesSideRow.laid W) : GlobOk G (fun b => b < W.heap.size) W := by
  have h' : laidMet Tryd.prog Rows.linesSideRow.laid W := h
  obtain ⟨ps, hv, _⟩ := h'
  obtain ⟨t2, q2, hv⟩ := laid_tab (k := .u8) (zs := [0, 1, 28, 2, 29, 14, 24, 3, 30, 22, 20, 15, 25, 17, 4, 8, 31, 27, 13, 23, 21, 19, 16, 7, 26, 12, 18, 6, 11, 5, 10, 9]) gt2 (t := 97) (n := 32) (e := 5) (by kernel_rfl) (by kernel_rfl) (by kernel_rfl) (by kernel_rfl) (by kernel_rfl) hv
  obtain ⟨t3, q3, hv⟩ := laid_tab (k := .u8) (zs := [0, 1, 56, 2, 57, 49, 28, 3, 61, 58, 42, 50, 38, 29, 17, 4, 62, 47, 59, 36, 45, 43, 51, 22, 53, 39, 33, 30, 24, 18, 12, 5, 63, 55, 48, 27, 60, 41, 37, 16, 46, 35, 44, 21, 52, 32, 23, 11, 54, 26, 40, 15, 34, 20, 31, 10, 25, 14, 19, 9, 13, 8, 7, 6]) gt3 (t := 98) (n := 64) (e := 5) (by kernel_rfl) (by kernel_rfl) (by kernel_rfl) (by kernel_rfl) (by kernel_rfl) hv
  obtain ⟨t1, q1, hv⟩ := laid_tab (k := .u64) (zs := [1, 10, 100, 1000, 10000, 100000, 1000000, 10000000, 100000000, 1000000000, 10000000000, 100000000000, 1000000000000, 10000000000000, 100000000000000, 1000000000000000, 10000000000000000, 100000000000000000, 1000000000000000000, 10000000000000000000]) gt1 (t := 92) (n := 20) (e := 83) (by kernel_rfl) (by kernel_rfl) (by kernel_rfl) (by kernel_rfl) (by kernel_rfl) hv
  intro g c hg
  change gl g = some c at hg
  unfold gl at hg
  split at hg
  · cases hg; exact glob_tab t2 gt2 (by decide)
  · cases hg; exact glob_tab t3 gt3 (by decide)
  · cases hg; exact glob_tab t1 gt1 (by decide)
  · cases hg

theorem open_line {H : Type} {enc : TypeId × Value → H} {w : World} {base b0 : Nat} {spare : Nat → Bool} {held : Bool} {r : Reach} {v : Value} {d : DataW H} {p : List MemPlace}
    (hv : Value.okWide Tryd.prog w r b0 24 v) (h : DataW.Trod enc Tryd.prog w base spare held 24 v d p) : ∃ k c, v = .agg #[.int .u8 k, .int .i64 c] := by
  obtain ⟨v0, v1, y0, y1, n, rfl, rfl, rfl, h0, h1⟩ := Go.Joins.open_agg2 Tryd.underlying24 (by kernel_rfl) (by kernel_rfl) hv h
  obtain ⟨k, hk, _⟩ := DataW.trod_int Tryd.underlying22 h0
  obtain ⟨c, hc, _⟩ := DataW.trod_int Tryd.underlying3 h1
  simp at hk hc
  exact ⟨k, c, by rw [hk, hc]⟩
theorem open_point {H : Type} {enc : TypeId × Value → H} {w : World} {base b0 : Nat} {spare : Nat → Bool} {held : Bool} {r : Reach} {v : Value} {d : DataW H} {p : List MemPlace}
    (hv : Value.okWide Tryd.prog w r b0 26 v) (h : DataW.Trod enc Tryd.prog w base spare held 26 v d p) : ∃ x y, v = .agg #[.int .i64 x, .int .i64 y] := by
  obtain ⟨v0, v1, y0, y1, n, rfl, rfl, rfl, h0, h1⟩ := Go.Joins.open_agg2 Tryd.underlying26 (by kernel_rfl) (by kernel_rfl) hv h
  obtain ⟨k, hk, _⟩ := DataW.trod_int Tryd.underlying3 h0
  obtain ⟨c, hc, _⟩ := DataW.trod_int Tryd.underlying3 h1
  simp at hk hc
  exact ⟨k, c, by rw [hk, hc]⟩
theorem rel_line (w : World) (F : Nat → Prop) (k c : Int) : RelI w F (.agg [.int .u8 k, .int .i64 c]) (.agg #[.int .u8 k, .int .i64 c]) :=
  .agg _ _ (.cons _ _ _ _ (.int _ _) (.cons _ _ _ _ (.int _ _) .nil))
theorem rel_point (w : World) (F : Nat → Prop) (x y : Int) : RelI w F (.agg [.int .i64 x, .int .i64 y]) (.agg #[.int .i64 x, .int .i64 y]) :=
  .agg _ _ (.cons _ _ _ _ (.int _ _) (.cons _ _ _ _ (.int _ _) .nil))
/-- A world that holds the tables. -/
def putTab (k : IntKind) (zs : List Int) : Obj → Obj
  | .cells _ t frozen => .cells (zs.map fun z => Value.int k z).toArray t frozen
  | o => o
def tabs (h : Array Obj) : Array Obj :=
  ((h.modify 1 (putTab .u64 [1, 10, 100, 1000, 10000, 100000, 1000000, 10000000, 100000000, 1000000000, 10000000000, 100000000000, 1000000000000, 10000000000000, 100000000000000, 1000000000000000, 10000000000000000, 100000000000000000, 1000000000000000000, 10000000000000000000])).modify 2
    (putTab .u8 [0, 1, 28, 2, 29, 14, 24, 3, 30, 22, 20, 15, 25, 17, 4, 8, 31, 27, 13, 23, 21, 19, 16, 7, 26, 12, 18, 6, 11, 5, 10, 9])).modify 3
    (putTab .u8 [0, 1, 56, 2, 57, 49, 28, 3, 61, 58, 42, 50, 38, 29, 17, 4, 62, 47, 59, 36, 45, 43, 51, 22, 53, 39, 33, 30, 24, 18, 12, 5, 63, 55, 48, 27, 60, 41, 37, 16, 46, 35, 44, 21, 52, 32, 23, 11, 54, 26, 40, 15, 34, 20, 31, 10, 25, 14, 19, 9, 13, 8, 7, 6])
noncomputable def laidWorld (os : Os) : World :=
  { World.holding Tryd.prog os ⟨#[], #[], []⟩ with heap := tabs (World.holding Tryd.prog os ⟨#[], #[], []⟩).heap }
end Go.Proofs.YteghjimhlpbpkaaDoor.X
