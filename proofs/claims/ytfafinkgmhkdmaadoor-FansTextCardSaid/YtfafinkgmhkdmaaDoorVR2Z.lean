/-
  Texts among the arguments; the variables that the law on texts lists.
-/
import Derived.Test.YtfafinkgmhkdmaaDoorVRZ
set_option maxRecDepth 1000000
set_option linter.unusedVariables false
namespace Go.Proofs.YtfafinkgmhkdmaaDoor.X
open Go Go.Ab Go.ChangeShapes Go.WideShapes Go.ChangeAt Go.RowKit

theorem shp9 : shp Tryd.prog 100 9 = some .str := by kernel_rfl
theorem conf_str {H : Type} {d : DataW H} (h : Conf .str d) : ∃ s, argV noHd .str d = AV.str s ∧ True := by
  obtain ⟨s, rfl, _⟩ := h
  exact ⟨s, rfl, trivial⟩
def laidT : List (String × DataW Unit) := [("math/bits.deBruijn32tab", Rows.laid_math_bits_deBruijn32tab), ("math/bits.deBruijn64tab", Rows.laid_math_bits_deBruijn64tab), ("internal/strconv.uint64pow10", Rows.laid_internal_strconv_uint64pow10), ("unicode/utf8.acceptRanges", Rows.laid_unicode_utf8_acceptRanges), ("crimp/fans.rays", Rows.laid_crimp_fans_rays), ("unicode/utf8.first", Rows.laid_unicode_utf8_first)]
theorem globsT {W : World} (h : laidMetH Tryd.prog laidT W) : GlobOk G (fun b => b < W.heap.size) W := by
  have h' : laidMet Tryd.prog laidT W := h
  obtain ⟨ps, hv, _⟩ := h'
  obtain ⟨a3, q3, hv⟩ := laid_one (c := .ints .u8 [0, 1, 28, 2, 29, 14, 24, 3, 30, 22, 20, 15, 25, 17, 4, 8, 31, 27, 13, 23, 21, 19, 16, 7, 26, 12, 18, 6, 11, 5, 10, 9]) (g := 3) (n := 100) (t := 161) (s := .st (List.replicate 32 (.int .u8))) (by kernel_rfl) (by kernel_rfl) (by kernel_rfl) hv (cont_ints (by kernel_rfl))
  obtain ⟨a4, q4, hv⟩ := laid_one (c := .ints .u8 [0, 1, 56, 2, 57, 49, 28, 3, 61, 58, 42, 50, 38, 29, 17, 4, 62, 47, 59, 36, 45, 43, 51, 22, 53, 39, 33, 30, 24, 18, 12, 5, 63, 55, 48, 27, 60, 41, 37, 16, 46, 35, 44, 21, 52, 32, 23, 11, 54, 26, 40, 15, 34, 20, 31, 10, 25, 14, 19, 9, 13, 8, 7, 6]) (g := 4) (n := 100) (t := 162) (s := .st (List.replicate 64 (.int .u8))) (by kernel_rfl) (by kernel_rfl) (by kernel_rfl) hv (cont_ints (by kernel_rfl))
  obtain ⟨a1, q1, hv⟩ := laid_one (c := .ints .u64 [1, 10, 100, 1000, 10000, 100000, 1000000, 10000000, 100000000, 1000000000, 10000000000, 100000000000, 1000000000000, 10000000000000, 100000000000000, 1000000000000000, 10000000000000000, 100000000000000000, 1000000000000000000, 10000000000000000000]) (g := 1) (n := 100) (t := 153) (s := .st (List.replicate 20 (.int .u64))) (by kernel_rfl) (by kernel_rfl) (by kernel_rfl) hv (cont_ints (by kernel_rfl))
  obtain ⟨a6, q6, hv⟩ := laid_one (c := .ints .u8 [128, 191, 160, 191, 128, 159, 144, 191, 128, 143, 0, 0, 0, 0, 0, 0, 0, 0, 0, 0, 0, 0, 0, 0, 0, 0, 0, 0, 0, 0, 0, 0]) (g := 6) (n := 100) (t := 166) (s := .st (List.replicate 16 (.st [.int .u8, .int .u8]))) (by kernel_rfl) (by kernel_rfl) (by kernel_rfl) hv (cont_ints (by kernel_rfl))
  have hr : flat noHd (.st (List.replicate 8 (.sl (.st [.int .i64, .int .u8, .int .u8])))) (Rows.laid_crimp_fans_rays : DataW Unit) = [crL [(6, 0, 0)], crL [(12, 2, 0), (13, 2, 0)], crL [(9, 0, 0)], crL [(8, 1, 0), (10, 1, 0)], crL [(2, 0, 0)], crL [(0, 2, 0), (1, 2, 0)], crL [(1, 0, 0)], crL [(4, 1, 0), (6, 1, 0)]] := by kernel_rfl
  obtain ⟨a0, q0, hv⟩ := laid_one (c := raysC) (g := 0) (n := 100) (t := 83) (s := .st (List.replicate 8 (.sl (.st [.int .i64, .int .u8, .int .u8])))) (by kernel_rfl) (by kernel_rfl) (by kernel_rfl) hv (by rw [hr]; exact cont_vals)
  intro g c hg
  change gl g = some c at hg
  unfold gl at hg
  split at hg
  · cases hg; exact a1
  · cases hg; exact a3
  · cases hg; exact a4
  · cases hg; exact a0
  · cases hg
def putTab (k : IntKind) (zs : List Int) : Obj → Obj
  | .cells _ t frozen => .cells (zs.map fun z => Value.int k z).toArray t frozen
  | o => o
noncomputable def laidWorldT (os : Os) : World :=
  { World.doorLaid Tryd.prog 4000 os with heap := (World.doorLaid Tryd.prog 4000 os).heap.modify 5 (putTab .u8 (Pinned.utf8FirstZ.map Int.ofNat)) }
theorem laid_metT (os : Os) : laidMetH Tryd.prog laidT ((laidWorldT os).forCall (fun _ _ => 0) ⟨#[], #[], []⟩).memory := laidMet_of_run' 8 (by kernel_rfl) (by kernel_rfl)
end Go.Proofs.YtfafinkgmhkdmaaDoor.X
