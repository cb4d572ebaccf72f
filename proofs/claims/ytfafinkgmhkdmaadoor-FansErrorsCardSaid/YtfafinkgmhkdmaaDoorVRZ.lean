/-
 What the rows of this seat share: the variables that are laid, fans among the arguments.
-/
import Derived.Test.YtfafinkgmhkdmaaDoorCards
import Derived.Test.YtfafinkgmhkdmaaDoorTie
import Derived.Test.YtfafinkgmhkdmaaDoorVDZ
import Derived.Test.YtfafinkgmhkdmaaDoorAb6
import Derived.WalkKit
import Derived.ProofKit
import Derived.OpenShut
import Derived.Deep.DeepHandedRow
import Derived.Deep.DeepWitnessRowRef
import Derived.Lib.SmallJoins
import Derived.LaidMore
set_option maxRecDepth 1000000
set_option linter.unusedVariables false
namespace Go.Proofs.YtfafinkgmhkdmaaDoor.X
open Go Go.Ab Go.ChangeShapes Go.WideShapes Go.ChangeAt Go.RowKit

theorem own : ownKnob Tryd.prog.godebug = none := by kernel_rfl
theorem laidOut : laidOutB Tryd.prog = true := by kernel_rfl
def laidL : List (String × DataW Unit) := [("math/bits.deBruijn32tab", Rows.laid_math_bits_deBruijn32tab), ("math/bits.deBruijn64tab", Rows.laid_math_bits_deBruijn64tab), ("internal/strconv.uint64pow10", Rows.laid_internal_strconv_uint64pow10), ("crimp/fans.rays", Rows.laid_crimp_fans_rays)]
/-- What the rows' lists give. -/
theorem globs {W : World} (h : laidMetH Tryd.prog laidL W) : GlobOk G (fun b => b < W.heap.size) W := by
 have h' : laidMet Tryd.prog laidL W := h
 obtain ⟨ps, hv, _⟩ := h'
 obtain ⟨a3, q3, hv⟩ := laid_one (c := .ints .u8 [0, 1, 28, 2, 29, 14, 24, 3, 30, 22, 20, 15, 25, 17, 4, 8, 31, 27, 13, 23, 21, 19, 16, 7, 26, 12, 18, 6, 11, 5, 10, 9]) (g := 3) (n := 100) (t := 161) (s := .st (List.replicate 32 (.int .u8))) (by kernel_rfl) (by kernel_rfl) (by kernel_rfl) hv (cont_ints (by kernel_rfl))
 obtain ⟨a4, q4, hv⟩ := laid_one (c := .ints .u8 [0, 1, 56, 2, 57, 49, 28, 3, 61, 58, 42, 50, 38, 29, 17, 4, 62, 47, 59, 36, 45, 43, 51, 22, 53, 39, 33, 30, 24, 18, 12, 5, 63, 55, 48, 27, 60, 41, 37, 16, 46, 35, 44, 21, 52, 32, 23, 11, 54, 26, 40, 15, 34, 20, 31, 10, 25, 14, 19, 9, 13, 8, 7, 6]) (g := 4) (n := 100) (t := 162) (s := .st (List.replicate 64 (.int .u8))) (by kernel_rfl) (by kernel_rfl) (by kernel_rfl) hv (cont_ints (by kernel_rfl))
 obtain ⟨a1, q1, hv⟩ := laid_one (c := .ints .u64 [1, 10, 100, 1000, 10000, 100000, 1000000, 10000000, 100000000, 1000000000, 10000000000, 100000000000, 1000000000000, 10000000000000, 100000000000000, 1000000000000000, 10000000000000000, 100000000000000000, 1000000000000000000, 10000000000000000000]) (g := 1) (n := 100) (t := 153) (s := .st (List.replicate 20 (.int .u64))) (by kernel_rfl) (by kernel_rfl) (by kernel_rfl) hv (cont_ints (by kernel_rfl))
 have hr : flat noHd (.st (List.replicate 8 (.sl (.st [.int .i64, .int .u8, .int .u8])))) (Rows.laid_crimp_fans_rays : DataW Unit) = [crL [(6, 0, 0)], crL [(12, 2, 0), (13, 2, 0)], crL [(9, 0, 0)], crL [(8, 1, 0), (10, 1, 0)], crL [(2, 0, 0)], crL [(0, 2, 0), (1, 2, 0)], crL [(1, 0, 0)], crL [(4, 1, 0), (6, 1, 0)]] := by kernel_rfl
 obtain ⟨a0, q0, hv⟩ := laid_one (c := raysC) (g := 0) (n := 100) (t := 83) (s := .st (List.replicate 8 (.sl (.st [.int .i64, .int .u8, .int .u8])))) (by kernel_rfl) (by kernel_rfl) (by kernel_rfl) hv (by rw [hr]; exact cont_vals)
 intro g c hg
 change gl g = some c at hg
 unfold gl at hg
 split at hg
 ·cases hg; exact a1
 ·cases hg; exact a3
 ·cases hg; exact a4
 ·cases hg; exact a0
 ·cases hg
/-- A world that holds the variables. -/
noncomputable def laidWorld (os : Os) : World := World.doorLaid Tryd.prog 4000 os
theorem laid_met0 (os : Os) : laidMetH Tryd.prog laidL ((laidWorld os).forCall (fun _ _ => 0) ⟨#[], #[], []⟩).memory := laidMet_of_run' 8 (by kernel_rfl) (by kernel_rfl)
/-- A fan as plain data; a fan; numbers. -/
def shF : Sh := .st [.int .u8, .int .u8, .sl (.int .u8)]
theorem shp24 : shp Tryd.prog 100 24 = some shF := by kernel_rfl
theorem conf_F {H : Type} {d : DataW H} (h : Conf shF d) : ∃ c l ks, argV noHd shF d = fV c l ks ∧ okK ks := by
 obtain ⟨ds, rfl, d1, r1, rfl, ⟨c, rfl, _⟩, d2, r2, rfl, ⟨l, rfl, _⟩, d3, r3, rfl, h3, rfl⟩ := h
 obtain ⟨ks, e, hk⟩ := conf_ints h3
 refine ⟨c, l, ks, ?_, fun x hx => wf_u8 (hk x hx)⟩
 show AV.agg ([AV.int .u8 c] ++ ([AV.int .u8 l] ++ (flat noHd (.sl (.int .u8)) d3 ++ []))) = _
 rw [e]; rfl
def shFan : Sh := .st [.sl (.int .i64), .sl (.int .u8)]
theorem shp29 : shp Tryd.prog 100 29 = some shFan := by kernel_rfl
theorem conf_Fan {H : Type} {d : DataW H} (h : Conf shFan d) : ∃ a k, argV noHd shFan d = fanV a k ∧ True := by
 obtain ⟨ds, rfl, d1, r1, rfl, h1, d2, r2, rfl, h2, rfl⟩ := h
 obtain ⟨a, e1, _⟩ := conf_ints h1
 obtain ⟨k, e2, _⟩ := conf_ints h2
 refine ⟨a, k, ?_, trivial⟩
 show AV.agg (flat noHd (.sl (.int .i64)) d1 ++ (flat noHd (.sl (.int .u8)) d2 ++ [])) = _
 rw [e1, e2]; rfl
theorem shp5 : shp Tryd.prog 100 5 = some (.int .u8) := by kernel_rfl
theorem conf_u8 {H : Type} {d : DataW H} (h : Conf (.int .u8) d) : ∃ n, argV noHd (.int .u8) d = AV.int .u8 n ∧ (0 ≤ n ∧ n ≤ 255) := by
 obtain ⟨n, rfl, hn⟩ := h
 exact ⟨n, rfl, wf_u8 hn⟩
theorem shp3 : shp Tryd.prog 100 3 = some (.int .i64) := by kernel_rfl
theorem conf_i64 {H : Type} {d : DataW H} (h : Conf (.int .i64) d) : ∃ n, argV noHd (.int .i64) d = AV.int .i64 n ∧ True := by
 obtain ⟨n, rfl, hn⟩ := h
 exact ⟨n, rfl, trivial⟩
theorem shp22 : shp Tryd.prog 100 22 = some (.sl (.int .u8)) := by kernel_rfl
theorem conf_bs {H : Type} {d : DataW H} (h : Conf (.sl (.int .u8)) d) : ∃ ys, argV noHd (.sl (.int .u8)) d = .imm (.ints .u8 ys) ys.length none ∧ okK ys := by
 obtain ⟨ys, e, hy⟩ := conf_ints h
 refine ⟨ys, ?_, fun x hx => wf_u8 (hy x hx)⟩
 show (flat noHd (.sl (.int .u8)) d).getD 0 .undef = _
 rw [e]; rfl
end Go.Proofs.YtfafinkgmhkdmaaDoor.X
