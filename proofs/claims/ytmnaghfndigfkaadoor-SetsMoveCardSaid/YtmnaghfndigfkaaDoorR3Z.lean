/-
 What the rows of this seat share: the variables that are laid, sets among the arguments.
-/
import Derived.Test.YtmnaghfndigfkaaDoorCards
import Derived.Test.YtmnaghfndigfkaaDoorTie
import Derived.Test.YtmnaghfndigfkaaDoorDDZ
import Derived.Test.YtmnaghfndigfkaaDoorAb6
import Derived.WalkKit
import Derived.ProofKit
import Derived.OpenShut
import Derived.Deep.DeepHandedRow
import Derived.Deep.DeepWitnessRowRef
import Derived.Lib.SmallJoins
import Derived.LaidMore

set_option maxRecDepth 1000000
set_option linter.unusedVariables false
namespace Go.Proofs.YtmnaghfndigfkaaDoor.X
open Go Go.Ab Go.ChangeShapes Go.WideShapes Go.ChangeAt Go.RowKit

theorem own : ownKnob Tryd.prog.godebug = none := by kernel_rfl
theorem laidOut : laidOutB Tryd.prog = true := by kernel_rfl
def laidL : List (String × DataW Unit) := [("crimp/moves.turns", Rows.laid_crimp_moves_turns), ("crimp/cells.quarters", Rows.laid_crimp_cells_quarters)]
def shPt : Sh := .st [.int .i64, .int .i64]
def shCell : Sh := .st [.int .i64, .int .i64, .int .u8]
def shQ : Sh := .st (List.replicate 4 (.st [shPt, .int .u8, .int .i64, .st (List.replicate 3 shCell), shPt, shPt]))
def shTu : Sh := .st (List.replicate 8 (.st (List.replicate 4 (.int .i64))))
/-- What the rows' lists give. -/
theorem globs {W : World} (h : laidMetH Tryd.prog laidL W) : GlobOk G (fun b => b < W.heap.size) W := by
 have h' : laidMet Tryd.prog laidL W := h
 obtain ⟨ps, hv, _⟩ := h'
 have hr : flat noHd shQ (Rows.laid_crimp_cells_quarters : DataW Unit) = (match quarC with | .vals l => l | _ => []) := by kernel_rfl
 obtain ⟨a0, q0, hv⟩ := laid_one (c := .ints .i64 [1, 0, 0, 1, 0, -1, 1, 0, -1, 0, 0, -1, 0, 1, -1, 0, -1, 0, 0, 1, 0, -1, -1, 0, 1, 0, 0, -1, 0, 1, 1, 0]) (g := 0) (n := 100) (t := 159) (s := shTu) (by kernel_rfl) (by kernel_rfl) (by kernel_rfl) hv (cont_ints (by kernel_rfl))
 obtain ⟨a1, q1, hv⟩ := laid_one (c := quarC) (g := 1) (n := 100) (t := 190) (s := shQ) (by kernel_rfl) (by kernel_rfl) (by kernel_rfl) hv (by rw [hr]; exact cont_vals)
 intro g c hg
 change gl g = some c at hg
 unfold gl at hg
 split at hg
 ·cases hg; exact a0
 ·cases hg; exact a1
 ·cases hg
/-- A world that holds the variables. -/
noncomputable def laidWorld (os : Os) : World := World.doorLaid Tryd.prog 4000 os
theorem laid_met0 (os : Os) : laidMetH Tryd.prog laidL ((laidWorld os).forCall (fun _ _ => 0) ⟨#[], #[], []⟩).memory := laidMet_of_run' 8 (by kernel_rfl) (by kernel_rfl)
/-- Sets as plain data. -/
def shR : Sh := .sl (.st [.int .i8, .int .i8, .int .u8])
theorem shp58 : shp Tryd.prog 100 58 = some shR := by kernel_rfl
theorem conf_one {H : Type} {d : DataW H} (h : Conf (.st [.int .i8, .int .i8, .int .u8]) d) : ∃ c : Cl, flat noHd (.st [.int .i8, .int .i8, .int .u8]) d = [.int .i8 c.1, .int .i8 c.2.1, .int .u8 c.2.2] ∧ (i8P c.1 ∧ i8P c.2.1 ∧ 0 ≤ c.2.2 ∧ c.2.2 ≤ 255) := by
 obtain ⟨ds, rfl, d1, r1, rfl, ⟨x, rfl, h1⟩, d2, r2, rfl, ⟨y, rfl, h2⟩, d3, r3, rfl, ⟨q, rfl, h3⟩, rfl⟩ := h
 exact ⟨(x, y, q), rfl, wf_i8 h1, wf_i8 h2, (wf_u8 h3).1, (wf_u8 h3).2⟩
theorem conf_list {H : Type} : ∀ (es : List (DataW H)), (∀ x ∈ es, Conf (.st [.int .i8, .int .i8, .int .u8]) x) → ∃ l : List Cl, es.flatMap (flat noHd (.st [.int .i8, .int .i8, .int .u8])) = flatS l ∧ l.length = es.length ∧ rawP l
 | [], _ => ⟨[], rfl, rfl, fun x hx => by simp at hx⟩
 | e :: es, h => by
  obtain ⟨c, h1, h2⟩ := conf_one (h e (List.mem_cons_self ..))
  obtain ⟨l, g1, g2, g3⟩ := conf_list es fun x hx => h x (List.mem_cons_of_mem _ hx)
  refine ⟨c :: l, ?_, by simp [g2], fun x hx => ?_⟩
  ·rw [List.flatMap_cons, h1, g1]; rfl
  ·rcases List.mem_cons.1 hx with rfl | hx
   ·exact h2
   ·exact g3 x hx
theorem conf_R {H : Type} {d : DataW H} (h : Conf shR d) : ∃ l : List Cl, flat noHd shR d = [rwS l] ∧ rawP l := by
 rcases h with rfl | ⟨es, sp, rfl, _, h⟩
 ·exact ⟨[], rfl, fun x hx => by simp at hx⟩
 ·obtain ⟨l, g1, g2, g3⟩ := conf_list es h
  refine ⟨l, ?_, g3⟩
  unfold rwS
  rw [← g1, g2]
  rfl
theorem conf_R1 {H : Type} {d : DataW H} (h : Conf shR d) : ∃ l, argV noHd shR d = rwS l ∧ rawP l := by
 obtain ⟨l, e, p⟩ := conf_R h
 refine ⟨l, ?_, p⟩
 show (flat noHd shR d).getD 0 .undef = _
 rw [e]; rfl
end Go.Proofs.YtmnaghfndigfkaaDoor.X

/-
 Moves among the arguments.
-/
set_option maxRecDepth 1000000
set_option linter.unusedVariables false
namespace Go.Proofs.YtmnaghfndigfkaaDoor.X
open Go Go.Ab Go.ChangeShapes Go.WideShapes Go.ChangeAt Go.RowKit

def shMv : Sh := .st [.int .u8, .int .i64, .int .i64]
theorem shp69 : shp Tryd.prog 100 69 = some shMv := by kernel_rfl
theorem conf_Mv {H : Type} {d : DataW H} (h : Conf shMv d) : ∃ t a b, argV noHd shMv d = .agg [.int .u8 t, .int .i64 a, .int .i64 b] ∧ (0 ≤ t ∧ t ≤ 255) := by
 obtain ⟨ds, rfl, d1, r1, rfl, ⟨x, rfl, h1⟩, d2, r2, rfl, ⟨y, rfl, h2⟩, d3, r3, rfl, ⟨q, rfl, h3⟩, rfl⟩ := h
 exact ⟨x, y, q, rfl, wf_u8 h1⟩
end Go.Proofs.YtmnaghfndigfkaaDoor.X
