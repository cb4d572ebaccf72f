/-
 What the rows on stacks share: the variable that is laid, stacks among the arguments.
-/
import Derived.Test.YtmnaghfndigfkaaDoorCards
import Derived.Test.YtmnaghfndigfkaaDoorTie
import Derived.Test.YtmnaghfndigfkaaDoorQHCZ
import Derived.Test.YtmnaghfndigfkaaDoorAb6
import Derived.WalkKit
import Derived.ProofKit
import Derived.OpenShut
import Derived.Deep.DeepHandedRow
import Derived.Deep.DeepWitnessRowRef
import Derived.Lib.SmallJoins
import Derived.LaidMore
set_option maxRecDepth 1000000
set_option linter.unusedVariables false
namespace Go.Proofs.YtmnaghfndigfkaaDoor.X
open Go Go.Ab Go.ChangeShapes Go.WideShapes Go.ChangeAt Go.RowKit

theorem own : ownKnob Tryd.prog.godebug = none := by kernel_rfl
theorem laidOut : laidOutB Tryd.prog = true := by kernel_rfl
def laidL : List (String × DataW Unit) := [("crimp/cells.quarters", Rows.laid_crimp_cells_quarters)]
def shPt : Sh := .st [.int .i64, .int .i64]
def shCell : Sh := .st [.int .i64, .int .i64, .int .u8]
def shQ : Sh := .st (List.replicate 4 (.st [shPt, .int .u8, .int .i64, .st (List.replicate 3 shCell), shPt, shPt]))
/-- What the rows' lists give. -/
theorem globs {W : World} (h : laidMetH Tryd.prog laidL W) : GlobOk G (fun b => b < W.heap.size) W := by
 have h' : laidMet Tryd.prog laidL W := h
 obtain ⟨ps, hv, _⟩ := h'
 have hr : flat noHd shQ (Rows.laid_crimp_cells_quarters : DataW Unit) = (match quarC with | .vals l => l | _ => []) := by kernel_rfl
 obtain ⟨a1, q1, hv⟩ := laid_one (c := quarC) (g := 1) (n := 100) (t := 190) (s := shQ) (by kernel_rfl) (by kernel_rfl) (by kernel_rfl) hv (by rw [hr]; exact cont_vals)
 intro g c hg
 change gl g = some c at hg
 unfold gl at hg
 split at hg
 ·cases hg; exact a1
 ·cases hg
/-- A world that holds the variables. -/
noncomputable def laidWorld (os : Os) : World := World.doorLaid Tryd.prog 4000 os
theorem laid_met0 (os : Os) : laidMetH Tryd.prog laidL ((laidWorld os).forCall (fun _ _ => 0) ⟨#[], #[], []⟩).memory := laidMet_of_run' 8 (by kernel_rfl) (by kernel_rfl)
def shK : Sh := .st [.int .i64, .int .i64, .int .u8]
def shP : Sh := .st [.int .i8, .int .i8, .int .u8, .sl (.int .u8)]
def shT : Sh := .sl shP
theorem shp23 : shp Tryd.prog 100 23 = some shT := by kernel_rfl
theorem shp25 : shp Tryd.prog 100 25 = some shK := by kernel_rfl
theorem shp3 : shp Tryd.prog 100 3 = some (.int .i64) := by kernel_rfl
theorem conf_p {H : Type} {d : DataW H} (h : Conf shP d) : ∃ s : Sk, flat noHd shP d = ptV s ∧ (i8P s.1.1 ∧ i8P s.1.2.1 ∧ 0 ≤ s.1.2.2 ∧ s.1.2.2 ≤ 255) ∧ ∀ k ∈ s.2, 0 ≤ k ∧ k ≤ 255 := by
 obtain ⟨ds, rfl, d1, r1, rfl, ⟨x, rfl, h1⟩, d2, r2, rfl, ⟨y, rfl, h2⟩, d3, r3, rfl, ⟨q, rfl, h3⟩, d4, r4, rfl, h4, rfl⟩ := h
 obtain ⟨ks, e4, hk⟩ := conf_ints (hd := noHd) h4
 refine ⟨((x, y, q), ks), ?_, ⟨wf_i8 h1, wf_i8 h2, (wf_u8 h3).1, (wf_u8 h3).2⟩, fun k hk' => ⟨(wf_u8 (hk k hk')).1, (wf_u8 (hk k hk')).2⟩⟩
 show _ :: _ :: _ :: (flat noHd (.sl (.int .u8)) d4 ++ []) = _
 rw [e4]; rfl
theorem conf_ps {H : Type} : ∀ (es : List (DataW H)), (∀ x ∈ es, Conf shP x) → ∃ l : List Sk, es.flatMap (flat noHd shP) = flatR l ∧ l.length = es.length ∧ rawT l
 | [], _ => ⟨[], rfl, rfl, fun x hx => by simp at hx⟩
 | e :: es, h => by
  obtain ⟨c, h1, h2⟩ := conf_p (h e (List.mem_cons_self ..))
  obtain ⟨l, g1, g2, g3⟩ := conf_ps es fun x hx => h x (List.mem_cons_of_mem _ hx)
  refine ⟨c :: l, ?_, by simp [g2], fun x hx => ?_⟩
  ·rw [List.flatMap_cons, h1, g1]; rfl
  ·rcases List.mem_cons.1 hx with rfl | hx
   ·exact h2
   ·exact g3 x hx
theorem conf_T {H : Type} {d : DataW H} (h : Conf shT d) : ∃ l : List Sk, argV noHd shT d = .imm (.vals (flatR l)) l.length none ∧ rawT l := by
 rcases h with rfl | ⟨es, sp, rfl, _, h⟩
 ·exact ⟨[], rfl, fun x hx => by simp at hx⟩
 ·obtain ⟨l, g1, g2, g3⟩ := conf_ps es h
  refine ⟨l, ?_, g3⟩
  rw [← g1, g2]
  rfl
theorem conf_C {H : Type} {d : DataW H} (h : Conf shK d) : ∃ c : Cl, argV noHd shK d = clV c ∧ (0 ≤ c.2.2 ∧ c.2.2 ≤ 255) := by
 obtain ⟨ds, rfl, d1, r1, rfl, ⟨x, rfl, h1⟩, d2, r2, rfl, ⟨y, rfl, h2⟩, d3, r3, rfl, ⟨q, rfl, h3⟩, rfl⟩ := h
 exact ⟨(x, y, q), rfl, (wf_u8 h3).1, (wf_u8 h3).2⟩
theorem conf_i {H : Type} {d : DataW H} (h : Conf (.int .i64) d) : ∃ n, argV noHd (.int .i64) d = AV.int .i64 n ∧ True := by
 obtain ⟨n, rfl, hn⟩ := h
 exact ⟨n, rfl, trivial⟩
end Go.Proofs.YtmnaghfndigfkaaDoor.X
