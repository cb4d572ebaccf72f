/-
 Lists of cells, cells and small numbers among the arguments.
-/
import Derived.Test.YtmnaghfndigfkaaDoorRZ
set_option maxRecDepth 1000000
set_option linter.unusedVariables false
namespace Go.Proofs.YtmnaghfndigfkaaDoor.X
open Go Go.Ab Go.ChangeShapes Go.WideShapes Go.ChangeAt Go.RowKit

def shK : Sh := .st [.int .i64, .int .i64, .int .u8]
def shL : Sh := .sl shK
theorem shp59 : shp Tryd.prog 100 59 = some shL := by kernel_rfl
theorem shp5 : shp Tryd.prog 100 5 = some (.int .u8) := by kernel_rfl
theorem conf_u8 {H : Type} {d : DataW H} (h : Conf (.int .u8) d) : ∃ n, argV noHd (.int .u8) d = AV.int .u8 n ∧ (0 ≤ n ∧ n ≤ 255) := by
 obtain ⟨n, rfl, hn⟩ := h
 exact ⟨n, rfl, wf_u8 hn⟩
theorem conf_k {H : Type} {d : DataW H} (h : Conf shK d) : ∃ c : Cl, flat noHd shK d = [.int .i64 c.1, .int .i64 c.2.1, .int .u8 c.2.2] ∧ (0 ≤ c.2.2 ∧ c.2.2 ≤ 255) := by
 obtain ⟨ds, rfl, d1, r1, rfl, ⟨x, rfl, h1⟩, d2, r2, rfl, ⟨y, rfl, h2⟩, d3, r3, rfl, ⟨q, rfl, h3⟩, rfl⟩ := h
 exact ⟨(x, y, q), rfl, (wf_u8 h3).1, (wf_u8 h3).2⟩
theorem conf_ks {H : Type} : ∀ (es : List (DataW H)), (∀ x ∈ es, Conf shK x) → ∃ l : List Cl, es.flatMap (flat noHd shK) = flatK l ∧ l.length = es.length ∧ okQ l
 | [], _ => ⟨[], rfl, rfl, fun x hx => by simp at hx⟩
 | e :: es, h => by
  obtain ⟨c, h1, h2⟩ := conf_k (h e (List.mem_cons_self ..))
  obtain ⟨l, g1, g2, g3⟩ := conf_ks es fun x hx => h x (List.mem_cons_of_mem _ hx)
  refine ⟨c :: l, ?_, by simp [g2], fun x hx => ?_⟩
  ·rw [List.flatMap_cons, h1, g1]; rfl
  ·rcases List.mem_cons.1 hx with rfl | hx
   ·exact h2
   ·exact g3 x hx
theorem conf_L {H : Type} {d : DataW H} (h : Conf shL d) : ∃ l : List Cl, argV noHd shL d = cls l ∧ okQ l := by
 rcases h with rfl | ⟨es, sp, rfl, _, h⟩
 ·exact ⟨[], rfl, fun x hx => by simp at hx⟩
 ·obtain ⟨l, g1, g2, g3⟩ := conf_ks es h
  refine ⟨l, ?_, g3⟩
  unfold cls
  rw [← g1, g2]
  rfl
end Go.Proofs.YtmnaghfndigfkaaDoor.X
