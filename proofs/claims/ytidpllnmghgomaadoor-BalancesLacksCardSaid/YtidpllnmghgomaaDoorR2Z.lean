/-
  Fans and bytes among the arguments.
-/
import Derived.Test.YtidpllnmghgomaaDoorRZ
set_option maxRecDepth 1000000
set_option linter.unusedVariables false
namespace Go.Proofs.YtidpllnmghgomaaDoor.X
open Go Go.Ab Go.ChangeShapes Go.WideShapes Go.ChangeAt Go.RowKit

def shFan : Sh := .st [.sl (.int .i64), .sl (.int .u8)]
theorem shp28 : shp Tryd.prog 100 28 = some shFan := by kernel_rfl
theorem conf_Fan {H : Type} {d : DataW H} (h : Conf shFan d) : ∃ a k, argV noHd shFan d = fanV a k ∧ True := by
  obtain ⟨ds, rfl, d1, r1, rfl, h1, d2, r2, rfl, h2, rfl⟩ := h
  obtain ⟨a, e1, _⟩ := conf_ints h1
  obtain ⟨k, e2, _⟩ := conf_ints h2
  refine ⟨a, k, ?_, trivial⟩
  show AV.agg (flat noHd (.sl (.int .i64)) d1 ++ (flat noHd (.sl (.int .u8)) d2 ++ [])) = _
  rw [e1, e2]; rfl
theorem shp5 : shp Tryd.prog 100 5 = some (.int .u8) := by kernel_rfl
theorem conf_u8 {H : Type} {d : DataW H} (h : Conf (.int .u8) d) : ∃ n, argV noHd (.int .u8) d = AV.int .u8 n ∧ (0 ≤ n ∧ n ≤ 255) := by
  obtain ⟨n, rfl, hn⟩ := h
  exact ⟨n, rfl, wf_u8 hn⟩
end Go.Proofs.YtidpllnmghgomaaDoor.X
