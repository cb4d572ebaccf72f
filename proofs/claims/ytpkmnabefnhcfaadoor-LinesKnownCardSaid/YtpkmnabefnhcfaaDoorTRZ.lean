/-
  Lines and texts among the arguments.
-/
import Derived.Test.YtpkmnabefnhcfaaDoorGRZ
set_option maxRecDepth 1000000
set_option linter.unusedVariables false
namespace Go.Proofs.YtpkmnabefnhcfaaDoor.X
open Go Go.Ab Go.ChangeShapes Go.WideShapes Go.ChangeAt Go.RowKit

theorem conf_lineW {H : Type} {d : DataW H} (h : Conf (.st [.int .u8, .int .i64]) d) : ∃ k c, argV noHd (.st [.int .u8, .int .i64]) d = lnV k c ∧ (0 ≤ k ∧ k ≤ 255) := by
  obtain ⟨ds, rfl, d1, r1, rfl, ⟨k, rfl, hk⟩, d2, r2, rfl, ⟨c, rfl, _⟩, rfl⟩ := h
  exact ⟨k, c, rfl, wf_u8 hk⟩
theorem conf_str {H : Type} {d : DataW H} (h : Conf .str d) : ∃ s, argV noHd .str d = AV.str s ∧ True := by
  obtain ⟨s, rfl, _⟩ := h
  exact ⟨s, rfl, trivial⟩
end Go.Proofs.YtpkmnabefnhcfaaDoor.X
