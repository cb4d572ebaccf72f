/-
 What is to be shown of the functions (made by a program).
-/
import Derived.Test.YtfpcbimohikhmaaDoorD6Z
import Derived.KernelRfl
set_option maxRecDepth 1000000
set_option linter.unusedVariables false
namespace Go.Proofs.YtfpcbimohikhmaaDoor.X
open Go Go.Ab
open List IntKind

theorem ob_os61 (c e c' e' : Int) : fnP (T0) Gs 10000 fe61 (.r [] 0 (.r [] 3 (.cnd (.r [] 3 .nil) (.r [] 5 .nil)))) ([.agg [.int .i64 c, .int .u8 e], .agg [.int .i64 c', .int .u8 e']]) ([.int .i64 (ordI c e c' e')]) ([]) = (
 ((c != c') = true → inR i64 (c - c') = true ∧ c - c' = ordI c e c' e' ∧ True) ∧ ((c != c') = false → inR i64 e = true ∧ inR i64 e' = true ∧ inR i64 (e - e') = true ∧ e - e' = ordI c e c' e' ∧ True)) := by kernel_rfl

theorem ob_os62 (c e k : Int) : fnP (T0) Gs 10000 fe62 (.r [] 0 (.r [] 7 .nil)) ([.agg [.int .i64 c, .int .u8 e, .int .u8 k]]) ([.agg [.int .i64 c, .int .u8 e]]) ([]) = (
 c = c ∧ e = e ∧ True) := by kernel_rfl

theorem ob_os60 (c e k c' e' k' : Int) : fnP (ST1) Gs 10000 fe60 (.r [] 0 (.r [] 15 .nil)) ([.agg [.int .i64 c, .int .u8 e, .int .u8 k], .agg [.int .i64 c', .int .u8 e', .int .u8 k']]) ([.int .i64 (ordI c e c' e')]) ([]) = (
 (sml c ∧ sml c' ∧ 0 ≤ e ∧ e ≤ 255 ∧ 0 ≤ e' ∧ e' ≤ 255) ∧ ordI c e c' e' = ordI c e c' e' ∧ True) := by kernel_rfl

end Go.Proofs.YtfpcbimohikhmaaDoor.X
