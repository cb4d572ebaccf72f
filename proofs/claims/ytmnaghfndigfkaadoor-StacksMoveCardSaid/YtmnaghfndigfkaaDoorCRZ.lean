/-
 The reference's functions on cells: the contracts.
-/
import Derived.Test.YtmnaghfndigfkaaDoorOBZ
import Derived.Test.YtmnaghfndigfkaaDoorCJZ
set_option maxRecDepth 1000000
set_option linter.unusedVariables false
set_option linter.unusedSimpArgs false
namespace Go.Proofs.YtmnaghfndigfkaaDoor.X
open Go Go.Ab

theorem td2 (x:Int):(2*x).tdiv 2=x:=Int.mul_tdiv_cancel_left x (by decide)
theorem e10 (x:Int):(2*x+2*1=2*x+2*0)=False:=by
 rw[eq_iff_iff,iff_false];omega
/-! ### Lines of edges -/
/-! ### Neighbours -/
end Go.Proofs.YtmnaghfndigfkaaDoor.X
