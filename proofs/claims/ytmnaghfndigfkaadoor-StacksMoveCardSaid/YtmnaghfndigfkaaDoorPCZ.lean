/-
 What is to be shown of the functions (made by a program).
-/
import Derived.Test.YtmnaghfndigfkaaDoorDIZ
import Derived.KernelRfl
import Derived.Test.YtmnaghfndigfkaaDoorPZ
import Derived.Shelf.SlSortCmp.NoneTotal
import Derived.Test.YtmnaghfndigfkaaDoorCJZ

set_option maxRecDepth 1000000
set_option linter.unusedVariables false
namespace Go.Proofs.YtmnaghfndigfkaaDoor.X
open Go Go.Ab

theorem ob_o151 (x y:Int):fnP (T0) G 10000 fe151 (.r [] 0 (.rs 4 [] 1 6 (.r [] 63 (.lit (.r [] 0 .nil))) (.rs 5 [] 7 11 (.r [] 15 (.lit (.r [] 0 .nil))) (.rs 5 [] 7 16 (.r [] 3 (.lit (.r [] 0 .nil))) (.r [] 7 (.cnd (.r [] 0 .nil) (.r [] 0 .nil))))))) ([.agg [.int .i64 x,.int .i64 y]]) ([.int .i64 (bI (ptB x y) 0 1)]) ([])=(
(ltb x (-65536)=true→1=bI (ptB x y) 0 1∧True)∧(ltb x (-65536)=false→(ltb 65536 x=true→1=bI (ptB x y) 0 1∧True)∧(ltb 65536 x=false→(ltb y (-65536)=true→1=bI (ptB x y)
0 1∧True)∧(ltb y (-65536)=false→(ltb 65536 y=true→1=bI (ptB x y) 0 1∧True)∧(ltb 65536 y=false→0=bI (ptB x y) 0 1∧True))))):=by kernel_rfl

theorem ob_o165 (x y q:Int):fnP (T0) G 10000 fe165 (.r [] 0 (.r [] 73 .nil)) ([.agg [.int .i64 x,.int .i64 y,.int .u8 q]]) ([.agg [.int .i64 (2*x+1),.int .i64 (2*y+1)]]) ([])=(
inR IntKind.i64 (2*x)=true∧inR IntKind.i64 (2*x+1)=true∧inR IntKind.i64 (2*y)=true∧inR IntKind.i64 (2*y+1)=true∧2*x+1=2*x+1∧2*y+1=2*y+1∧True):=by kernel_rfl

end Go.Proofs.YtmnaghfndigfkaaDoor.X

/-
 What is to be shown of the functions (made by a program).
-/
set_option maxRecDepth 1000000
set_option linter.unusedVariables false
namespace Go.Proofs.YtmnaghfndigfkaaDoor.X
open Go Go.Ab

end Go.Proofs.YtmnaghfndigfkaaDoor.X
/-
 Sorting and dropping doubles makes the set of a list.
-/
set_option maxRecDepth 1000000
set_option linter.unusedVariables false
set_option linter.unusedSimpArgs false
namespace Go.Proofs.YtmnaghfndigfkaaDoor.X
open Go Go.Ab

end Go.Proofs.YtmnaghfndigfkaaDoor.X
/-
 Sorting cells: the library's contract, laid (by the kit's own command), under the comparison's contract.
-/
set_option maxRecDepth 1000000
set_option linter.unusedVariables false
set_option linter.unusedSimpArgs false
namespace Go.Proofs.YtmnaghfndigfkaaDoor.X
open Go Go.Ab Go.Shelf Go.Proofs

theorem hcs:Gs.cm=cmOf Tryd.prog:=rfl
end Go.Proofs.YtmnaghfndigfkaaDoor.X
/-
 Squares, outlines: the contracts.
-/
set_option maxRecDepth 1000000
set_option linter.unusedVariables false
set_option linter.unusedSimpArgs false
namespace Go.Proofs.YtmnaghfndigfkaaDoor.X
open Go Go.Ab

theorem bx (b:Bool):(bif b then b&&true else true)=true:=by cases b<;>rfl
/-! ### Outlines -/
end Go.Proofs.YtmnaghfndigfkaaDoor.X
/-
 Connected, in plain terms: what is left and what waits.
-/
set_option maxRecDepth 1000000
set_option linter.unusedVariables false
set_option linter.unusedSimpArgs false
namespace Go.Proofs.YtmnaghfndigfkaaDoor.X
open Go Go.Ab

end Go.Proofs.YtmnaghfndigfkaaDoor.X
