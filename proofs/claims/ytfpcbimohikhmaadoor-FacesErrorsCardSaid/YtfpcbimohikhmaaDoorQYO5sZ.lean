/-
 What is to be shown of the functions (made by a program).
-/
import Derived.Test.YtfpcbimohikhmaaDoorQPJZ
import Derived.KernelRfl
set_option maxRecDepth 1000000
set_option linter.unusedVariables false
namespace Go.Proofs.YtfpcbimohikhmaaDoor.X
open Go Go.Ab
open List IntKind

theorem ob_os72 (a b u c d v:Int):fnP (T0) Gj 10000 fe72 (.r [] 0 (.r [] 3 (.cnd (.r [] 3 .nil) (.r [] 3 .nil)))) ([.agg [.int .i64 a,.int .i64 b,.int .i64 u],.agg [.int .i64 c,.int .i64 d,.int .i64 v]]) ([.int .i64 (cmI (a,b,u) (c,d,v))]) ([])=(
 ((a !=c)=true→inR i64 (a-c)=true∧a-c=cmI (a,b,u) (c,d,v)∧True)∧((a !=c)=false→inR i64 (b-d)=true∧b-d=cmI (a,b,u) (c,d,v)∧True)):=by kernel_rfl

end Go.Proofs.YtfpcbimohikhmaaDoor.X
