/-
 What is to be shown of the functions (made by a program).
-/
import Derived.Test.YtfpcbimohikhmaaDoorQD5Z
import Derived.KernelRfl
set_option maxRecDepth 1000000
set_option linter.unusedVariables false
namespace Go.Proofs.YtfpcbimohikhmaaDoor.X
open Go Go.Ab
open List IntKind

theorem ob_o35 (W H:Int):fnP (T0) G 10000 fe35 (.r [] 0 (.r [] 307 .nil)) ([.agg [.int .u8 W,.int .u8 H]]) ([.agg [.int .i64 (dim5 W),.int .i64 (dim5 H)]]) ([])=(
 inR i64 (Int.tmod W 5)=true∧inR i64 (1+Int.tmod W 5)=true∧inR i64 (Int.tmod H 5)=true∧inR i64 (1+Int.tmod H 5)=true∧1+Int.tmod W 5=dim5 W∧1+Int.tmod H 5=dim5 H∧True):=by kernel_rfl

end Go.Proofs.YtfpcbimohikhmaaDoor.X
