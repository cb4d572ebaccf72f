/-
 What is to be shown of the functions (made by a program).
-/
import Derived.Test.YtfafinkgmhkdmaaGreatDoorFGZ
import Derived.Test.YtfafinkgmhkdmaaGreatDoorVD11Z
import Derived.KernelRfl
import Derived.Test.YtfafinkgmhkdmaaGreatDoorVD8Z
import Derived.Test.YtfafinkgmhkdmaaGreatDoorVC7Z

set_option maxRecDepth 1000000
set_option linter.unusedVariables false
namespace Go.Proofs.YtfafinkgmhkdmaaGreatDoor.X
open Go Go.Ab
open List IntKind

theorem ob_os36 (d k d' k':Int):fnP (T0) Gs 10000 fe36 (.r [] 0 (.r [] 3 .nil)) ([.agg [.int .i64 d,.int .u8 k],.agg [.int .i64 d',.int .u8 k']]) ([.int .i64 (d-d')]) ([])=(
 inR i64 (d-d')=true∧d-d'=d-d'∧True):=by kernel_rfl

end Go.Proofs.YtfafinkgmhkdmaaGreatDoor.X

/-
 What is to be shown of the functions (made by a program).
-/
set_option maxRecDepth 1000000
set_option linter.unusedVariables false
namespace Go.Proofs.YtfafinkgmhkdmaaGreatDoor.X
open Go Go.Ab
open List IntKind

theorem ob_os75 (x:Int):fnP (T0) Gs 10000 fe51 (.r [] 0 (.r [] 0 .nil)) ([.int .i64 x]) ([.bool false]) ([])=(
 (x !=x)=false∧True):=by kernel_rfl

theorem ob_os76 (x:Int):fnP (T0) Gs 10000 fe52 (.r [] 0 (.r [] 0 .nil)) ([.int .u8 x]) ([.bool false]) ([])=(
 (x !=x)=false∧True):=by kernel_rfl

theorem ob_os52 (x y:Int):fnP (SA') Gs 10000 fe22 (.r [] 0 (.r [] 1 (.r [] 1 (.r [] 0 (.lit (.r [] 0 (.lit (.r [] 0 (.cnd (.r [] 0 .nil) (.r [] 0 (.cnd (.r [] 0 .nil) (.r [] 0 .nil)))))))))))) ([.int .i64 x,.int .i64 y]) ([.int .i64 (cmpI x y)]) ([])=(
 (ltb x y=true→ -1=cmpI x y∧True)∧(ltb x y=false→(ltb y x=true→1=cmpI x y∧True)∧(ltb y x=false→0=cmpI x y∧True))):=by kernel_rfl

theorem ob_os53 (x y:Int):fnP (SA') Gs 10000 fe23 (.r [] 0 (.r [] 1 (.r [] 1 (.r [] 0 (.lit (.r [] 0 (.lit (.r [] 0 (.cnd (.r [] 0 .nil) (.r [] 0 (.cnd (.r [] 0 .nil) (.r [] 0 .nil)))))))))))) ([.int .u8 x,.int .u8 y]) ([.int .i64 (cmpI x y)]) ([])=(
 (ltb x y=true→ -1=cmpI x y∧True)∧(ltb x y=false→(ltb y x=true→1=cmpI x y∧True)∧(ltb y x=false→0=cmpI x y∧True))):=by kernel_rfl

theorem ob_os47 (x y:Int):fnP (T0) Gs 10000 fe21 (.r [] 0 (.r [] 0 (.r [] 0 (.un (.r [] 0 (.lit (.r [] 15 (.r [] 0 (.cnd (.r [] 0 .nil) (.r [] 1 (.un (.r [] 0 (.lit (.r [] 15 (.r [] 0 (.cnd (.r [] 0 .nil) (.r [] 1 (.un (.r [] 0 (.lit (.r [] 0 .nil))))))))))))))))))))) ([.imm (.ints .i64 [x,y]) 2 none]) ([.int .i64 (orI x y)]) ([])=(
 ((getD [x,y] 0 0 !=0)=true→getD [x,y] 0 0=orI x y∧True)∧((getD [x,y] 0 0 !=0)=false→((getD [y] 0 0 !=0)=true→getD [y] 0 0=orI x y∧True)∧((getD [y] 0 0 !=0)=false→0=
 orI x y∧True))):=by kernel_rfl

theorem ob_os51 (x y:Cr):fnP (SB') Gs 10000 fe20 (.r [] 0 (.r [] 255 .nil)) ([crV x,crV y]) ([.int .i64 (orI (cmpI x.1 y.1) (cmpI x.2.1 y.2.1))]) ([])=(
 orI (cmpI x.fst y.fst) (cmpI x.snd.fst y.snd.fst)=orI (cmpI x.fst y.fst) (cmpI x.snd.fst y.snd.fst)∧True):=by kernel_rfl

end Go.Proofs.YtfafinkgmhkdmaaGreatDoor.X
/-
 What is to be shown of the functions (made by a program).
-/
set_option maxRecDepth 1000000
set_option linter.unusedVariables false
namespace Go.Proofs.YtfafinkgmhkdmaaGreatDoor.X
open Go Go.Ab

end Go.Proofs.YtfafinkgmhkdmaaGreatDoor.X
/-
 The contracts of the least turn; of which fan comes before.
-/
set_option maxRecDepth 1000000
set_option linter.unusedVariables false
set_option linter.unusedSimpArgs false
namespace Go.Proofs.YtfafinkgmhkdmaaGreatDoor.X
open Go Go.Ab

end Go.Proofs.YtfafinkgmhkdmaaGreatDoor.X
