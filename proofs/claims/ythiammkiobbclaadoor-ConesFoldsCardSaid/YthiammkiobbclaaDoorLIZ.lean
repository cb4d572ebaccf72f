/-
 Cones: Insert of the library, laid (by the kit's own command).
-/
import Derived.Test.YthiammkiobbclaaDoorProg
import Derived.Shelf.Lays2
import Derived.Ground.Names2Prog
set_option maxRecDepth 1000000
set_option linter.unusedVariables false
namespace Go.Proofs.YthiammkiobbclaaDoor.X
open Go Go.Shelf Go.Proofs

def lays59_ren:Go.Shelf.Ren:=⟨fun|21=>20|27=>38|28=>39|35=>50|39=>69|n=>n,fun|22=>25|3=>3|4=>4|0=>0|n=>n,fun|n=>n⟩
theorem lays59:Go.Proofs.Lays2.n21 Tryd.prog lays59_ren:={
 mixed:=by kernel_rfl
 f21:=Tryd.func20.trans (congrArg some (by kernel_rfl))
 f27:=Tryd.func38.trans (congrArg some (by kernel_rfl))
 f28:=Tryd.func39.trans (congrArg some (by kernel_rfl))
 f35:=Tryd.func50.trans (congrArg some (by kernel_rfl))
 f39:=Tryd.func69.trans (congrArg some (by kernel_rfl))
 t0:=Tryd.underlying0
 a0:=Tryd.isAgg0
 z0:=Tryd.sizeOf0
 v0:=Tryd.zeroValue0
 t3:=Tryd.underlying3
 a3:=Tryd.isAgg3
 z3:=Tryd.sizeOf3
 v3:=Tryd.zeroValue3
 t4:=Tryd.underlying4
 a4:=Tryd.isAgg4
 z4:=Tryd.sizeOf4
 v4:=Tryd.zeroValue4
 t22:=Tryd.underlying25
 a22:=Tryd.isAgg25
 z22:=Tryd.sizeOf25
 v22:=Tryd.zeroValue25
 i3:=by kernel_rfl}
end Go.Proofs.YthiammkiobbclaaDoor.X
