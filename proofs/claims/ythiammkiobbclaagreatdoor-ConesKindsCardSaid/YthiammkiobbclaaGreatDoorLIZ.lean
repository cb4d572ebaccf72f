/-
 Cones: Insert of the library, laid (by the kit's own command).
-/
import Derived.Test.YthiammkiobbclaaGreatDoorProg
import Derived.Shelf.Lays2
import Derived.Ground.Names2Prog
set_option maxRecDepth 1000000
set_option linter.unusedVariables false
namespace Go.Proofs.YthiammkiobbclaaGreatDoor.X
open Go Go.Shelf Go.Proofs

def lays59_ren:Go.Shelf.Ren:=⟨fun|21=>59|27=>80|28=>81|35=>93|39=>69|n=>n,fun|22=>25|3=>3|4=>4|0=>0|n=>n,fun|n=>n⟩
theorem lays59:Go.Proofs.Lays2.n21 Tryz.prog lays59_ren:={
 mixed:=by kernel_rfl
 f21:=Tryz.func59.trans (congrArg some (by kernel_rfl))
 f27:=Tryz.func80.trans (congrArg some (by kernel_rfl))
 f28:=Tryz.func81.trans (congrArg some (by kernel_rfl))
 f35:=Tryz.func93.trans (congrArg some (by kernel_rfl))
 f39:=Tryz.func69.trans (congrArg some (by kernel_rfl))
 t0:=Tryz.underlying0
 a0:=Tryz.isAgg0
 z0:=Tryz.sizeOf0
 v0:=Tryz.zeroValue0
 t3:=Tryz.underlying3
 a3:=Tryz.isAgg3
 z3:=Tryz.sizeOf3
 v3:=Tryz.zeroValue3
 t4:=Tryz.underlying4
 a4:=Tryz.isAgg4
 z4:=Tryz.sizeOf4
 v4:=Tryz.zeroValue4
 t22:=Tryz.underlying25
 a22:=Tryz.isAgg25
 z22:=Tryz.sizeOf25
 v22:=Tryz.zeroValue25
 i3:=by kernel_rfl}
end Go.Proofs.YthiammkiobbclaaGreatDoor.X
