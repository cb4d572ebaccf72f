/-
 Cones: Insert of the library, laid (by the kit's own command).
-/
import Derived.Test.YthiammkiobbclaaGreatProg
import Derived.Shelf.Lays2
import Derived.Ground.Names2Prog
set_option maxRecDepth 1000000
set_option linter.unusedVariables false
namespace Go.Proofs.YthiammkiobbclaaGreat.X
open Go Go.Shelf Go.Proofs

def lays59_ren:Go.Shelf.Ren:=⟨fun|21=>31|27=>52|28=>53|35=>73|39=>92|n=>n,fun|22=>25|3=>3|4=>4|0=>0|n=>n,fun|n=>n⟩
theorem lays59:Go.Proofs.Lays2.n21 Tryz.prog lays59_ren:={
 mixed:=by kernel_rfl
 f21:=Tryz.func31.trans (congrArg some (by kernel_rfl))
 f27:=Tryz.func52.trans (congrArg some (by kernel_rfl))
 f28:=Tryz.func53.trans (congrArg some (by kernel_rfl))
 f35:=Tryz.func73.trans (congrArg some (by kernel_rfl))
 f39:=Tryz.func92.trans (congrArg some (by kernel_rfl))
 t0:=Tryz.underlying0
 a0:=Tryz.isAgg0
 z0:=Tryz.sizeOf0
 v0:=Tryz.zeroValue0
 t3:=Tryz.underlying3
 a3:=Tryz.isAgg3
 z3:=Tryz.sizeOf3
 v3:=Tryz.zeroValue3
 t4:=Tryz.underlying4
 a4:=Tryz.isAgg4
 z4:=Tryz.sizeOf4
 v4:=Tryz.zeroValue4
 t22:=Tryz.underlying25
 a22:=Tryz.isAgg25
 z22:=Tryz.sizeOf25
 v22:=Tryz.zeroValue25
 i3:=by kernel_rfl}
end Go.Proofs.YthiammkiobbclaaGreat.X
