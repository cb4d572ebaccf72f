/-
 Moves among the arguments.
-/
import Derived.Test.YtmnaghfndigfkaaDoorRZ
set_option maxRecDepth 1000000
set_option linter.unusedVariables false
namespace Go.Proofs.YtmnaghfndigfkaaDoor.X
open Go Go.Ab Go.ChangeShapes Go.WideShapes Go.ChangeAt Go.RowKit

def shMv:Sh:=.st [.int .u8,.int .i64,.int .i64]
theorem shp69:shp Tryd.prog 100 69=some shMv:=by kernel_rfl
theorem conf_Mv {H:Type}{d:DataW H}(h:Conf shMv d):∃t a b,argV noHd shMv d=.agg [.int .u8 t,.int .i64 a,.int .i64 b]∧(0≤t∧t≤255):=by
 obtain⟨ds,rfl,d1,r1,rfl,⟨x,rfl,h1⟩,d2,r2,rfl,⟨y,rfl,h2⟩,d3,r3,rfl,⟨q,rfl,h3⟩,rfl⟩:=h
 exact⟨x,y,q,rfl,wf_u8 h1⟩
end Go.Proofs.YtmnaghfndigfkaaDoor.X
