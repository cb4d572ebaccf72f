/-
 What the rows of this seat share: fans among the arguments.
-/
import Derived.Test.YthiammkiobbclaaGreatRows
import Derived.Test.YthiammkiobbclaaGreatDZ
import Derived.Test.YthiammkiobbclaaGreatAb7
import Derived.WalkKit
import Derived.ProofKit
import Derived.OpenShut
import Derived.Deep.DeepHandedRow
import Derived.Lib.SmallJoins
import Derived.LaidMore
set_option maxRecDepth 1000000
set_option linter.unusedVariables false
namespace Go.Proofs.YthiammkiobbclaaGreat.X
open Go Go.Ab Go.ChangeShapes Go.WideShapes Go.ChangeAt Go.RowKit

theorem own:ownKnob Tryz.prog.godebug=none:=by kernel_rfl
theorem laidOut:laidOutB Tryz.prog=true:=by kernel_rfl
theorem globs {W:World}:GlobOk G (fun b=>b<W.heap.size) W:=fun _ _ h=>by cases h
noncomputable def laidWorld (os:Os):World:=World.holding Tryz.prog os ⟨#[],#[],[]⟩
theorem laid_met0 (os:Os):laidMetH Tryz.prog [] ((laidWorld os).forCall (fun _ _=>0) ⟨#[],#[],[]⟩).memory:=laidMet_of_run' 8 (by kernel_rfl) (by kernel_rfl)
/-- A fan as plain data; a fan; numbers. -/
def shF:Sh:=.st [.int .u8,.int .u8,.sl (.int .u8)]
theorem shp24:shp Tryz.prog 100 24=some shF:=by kernel_rfl
theorem conf_F {H:Type}{d:DataW H}(h:Conf shF d):∃c l ks,argV noHd shF d=fV c l ks∧okK ks:=by
 obtain⟨ds,rfl,d1,r1,rfl,⟨c,rfl,_⟩,d2,r2,rfl,⟨l,rfl,_⟩,d3,r3,rfl,h3,rfl⟩:=h
 obtain⟨ks,e,hk⟩:=conf_ints h3
 refine⟨c,l,ks,?_,fun x hx=>wf_u8 (hk x hx)⟩
 show AV.agg ([AV.int .u8 c]++([AV.int .u8 l]++(flat noHd (.sl (.int .u8)) d3++[])))=_
 rw[e];rfl
end Go.Proofs.YthiammkiobbclaaGreat.X
