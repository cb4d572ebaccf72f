/-
 What the rows of this seat share: fans among the arguments.
-/
import Derived.Test.YthiammkiobbclaaRows
import Derived.Test.YthiammkiobbclaaDZ
import Derived.Test.YthiammkiobbclaaAb7
import Derived.WalkKit
import Derived.ProofKit
import Derived.OpenShut
import Derived.Deep.DeepHandedRow
import Derived.Lib.SmallJoins
import Derived.LaidMore
set_option maxRecDepth 1000000
set_option linter.unusedVariables false
namespace Go.Proofs.Ythiammkiobbclaa.X
open Go Go.Ab Go.ChangeShapes Go.WideShapes Go.ChangeAt Go.RowKit

theorem own:ownKnob Try.prog.godebug=none:=by kernel_rfl
theorem laidOut:laidOutB Try.prog=true:=by kernel_rfl
theorem globs {W:World}:GlobOk G (fun b=>b<W.heap.size) W:=fun _ _ h=>by cases h
noncomputable def laidWorld (os:Os):World:=World.holding Try.prog os ⟨#[],#[],[]⟩
theorem laid_met0 (os:Os):laidMetH Try.prog [] ((laidWorld os).forCall (fun _ _=>0) ⟨#[],#[],[]⟩).memory:=laidMet_of_run' 8 (by kernel_rfl) (by kernel_rfl)
/-- A ring as plain data. -/
def shN:Sh:=.st [.st [.sl (.int .u8),.sl (.int .u8)],.int .u8]
theorem shp26:shp Try.prog 100 26=some shN:=by kernel_rfl
theorem conf_N {H:Type}{d:DataW H}(h:Conf shN d):∃ls ks x,argV noHd shN d=AV.agg [.imm (.ints .u8 ls) ls.length none,.imm (.ints .u8 ks) ks.length none,.int .u8 x]∧okK ls∧okK ks∧0≤x∧x≤255:=by
 obtain⟨ds,rfl,d1,r1,rfl,⟨es,rfl,e1,q1,rfl,h1,e2,q2,rfl,h2,rfl⟩,d2,r2,rfl,⟨x,rfl,hx⟩,rfl⟩:=h
 obtain⟨ls,e3,hl⟩:=conf_ints h1
 obtain⟨ks,e4,hk⟩:=conf_ints h2
 have hx':=wf_u8 hx
 refine⟨ls,ks,x,?_,fun y hy=>wf_u8 (hl y hy),fun y hy=>wf_u8 (hk y hy),hx'.1,hx'.2⟩
 show AV.agg ((flat noHd (.sl (.int .u8)) e1++(flat noHd (.sl (.int .u8)) e2++[]))++([AV.int .u8 x]++[]))=_
 rw[e3,e4];rfl
end Go.Proofs.Ythiammkiobbclaa.X
