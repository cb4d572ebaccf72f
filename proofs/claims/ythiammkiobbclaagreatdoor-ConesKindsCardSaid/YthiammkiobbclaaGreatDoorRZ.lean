/-
 What the rows of this seat share: the variables that are laid, fans among the arguments.
-/
import Derived.Test.YthiammkiobbclaaGreatDoorCards
import Derived.Test.YthiammkiobbclaaGreatDoorTie
import Derived.Test.YthiammkiobbclaaGreatDoorDZ
import Derived.Test.YthiammkiobbclaaGreatDoorAb6
import Derived.WalkKit
import Derived.ProofKit
import Derived.OpenShut
import Derived.Deep.DeepHandedRow
import Derived.Lib.SmallJoins
import Derived.LaidMore
set_option maxRecDepth 1000000
set_option linter.unusedVariables false
namespace Go.Proofs.YthiammkiobbclaaGreatDoor.X
open Go Go.Ab Go.ChangeShapes Go.WideShapes Go.ChangeAt Go.RowKit

theorem own:ownKnob Tryz.prog.godebug=none:=by kernel_rfl
theorem laidOut:laidOutB Tryz.prog=true:=by kernel_rfl
def laidL:List (String×DataW Unit):=[("unicode/utf8.acceptRanges",Rows.laid_unicode_utf8_acceptRanges),("unicode/utf8.first",Rows.laid_unicode_utf8_first)]
/-- What the rows' lists give. -/
theorem globs {W:World}(h:laidMetH Tryz.prog laidL W):GlobOk G (fun b=>b<W.heap.size) W:=by
 have h':laidMet Tryz.prog laidL W:=h
 obtain⟨ps,hv,_⟩:=h'
 obtain⟨a6,q6,hv⟩:=laid_one (c:=.ints .u8 [128,191,160,191,128,159,144,191,128,143,0,0,0,0,0,0,0,0,0,0,0,0,0,0,0,0,0,0,0,0,0,0]) (g:=2) (n:=100) (t:=145) (s:=.st (List.replicate 16 (.st [.int .u8,.int .u8]))) (by kernel_rfl) (by kernel_rfl) (by kernel_rfl) hv (cont_ints (by kernel_rfl))
 obtain⟨a5,q5,hv⟩:=laid_one (c:=.ints .u8 (Pinned.utf8FirstZ.map Int.ofNat)) (g:=1) (n:=100) (t:=142) (s:=.st (List.replicate 256 (.int .u8))) (by kernel_rfl) (by kernel_rfl) (by kernel_rfl) hv (cont_ints (by kernel_rfl))
 intro g c hg
 change gl g=some c at hg
 unfold gl at hg
 split at hg
 ·cases hg;exact a5
 ·cases hg;exact a6
 ·cases hg
/-- A world that holds the variables. -/
def putTab (k:IntKind)(zs:List Int):Obj→Obj
 |.cells _ t frozen=>.cells (zs.map fun z=>Value.int k z).toArray t frozen
 |o=>o
def tabs (h:Array Obj):Array Obj:=
 (h.modify 1 (putTab .u8 (Pinned.utf8FirstZ.map Int.ofNat))).modify 2 (putTab .u8 [128,191,160,191,128,159,144,191,128,143,0,0,0,0,0,0,0,0,0,0,0,0,0,0,0,0,0,0,0,0,0,0])
noncomputable def laidWorld (os:Os):World:=
 {World.holding Tryz.prog os ⟨#[],#[],[]⟩with heap:=tabs (World.holding Tryz.prog os ⟨#[],#[],[]⟩).heap}
theorem laid_met0 (os:Os):laidMetH Tryz.prog laidL ((laidWorld os).forCall (fun _ _=>0) ⟨#[],#[],[]⟩).memory:=laidMet_of_run' 8 (by kernel_rfl) (by kernel_rfl)
/-- A fan as plain data; a fan; numbers. -/
def shF:Sh:=.st [.int .u8,.int .u8,.sl (.int .u8)]
theorem shp24:shp Tryz.prog 100 24=some shF:=by kernel_rfl
theorem conf_F {H:Type}{d:DataW H}(h:Conf shF d):∃c l ks,argV noHd shF d=fV c l ks∧okK ks:=by
 obtain⟨ds,rfl,d1,r1,rfl,⟨c,rfl,_⟩,d2,r2,rfl,⟨l,rfl,_⟩,d3,r3,rfl,h3,rfl⟩:=h
 obtain⟨ks,e,hk⟩:=conf_ints h3
 refine⟨c,l,ks,?_,fun x hx=>wf_u8 (hk x hx)⟩
 show AV.agg ([AV.int .u8 c]++([AV.int .u8 l]++(flat noHd (.sl (.int .u8)) d3++[])))=_
 rw[e];rfl
end Go.Proofs.YthiammkiobbclaaGreatDoor.X
