/-
 What the rows of this seat share: the variables that are laid, patterns among the arguments.
-/
import Derived.Test.YtfpcbimohikhmaaDoorCards
import Derived.Test.YtfpcbimohikhmaaDoorTie
import Derived.Test.YtfpcbimohikhmaaDoorQD5Z
import Derived.Test.YtfpcbimohikhmaaDoorAb5
import Derived.WalkKit
import Derived.ProofKit
import Derived.OpenShut
import Derived.Deep.DeepHandedRow
import Derived.Deep.DeepWitnessRowRef
import Derived.Lib.SmallJoins
import Derived.LaidMore

set_option maxRecDepth 1000000
set_option linter.unusedVariables false
namespace Go.Proofs.YtfpcbimohikhmaaDoor.X
open Go Go.Ab Go.ChangeShapes Go.WideShapes Go.ChangeAt Go.RowKit

theorem own:ownKnob Tryd.prog.godebug=none:=by kernel_rfl
theorem laidOut:laidOutB Tryd.prog=true:=by kernel_rfl
def laidL:List (String×DataW Unit):=[("crimp/cells.quarters",Rows.laid_crimp_cells_quarters)]
def shPt:Sh:=.st [.int .i64,.int .i64]
def shCell:Sh:=.st [.int .i64,.int .i64,.int .u8]
def shQ:Sh:=.st (List.replicate 4 (.st [shPt,.int .u8,.int .i64,.st (List.replicate 3 shCell),shPt,shPt]))
/-- What the rows' lists give. -/
theorem globs {W:World}(h:laidMetH Tryd.prog laidL W):GlobOk G (fun b=>b<W.heap.size) W:=by
 have h':laidMet Tryd.prog laidL W:=h
 obtain⟨ps,hv,_⟩:=h'
 have hr:flat noHd shQ (Rows.laid_crimp_cells_quarters:DataW Unit)=(match quarC with|.vals l=>l|_=>[]):=by kernel_rfl
 obtain⟨a1,q1,hv⟩:=laid_one (c:=quarC) (g:=1) (n:=100) (t:=173) (s:=shQ) (by kernel_rfl) (by kernel_rfl) (by kernel_rfl) hv (by rw[hr];exact cont_vals)
 intro g c hg
 change gl g=some c at hg
 unfold gl at hg
 split at hg
 ·cases hg;exact a1
 ·cases hg
/-- A world that holds the variables. -/
noncomputable def laidWorld (os:Os):World:=World.doorLaid Tryd.prog 4000 os
theorem laid_met0 (os:Os):laidMetH Tryd.prog laidL ((laidWorld os).forCall (fun _ _=>0) ⟨#[],#[],[]⟩).memory:=laidMet_of_run' 8 (by kernel_rfl) (by kernel_rfl)
end Go.Proofs.YtfpcbimohikhmaaDoor.X

/-
 Patterns among the arguments, as they are.
-/
set_option maxRecDepth 1000000
set_option linter.unusedVariables false
namespace Go.Proofs.YtfpcbimohikhmaaDoor.X
open Go Go.Ab Go.ChangeShapes Go.WideShapes Go.ChangeAt Go.RowKit

def shCr:Sh:=.st [.int .i64,.int .u8,.int .u8]
def shP5:Sh:=.st [.st [.int .i64,.int .i64],.sl shCr]
theorem shp30:shp Tryd.prog 100 30=some shP5:=by kernel_rfl
theorem conf_crs {H:Type}:∀{es:List (DataW H)},(∀x∈es,Conf shCr x)→∃l:List Cr,l.length=es.length∧es.flatMap (flat noHd shCr)=flatC l∧edg l
 |[],_=>⟨[],rfl,rfl,fun x hx=>by simp at hx⟩
 |d::es,h=>by
  obtain⟨l,h1,h2,h3⟩:=conf_crs (es:=es) fun x hx=>h x (by simp[hx])
  obtain⟨ds,e0,d1,r1,e1,⟨c,e2,h4⟩,d2,r2,e3,⟨e,e4,h5⟩,d3,r3,e5,⟨k,e6,h6⟩,e7⟩:=h d (by simp)
  subst e7 e6 e5 e4 e3 e2 e1 e0
  refine⟨(c,e,k)::l,by simp[h1],?_,fun x hx=>?_⟩
  ·rw[List.flatMap_cons,h2];rfl
  ·rcases List.mem_cons.1 hx with rfl|hx
   ·exact wf_u8 h5
   ·exact h3 x hx
theorem conf_P5 {H:Type}{d:DataW H}(h:Conf shP5 d):∃w h l,argV noHd shP5 d=patV w h l∧edg l:=by
 obtain⟨ds,rfl,d1,r1,rfl,⟨es,rfl,d2,r2,rfl,⟨w,rfl,h1⟩,d3,r3,rfl,⟨h,rfl,h2⟩,rfl⟩,d4,r4,rfl,h3,rfl⟩:=h
 rcases h3 with rfl|⟨es,sp,rfl,_,h3⟩
 ·exact⟨w,h,[],rfl,fun x hx=>by simp at hx⟩
 ·obtain⟨l,l1,l2,l3⟩:=conf_crs h3
  refine⟨w,h,l,?_,l3⟩
  have:flat noHd (.sl shCr) (DataW.slice es sp)=[.imm (.vals (flatC l)) l.length none]:=by
   rw[← l2,l1];rfl
  show AV.agg ([AV.int .i64 w,AV.int .i64 h]++(flat noHd (.sl shCr) (DataW.slice es sp)++[]))=_
  rw[this];rfl
end Go.Proofs.YtfpcbimohikhmaaDoor.X
