/-
 What the rows of this seat share: the variables that are laid, patterns among the arguments.
-/
import Derived.Test.YtfpcbimohikhmaaDoorCards
import Derived.Test.YtfpcbimohikhmaaDoorTie
import Derived.Test.YtfpcbimohikhmaaDoorQD5Z
import Derived.Test.YtfpcbimohikhmaaDoorAb5
import Derived.WalkKit
import Derived.ProofKit
import Derived.OpenShut
import Derived.Deep.DeepHandedRow
import Derived.Deep.DeepWitnessRowRef
import Derived.Lib.SmallJoins
import Derived.LaidMore

set_option maxRecDepth 1000000
set_option linter.unusedVariables false
namespace Go.Proofs.YtfpcbimohikhmaaDoor.X
open Go Go.Ab Go.ChangeShapes Go.WideShapes Go.ChangeAt Go.RowKit

theorem own:ownKnob Tryd.prog.godebug=none:=by kernel_rfl
theorem laidOut:laidOutB Tryd.prog=true:=by kernel_rfl
def laidL:List (String×DataW Unit):=[("crimp/cells.quarters",Rows.laid_crimp_cells_quarters)]
def shPt:Sh:=.st [.int .i64,.int .i64]
def shCell:Sh:=.st [.int .i64,.int .i64,.int .u8]
def shQ:Sh:=.st (List.replicate 4 (.st [shPt,.int .u8,.int .i64,.st (List.replicate 3 shCell),shPt,shPt]))
/-- What the rows' lists give. -/
theorem globs {W:World}(h:laidMetH Tryd.prog laidL W):GlobOk G (fun b=>b<W.heap.size) W:=by
 have h':laidMet Tryd.prog laidL W:=h
 obtain⟨ps,hv,_⟩:=h'
 have hr:flat noHd shQ (Rows.laid_crimp_cells_quarters:DataW Unit)=(match quarC with|.vals l=>l|_=>[]):=by kernel_rfl
 obtain⟨a1,q1,hv⟩:=laid_one (c:=quarC) (g:=1) (n:=100) (t:=173) (s:=shQ) (by kernel_rfl) (by kernel_rfl) (by kernel_rfl) hv (by rw[hr];exact cont_vals)
 intro g c hg
 change gl g=some c at hg
 unfold gl at hg
 split at hg
 ·cases hg;exact a1
 ·cases hg
/-- A world that holds the variables. -/
noncomputable def laidWorld (os:Os):World:=World.doorLaid Tryd.prog 4000 os
theorem laid_met0 (os:Os):laidMetH Tryd.prog laidL ((laidWorld os).forCall (fun _ _=>0) ⟨#[],#[],[]⟩).memory:=laidMet_of_run' 8 (by kernel_rfl) (by kernel_rfl)
end Go.Proofs.YtfpcbimohikhmaaDoor.X

/-
 Sheets and lists of bytes among the arguments.
-/
set_option maxRecDepth 1000000
set_option linter.unusedVariables false
namespace Go.Proofs.YtfpcbimohikhmaaDoor.X
open Go Go.Ab Go.ChangeShapes Go.WideShapes Go.ChangeAt Go.RowKit

def shW:Sh:=.st [.int .u8,.int .u8]
theorem shp65:shp Tryd.prog 100 65=some shW:=by kernel_rfl
theorem conf_W {H:Type}{d:DataW H}(h:Conf shW d):∃a b,argV noHd shW d=.agg [.int .u8 a,.int .u8 b]∧((0≤a∧a≤255)∧(0≤b∧b≤255)):=by
 obtain⟨ds,rfl,d1,r1,rfl,⟨c,rfl,h1⟩,d2,r2,rfl,⟨l,rfl,h2⟩,rfl⟩:=h
 exact⟨c,l,rfl,wf_u8 h1,wf_u8 h2⟩
theorem shp22:shp Tryd.prog 100 22=some (.sl (.int .u8)):=by kernel_rfl
theorem conf_bs {H:Type}{d:DataW H}(h:Conf (.sl (.int .u8)) d):∃ys,argV noHd (.sl (.int .u8)) d=.imm (.ints .u8 ys) ys.length none∧u8s ys:=by
 obtain⟨ys,e,hy⟩:=conf_ints h
 refine⟨ys,?_,fun x hx=>wf_u8 (hy x hx)⟩
 show(flat noHd (.sl (.int .u8)) d).getD 0 .undef=_
 rw[e];rfl
end Go.Proofs.YtfpcbimohikhmaaDoor.X
