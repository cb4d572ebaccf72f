/-
 What the rows of this seat share: the variables that are laid, sets among the arguments.
-/
import Derived.Test.YtmnaghfndigfkaaDoorCards
import Derived.Test.YtmnaghfndigfkaaDoorTie
import Derived.Test.YtmnaghfndigfkaaDoorDDZ
import Derived.Test.YtmnaghfndigfkaaDoorAb6
import Derived.WalkKit
import Derived.ProofKit
import Derived.OpenShut
import Derived.Deep.DeepHandedRow
import Derived.Deep.DeepWitnessRowRef
import Derived.Lib.SmallJoins
import Derived.LaidMore
set_option maxRecDepth 1000000
set_option linter.unusedVariables false
namespace Go.Proofs.YtmnaghfndigfkaaDoor.X
open Go Go.Ab Go.ChangeShapes Go.WideShapes Go.ChangeAt Go.RowKit

theorem own:ownKnob Tryd.prog.godebug=none:=by kernel_rfl
theorem laidOut:laidOutB Tryd.prog=true:=by kernel_rfl
def laidL:List (String×DataW Unit):=[("crimp/moves.turns",Rows.laid_crimp_moves_turns),("crimp/cells.quarters",Rows.laid_crimp_cells_quarters)]
def shPt:Sh:=.st [.int .i64,.int .i64]
def shCell:Sh:=.st [.int .i64,.int .i64,.int .u8]
def shQ:Sh:=.st (List.replicate 4 (.st [shPt,.int .u8,.int .i64,.st (List.replicate 3 shCell),shPt,shPt]))
def shTu:Sh:=.st (List.replicate 8 (.st (List.replicate 4 (.int .i64))))
/-- What the rows' lists give. -/
theorem globs {W:World}(h:laidMetH Tryd.prog laidL W):GlobOk G (fun b=>b<W.heap.size) W:=by
 have h':laidMet Tryd.prog laidL W:=h
 obtain⟨ps,hv,_⟩:=h'
 have hr:flat noHd shQ (Rows.laid_crimp_cells_quarters:DataW Unit)=(match quarC with|.vals l=>l|_=>[]):=by kernel_rfl
 obtain⟨a0,q0,hv⟩:=laid_one (c:=.ints .i64 [1,0,0,1,0,-1,1,0,-1,0,0,-1,0,1,-1,0,-1,0,0,1,0,-1,-1,0,1,0,0,-1,0,1,1,0]) (g:=0) (n:=100) (t:=159) (s:=shTu) (by kernel_rfl) (by kernel_rfl) (by kernel_rfl) hv (cont_ints (by kernel_rfl))
 obtain⟨a1,q1,hv⟩:=laid_one (c:=quarC) (g:=1) (n:=100) (t:=190) (s:=shQ) (by kernel_rfl) (by kernel_rfl) (by kernel_rfl) hv (by rw[hr];exact cont_vals)
 intro g c hg
 change gl g=some c at hg
 unfold gl at hg
 split at hg
 ·cases hg;exact a0
 ·cases hg;exact a1
 ·cases hg
/-- A world that holds the variables. -/
noncomputable def laidWorld (os:Os):World:=World.doorLaid Tryd.prog 4000 os
theorem laid_met0 (os:Os):laidMetH Tryd.prog laidL ((laidWorld os).forCall (fun _ _=>0) ⟨#[],#[],[]⟩).memory:=laidMet_of_run' 8 (by kernel_rfl) (by kernel_rfl)
end Go.Proofs.YtmnaghfndigfkaaDoor.X
