/-
 What the rows of this seat share: the variables that are laid, fans among the arguments.
-/
import Derived.Test.YthiammkiobbclaaGreatDoorCards
import Derived.Test.YthiammkiobbclaaGreatDoorTie
import Derived.Test.YthiammkiobbclaaGreatDoorDZ
import Derived.WalkKit
import Derived.ProofKit
import Derived.OpenShut
import Derived.Deep.DeepHandedRow
import Derived.Lib.SmallJoins
import Derived.LaidMore
set_option maxRecDepth 1000000
set_option linter.unusedVariables false
namespace Go.Proofs.YthiammkiobbclaaGreatDoor.X
open Go Go.Ab Go.ChangeShapes Go.WideShapes Go.ChangeAt Go.RowKit
theorem own:ownKnob Tryz.prog.godebug=none:=by kernel_rfl
theorem C1R:laidOutB Tryz.prog=true:=by kernel_rfl
def C1S:List (String×DataW Unit):=[("unicode/utf8.acceptRanges",Rows.laid_unicode_utf8_acceptRanges),("unicode/utf8.first",Rows.laid_unicode_utf8_first)]
theorem C9G {W:World}(h:laidMetH Tryz.prog C1S W):GlobOk G (fun b=>b<W.heap.size) W:=by
 have h':laidMet Tryz.prog C1S W:=h;obtain⟨ps,hv,_⟩:=h';obtain⟨a6,q6,hv⟩:=B3P (c:=.ints .u8 [128,191,160,191,128,159,144,191,128,143,0,0,0,0,0,0,0,0,0,0,0,0,0,0,0,0,0,0,0,0,0,0]) (g:=2) (n:=100) (t:=145) (s:=.st (List.replicate 16 (.st [.int .u8,.int .u8]))) (by kernel_rfl) (by kernel_rfl) (by kernel_rfl) hv (B1g (by kernel_rfl));obtain⟨a5,q5,hv⟩:=B3P (c:=.ints .u8 (Pinned.utf8FirstZ.map Int.ofNat)) (g:=1) (n:=100) (t:=142) (s:=.st (List.replicate 256 (.int .u8))) (by kernel_rfl) (by kernel_rfl) (by kernel_rfl) hv (B1g (by kernel_rfl));intro g c hg
 change gl g=some c at hg
 unfold gl at hg;split at hg
 ·cases hg;exact a5
 ·cases hg;exact a6
 ·cases hg
def C0t (k:IntKind)(zs:List Int):Obj->Obj
 |.cells _ t frozen=>.cells (zs.map fun z=>Value.int k z).toArray t frozen
 |o=>o
def D5N (h:Array Obj):Array Obj:=
 (h.modify 1 (C0t .u8 (Pinned.utf8FirstZ.map Int.ofNat))).modify 2 (C0t .u8 [128,191,160,191,128,159,144,191,128,143,0,0,0,0,0,0,0,0,0,0,0,0,0,0,0,0,0,0,0,0,0,0])
noncomputable def A4W (os:Os):World:=
 {World.holding Tryz.prog os ⟨#[],#[],[]⟩with heap:=D5N (World.holding Tryz.prog os ⟨#[],#[],[]⟩).heap}
theorem B6Z (os:Os):laidMetH Tryz.prog C1S ((A4W os).forCall (fun _ _=>0) ⟨#[],#[],[]⟩).memory:=laidMet_of_run' 8 (by kernel_rfl) (by kernel_rfl)
end Go.Proofs.YthiammkiobbclaaGreatDoor.X
