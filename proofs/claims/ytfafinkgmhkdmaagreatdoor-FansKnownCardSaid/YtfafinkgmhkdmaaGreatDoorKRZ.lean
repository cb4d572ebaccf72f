/-
 What the rows of this seat share: the variables that are laid, fans among the arguments.
-/
import Derived.Test.YtfafinkgmhkdmaaGreatDoorCards
import Derived.Test.YtfafinkgmhkdmaaGreatDoorTie
import Derived.Test.YtfafinkgmhkdmaaGreatDoorVDZ
import Derived.Test.YtfafinkgmhkdmaaGreatDoorAb5
import Derived.WalkKit
import Derived.ProofKit
import Derived.OpenShut
import Derived.Deep.DeepHandedRow
import Derived.Deep.DeepWitnessRowRef
import Derived.Lib.SmallJoins
import Derived.LaidMore
set_option maxRecDepth 1000000
set_option linter.unusedVariables false
namespace Go.Proofs.YtfafinkgmhkdmaaGreatDoor.X
open Go Go.Ab Go.ChangeShapes Go.WideShapes Go.ChangeAt Go.RowKit
theorem own:ownKnob Tryz.prog.godebug=none:=by kernel_rfl
theorem C0i:laidOutB Tryz.prog=true:=by kernel_rfl
def shQ:Sh:=.st (List.replicate 4 (.st [.st [.int .i64,.int .i64],.int .u8,.int .i64,.st (List.replicate 3 (.st [.int .i64,.int .i64,.int .u8])),.st [.int .i64,.int .i64],.st [.int .i64,.int .i64]]))
def C0j:List (String×DataW Unit):=[("math/bits.deBruijn32tab",Rows.laid_math_bits_deBruijn32tab),("math/bits.deBruijn64tab",Rows.laid_math_bits_deBruijn64tab),("internal/strconv.uint64pow10",Rows.laid_internal_strconv_uint64pow10),("unicode/utf8.acceptRanges",Rows.laid_unicode_utf8_acceptRanges),("crimp/cells.quarters",Rows.laid_crimp_cells_quarters),("crimp/corners.ways",Rows.laid_crimp_corners_ways),("crimp/fans.rays",Rows.laid_crimp_fans_rays),("unicode/utf8.first",Rows.laid_unicode_utf8_first)]
theorem C3q {W:World}(h:laidMetH Tryz.prog C0j W):GlobOk G (fun b=>b<W.heap.size) W:=by
 have h':laidMet Tryz.prog C0j W:=h;obtain⟨ps,hv,_⟩:=h';obtain⟨a5,q5,hv⟩:=A20 (c:=.ints .u8 [0,1,28,2,29,14,24,3,30,22,20,15,25,17,4,8,31,27,13,23,21,19,16,7,26,12,18,6,11,5,10,9]) (g:=5) (n:=100) (t:=212) (s:=.st (List.replicate 32 (.int .u8))) (by kernel_rfl) (by kernel_rfl) (by kernel_rfl) hv (A3p (by kernel_rfl));obtain⟨a6,q6,hv⟩:=A20 (c:=.ints .u8 [0,1,56,2,57,49,28,3,61,58,42,50,38,29,17,4,62,47,59,36,45,43,51,22,53,39,33,30,24,18,12,5,63,55,48,27,60,41,37,16,46,35,44,21,52,32,23,11,54,26,40,15,34,20,31,10,25,14,19,9,13,8,7,6]) (g:=6) (n:=100) (t:=213) (s:=.st (List.replicate 64 (.int .u8))) (by kernel_rfl) (by kernel_rfl) (by kernel_rfl) hv (A3p (by kernel_rfl));obtain⟨a3,q3,hv⟩:=A20 (c:=.ints .u64 [1,10,100,1000,10000,100000,1000000,10000000,100000000,1000000000,10000000000,100000000000,1000000000000,10000000000000,100000000000000,1000000000000000,10000000000000000,100000000000000000,1000000000000000000,10000000000000000000]) (g:=3) (n:=100) (t:=207) (s:=.st (List.replicate 20 (.int .u64))) (by kernel_rfl) (by kernel_rfl) (by kernel_rfl) hv (A3p (by kernel_rfl));obtain⟨a8,q8,hv⟩:=A20 (c:=.ints .u8 [128,191,160,191,128,159,144,191,128,143,0,0,0,0,0,0,0,0,0,0,0,0,0,0,0,0,0,0,0,0,0,0]) (g:=8) (n:=100) (t:=217) (s:=.st (List.replicate 16 (.st [.int .u8,.int .u8]))) (by kernel_rfl) (by kernel_rfl) (by kernel_rfl) hv (A3p (by kernel_rfl));have hq:A44 C1E shQ (Rows.laid_crimp_cells_quarters:DataW Unit)=(match B7F with|.vals l=>l|_=>[]):=by kernel_rfl
 obtain⟨a2,q2,hv⟩:=A20 (c:=B7F) (g:=2) (n:=100) (t:=157) (s:=shQ) (by kernel_rfl) (by kernel_rfl) (by kernel_rfl) hv (by rw[hq];exact B0j);obtain⟨a1,q1,hv⟩:=A20 (c:=.ints .i64 [1,0,1,1,0,1,-1,1,-1,0,-1,-1,0,-1,1,-1]) (g:=1) (n:=100) (t:=152) (s:=.st (List.replicate 8 (.st [.int .i64,.int .i64]))) (by kernel_rfl) (by kernel_rfl) (by kernel_rfl) hv (A3p (by kernel_rfl));have hr:A44 C1E (.st (List.replicate 8 (.sl (.st [.int .i64,.int .u8,.int .u8])))) (Rows.laid_crimp_fans_rays:DataW Unit)=[crL [(6,0,0)],crL [(12,2,0),(13,2,0)],crL [(9,0,0)],crL [(8,1,0),(10,1,0)],crL [(2,0,0)],crL [(0,2,0),(1,2,0)],crL [(1,0,0)],crL [(4,1,0),(6,1,0)]]:=by kernel_rfl
 obtain⟨a0,q0,hv⟩:=A20 (c:=C3o) (g:=0) (n:=100) (t:=60) (s:=.st (List.replicate 8 (.sl (.st [.int .i64,.int .u8,.int .u8])))) (by kernel_rfl) (by kernel_rfl) (by kernel_rfl) hv (by rw[hr];exact B0j);intro g c hg
 change gl g=some c at hg
 unfold gl at hg;split at hg
 ·cases hg;exact a3
 ·cases hg;exact a5
 ·cases hg;exact a6
 ·cases hg;exact a0
 ·cases hg;exact a1
 ·cases hg;exact a2
 ·cases hg
def C3r (k:IntKind)(zs:List Int):Obj->Obj
 |.cells _ t frozen=>.cells (zs.map fun z=>Value.int k z).toArray t frozen
 |o=>o
noncomputable def A3A (os:Os):World:=
 {World.doorLaid Tryz.prog 4000 os with heap:=(World.doorLaid Tryz.prog 4000 os).heap.modify 7 (C3r .u8 (Pinned.utf8FirstZ.map Int.ofNat))}
theorem B5A (os:Os):laidMetH Tryz.prog C0j ((A3A os).forCall (fun _ _=>0) ⟨#[],#[],[]⟩).memory:=laidMet_of_run' 8 (by kernel_rfl) (by kernel_rfl)
end Go.Proofs.YtfafinkgmhkdmaaGreatDoor.X
