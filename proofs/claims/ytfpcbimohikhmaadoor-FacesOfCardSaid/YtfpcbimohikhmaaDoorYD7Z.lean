/-
 What the functions that turn a pattern over compute; the ends of a unit; the reference's back side.
-/
import Derived.Test.YtfpcbimohikhmaaDoorD5Z
import Derived.Test.YtfpcbimohikhmaaDoorPFZ
import Derived.KernelRfl
import Derived.Test.YtfpcbimohikhmaaDoorC8Z
import Derived.Test.YtfpcbimohikhmaaDoorYC7Z
import Derived.Test.YtfpcbimohikhmaaDoorD7Z
import Derived.Test.YtfpcbimohikhmaaDoorYD6Z
set_option maxRecDepth 1000000
set_option linter.unusedVariables false
namespace Go.Proofs.YtfpcbimohikhmaaDoor.X
open Go Go.Ab

/-! ### Sorting creases -/
noncomputable def Gs:GL:={g:=fun _=>none,cm:=cmOf Tryd.prog,strong:=True}
def bndC (x:Cr):Prop:= -1000000≤x.1∧x.1≤1000000∧0≤x.2.1∧x.2.1≤2
instance (x:Cr):Decidable (bndC x):=by unfold bndC;infer_instance
abbrev Cb:Type:={x:Cr // bndC x}
instance:Inhabited Cb:=⟨⟨(0,0,0),by decide⟩⟩
/-! ### The back side -/
structure L24 where (i:Int)(l:List AV)
structure L2b where (c e:Int)
/-! ### Ends of a unit -/
def shB (x y q e m:Int):Bool:=crX x q (m/3)==crX (nbX x q e) (nbQ q e) (m%3)&&crY y q (m/3)==crY (nbY y q e) (nbQ q e) (m%3)
structure L3b where (x y q:Int)
/-! ### The reference's back side -/
end Go.Proofs.YtfpcbimohikhmaaDoor.X

/-
 Mirror images of units of small sheets, by the kernel.
-/
set_option maxRecDepth 1000000
set_option linter.unusedVariables false
namespace Go.Proofs.YtfpcbimohikhmaaDoor.X
open Go Go.Ab

end Go.Proofs.YtfpcbimohikhmaaDoor.X
/-
 What is to be shown of the functions (made by a program).
-/
set_option maxRecDepth 1000000
set_option linter.unusedVariables false
namespace Go.Proofs.YtfpcbimohikhmaaDoor.X
open Go Go.Ab

end Go.Proofs.YtfpcbimohikhmaaDoor.X
/-
 Sorting creases: the library's contract, laid (by the kit's own command), under the closure's contract.
-/
set_option maxRecDepth 1000000
set_option linter.unusedVariables false
set_option linter.unusedSimpArgs false
namespace Go.Proofs.YtfpcbimohikhmaaDoor.X
open Go Go.Ab Go.Shelf Go.Proofs

theorem hcs:Gs.cm=cmOf Tryd.prog:=rfl
end Go.Proofs.YtfpcbimohikhmaaDoor.X
/-
 What is to be shown of the functions (made by a program).
-/
set_option maxRecDepth 1000000
set_option linter.unusedVariables false
namespace Go.Proofs.YtfpcbimohikhmaaDoor.X
open Go Go.Ab

end Go.Proofs.YtfpcbimohikhmaaDoor.X
/-
 The contracts of the back side of a pattern, of the ends of a unit, of the reference's back side.
-/
set_option maxRecDepth 1000000
set_option linter.unusedVariables false
set_option linter.unusedSimpArgs false
namespace Go.Proofs.YtfpcbimohikhmaaDoor.X
open Go Go.Ab

end Go.Proofs.YtfpcbimohikhmaaDoor.X
/-
 The contracts of the ends of a unit, of the reference's back side.
-/
set_option maxRecDepth 1000000
set_option linter.unusedVariables false
set_option linter.unusedSimpArgs false
namespace Go.Proofs.YtfpcbimohikhmaaDoor.X
open Go Go.Ab

end Go.Proofs.YtfpcbimohikhmaaDoor.X
/-
 The contract of the reference's back side.
-/
set_option maxRecDepth 1000000
set_option linter.unusedVariables false
set_option linter.unusedSimpArgs false
namespace Go.Proofs.YtfpcbimohikhmaaDoor.X
open Go Go.Ab

end Go.Proofs.YtfpcbimohikhmaaDoor.X
/-
 The plain law of patterns: the back side.
-/
set_option maxRecDepth 1000000
set_option linter.unusedVariables false
set_option linter.unusedSimpArgs false
namespace Go.Proofs.YtfpcbimohikhmaaDoor.X
open Go Go.Ab
/-! ### The back side -/
end Go.Proofs.YtfpcbimohikhmaaDoor.X
/-
 Faces, plainly: the back side; each number is some cell's; sums.
-/
set_option maxRecDepth 1000000
set_option linter.unusedVariables false
set_option linter.unusedSimpArgs false
namespace Go.Proofs.YtfpcbimohikhmaaDoor.X
open Go Go.Ab

/-! ### The back side -/
theorem crB_op (l:List Cr)(c:Int):crB (opL l) c=crB l c:=by
 unfold crB opL
 rw[List.any_map];rfl
theorem facL_op (w h:Int)(l:List Cr):facL w h (opL l)=facL w h l:=by
 have:opnU w h (opL l)=opnU w h l:=by
  unfold opnU
  exact List.filter_congr fun c _=>by rw[crB_op]
 unfold facL repP prs
 rw[this]
/-! ### Each number is some cell's -/
theorem fac_max {w h:Int}(l:List Cr)(hs:s5 w h):0≤maxL (facL w h l)∧maxL (facL w h l)<nC w h∧∀x∈facL w h l,x≤maxL (facL w h l):=by
 have hl:=facL_len hs l
 obtain⟨n100,n4⟩:=nC_le hs
 have hm:=facL_le hs l _ (maxL_mem (l:=facL w h l) (fun e=>by rw[e]at hl;simp at hl;omega))
 exact⟨hm.1,hm.2,fun x hx=>le_maxL hx⟩
theorem mem_celL {F:List Int}{f:Int}{x:Int}:x∈celL F f↔∃i:Nat,i<F.length∧gI F i=f∧x=i:=by
 unfold celL celP
 rw[List.mem_map]
 constructor
 ·rintro⟨i,h1,rfl⟩
  obtain⟨h1,h2⟩:=List.mem_filter.1 h1
  exact⟨i,List.mem_range.1 h1,by simpa using h2,rfl⟩
 ·rintro⟨i,h1,h2,rfl⟩
  exact⟨i,List.mem_filter.2 ⟨List.mem_range.2 h1,by simpa using h2⟩,rfl⟩
/-! ### The units of the joints -/
end Go.Proofs.YtfpcbimohikhmaaDoor.X
/-
 The law on the back side: contracts of valid patterns, the loop.
-/
set_option maxRecDepth 1000000
set_option linter.unusedVariables false
set_option linter.unusedSimpArgs false
namespace Go.Proofs.YtfpcbimohikhmaaDoor.X
open Go Go.Ab
def e25v:CtE
 |[.agg [.int .i64 w,.int .i64 h,.imm (.vals a) n _]]=>some ⟨.tup [.agg [.int .i64 w,.int .i64 h,.full 0 (opL (unC a)).length],.int .i64 0],[blkR (opL (unC a))],some (s4 w h∧okV w h a n)⟩
 |_=>none
def l4 (l:List Cr):LpS L1 where
 ov c:=[(8,.int .i64 c.i)]
 bk c:=[]
 rd S:=match aget S.t 8 with
  |some (.int _ i)=>some ⟨i⟩
  |_=>none
 pre c:=∃n:Nat,c.i=n∧n≤l.length
 mu c:=l.length-c.i.toNat
end Go.Proofs.YtfpcbimohikhmaaDoor.X
/-
 The laws on faces: contracts, loops.
-/
set_option maxRecDepth 1000000
set_option linter.unusedVariables false
namespace Go.Proofs.YtfpcbimohikhmaaDoor.X
open Go Go.Ab

def e40:CtE
 |[]=>some ⟨.bool true,[],none⟩
 |_=>none
/-- Greatest numbers so far, and one. -/
def mxP (F:List Int)(n:Nat):Int:=(F.take n).foldl (fun m x=>if x+1>m then x+1 else m) 0
noncomputable def T12:Tab:=tabL [(14,e14),(49,e49v),(43,e43v),(45,e45),(25,e25v),(48,e48t),(40,e40)] noCh
def l12 (F:List Int):LpS (Int×Int) where
 ov b:=[(10,.int .i64 b.1),(9,.int .i64 b.2)]
 bk b:=[]
 rd S:=match aget S.t 10,aget S.t 9 with
  |some (.int _ i),some (.int _ m)=>some (i,m)
  |_,_=>none
 pre b:=∃n:Nat,b.1=n∧n≤F.length∧b.2=mxP F n
 mu b:=F.length-b.1.toNat
/-! ### Sizes -/
/-! ### Graph -/
structure L9 where (i s:Int)(b:Bool)
end Go.Proofs.YtfpcbimohikhmaaDoor.X
