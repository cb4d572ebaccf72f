/-
 What the functions that turn a pattern over compute; the ends of a unit; the reference's back side.
-/
import Derived.Test.YtfpcbimohikhmaaDoorQD5Z
import Derived.Test.YtfpcbimohikhmaaDoorQPFZ
import Derived.KernelRfl
import Derived.Test.YtfpcbimohikhmaaDoorQC8Z
import Derived.Test.YtfpcbimohikhmaaDoorQYC7Z
import Derived.Test.YtfpcbimohikhmaaDoorQD7Z
import Derived.Test.YtfpcbimohikhmaaDoorQYD6Z
set_option maxRecDepth 1000000
set_option linter.unusedVariables false
namespace Go.Proofs.YtfpcbimohikhmaaDoor.X
open Go Go.Ab

/-! ### Sorting creases -/
def bndC (x:Cr):Prop:= -1000000≤x.1∧x.1≤1000000∧0≤x.2.1∧x.2.1≤2
instance (x:Cr):Decidable (bndC x):=by unfold bndC;infer_instance
abbrev Cb:Type:={x:Cr // bndC x}
instance:Inhabited Cb:=⟨⟨(0,0,0),by decide⟩⟩
/-! ### The back side -/
structure L24 where (i:Int)(l:List AV)
structure L2b where (c e:Int)
/-! ### Ends of a unit -/
structure L3b where (x y q:Int)
/-! ### The reference's back side -/
end Go.Proofs.YtfpcbimohikhmaaDoor.X

/-
 Mirror images of units of small sheets, by the kernel.
-/
set_option maxRecDepth 1000000
set_option linter.unusedVariables false
namespace Go.Proofs.YtfpcbimohikhmaaDoor.X
open Go Go.Ab

end Go.Proofs.YtfpcbimohikhmaaDoor.X
/-
 What is to be shown of the functions (made by a program).
-/
set_option maxRecDepth 1000000
set_option linter.unusedVariables false
namespace Go.Proofs.YtfpcbimohikhmaaDoor.X
open Go Go.Ab

end Go.Proofs.YtfpcbimohikhmaaDoor.X
/-
 Sorting creases: the library's contract, laid (by the kit's own command), under the closure's contract.
-/
set_option maxRecDepth 1000000
set_option linter.unusedVariables false
set_option linter.unusedSimpArgs false
namespace Go.Proofs.YtfpcbimohikhmaaDoor.X
open Go Go.Ab Go.Shelf Go.Proofs

end Go.Proofs.YtfpcbimohikhmaaDoor.X
/-
 What is to be shown of the functions (made by a program).
-/
set_option maxRecDepth 1000000
set_option linter.unusedVariables false
namespace Go.Proofs.YtfpcbimohikhmaaDoor.X
open Go Go.Ab

end Go.Proofs.YtfpcbimohikhmaaDoor.X
/-
 The contracts of the back side of a pattern, of the ends of a unit, of the reference's back side.
-/
set_option maxRecDepth 1000000
set_option linter.unusedVariables false
set_option linter.unusedSimpArgs false
namespace Go.Proofs.YtfpcbimohikhmaaDoor.X
open Go Go.Ab

end Go.Proofs.YtfpcbimohikhmaaDoor.X
/-
 The contracts of the ends of a unit, of the reference's back side.
-/
set_option maxRecDepth 1000000
set_option linter.unusedVariables false
set_option linter.unusedSimpArgs false
namespace Go.Proofs.YtfpcbimohikhmaaDoor.X
open Go Go.Ab

end Go.Proofs.YtfpcbimohikhmaaDoor.X
/-
 The contract of the reference's back side.
-/
set_option maxRecDepth 1000000
set_option linter.unusedVariables false
set_option linter.unusedSimpArgs false
namespace Go.Proofs.YtfpcbimohikhmaaDoor.X
open Go Go.Ab

end Go.Proofs.YtfpcbimohikhmaaDoor.X
/-
 The plain law of patterns: the back side.
-/
set_option maxRecDepth 1000000
set_option linter.unusedVariables false
set_option linter.unusedSimpArgs false
namespace Go.Proofs.YtfpcbimohikhmaaDoor.X
open Go Go.Ab
/-! ### The back side -/
end Go.Proofs.YtfpcbimohikhmaaDoor.X
/-
 Faces, plainly: the back side; each number is some cell's; sums.
-/
set_option maxRecDepth 1000000
set_option linter.unusedVariables false
set_option linter.unusedSimpArgs false
namespace Go.Proofs.YtfpcbimohikhmaaDoor.X
open Go Go.Ab

/-! ### The back side -/
/-! ### Each number is some cell's -/
theorem gI_facL {w h:Int}{l:List Cr}(hs:s5 w h){i:Nat}(hi:i<nC w h):gI (facL w h l) i=kP w h l (rP w h l i):=by
 have hlt:rP w h l i<nC w h:=Nat.lt_of_le_of_lt ((rep_P hs l).inv.le i hi) hi
 rw[← labF_all l hs,gI_labF hi,if_pos hlt]
theorem kP_onto (w h:Int)(l:List Cr):∀(m:Nat) (j:Int),0≤j→j<kP w h l m→∃r,r<m∧rP w h l r=r∧kP w h l r=j
 |0,j,h0,hj=>by simp[kP,rk]at hj;omega
 |m+1,j,h0,hj=>by
  rw[kP_next]at hj
  by_cases hlt:j<kP w h l m
  ·obtain⟨r,h1,h2,h3⟩:=kP_onto w h l m j h0 hlt
   exact⟨r,by omega,h2,h3⟩
  ·by_cases hr:rP w h l m=m
   ·rw[if_pos hr]at hj
    exact⟨m,by omega,hr,by omega⟩
   ·rw[if_neg hr]at hj;omega
theorem fac_onto {w h:Int}(l:List Cr)(hs:s5 w h){j:Int}(h0:0≤j)(hj:j≤maxL (facL w h l)):∃i,i<nC w h∧gI (facL w h l) i=j:=by
 have hl:=facL_len hs l
 obtain⟨n100,n4⟩:=nC_le hs
 have hm:=maxL_mem (l:=facL w h l) (fun e=>by rw[e]at hl;simp at hl;omega)
 obtain⟨i,hi,he⟩:=List.getElem_of_mem hm
 have hi':i<nC w h:=by omega
 have hR:=rep_P hs l
 have hri:rP w h l i<nC w h:=Nat.lt_of_le_of_lt (hR.inv.le i hi') hi'
 have hx:maxL (facL w h l)=kP w h l (rP w h l i):=by rw[← gI_facL hs hi',gI_at hi,he]
 by_cases e:j=maxL (facL w h l)
 ·exact⟨i,hi',by rw[gI_facL hs hi',← hx,e]⟩
 ·obtain⟨r,r1,r2,r3⟩:=kP_onto w h l (rP w h l i) j h0 (by omega)
  exact⟨r,by omega,by rw[gI_facL hs (by omega),r2,r3]⟩
theorem fac_max {w h:Int}(l:List Cr)(hs:s5 w h):0≤maxL (facL w h l)∧maxL (facL w h l)<nC w h∧∀x∈facL w h l,x≤maxL (facL w h l):=by
 have hl:=facL_len hs l
 obtain⟨n100,n4⟩:=nC_le hs
 have hm:=facL_le hs l _ (maxL_mem (l:=facL w h l) (fun e=>by rw[e]at hl;simp at hl;omega))
 exact⟨hm.1,hm.2,fun x hx=>le_maxL hx⟩
theorem mem_celL {F:List Int}{f:Int}{x:Int}:x∈celL F f↔∃i:Nat,i<F.length∧gI F i=f∧x=i:=by
 unfold celL celP
 rw[List.mem_map]
 constructor
 ·rintro⟨i,h1,rfl⟩
  obtain⟨h1,h2⟩:=List.mem_filter.1 h1
  exact⟨i,List.mem_range.1 h1,by simpa using h2,rfl⟩
 ·rintro⟨i,h1,h2,rfl⟩
  exact⟨i,List.mem_filter.2 ⟨List.mem_range.2 h1,by simpa using h2⟩,rfl⟩
theorem celL_ne {w h:Int}(l:List Cr)(hs:s5 w h){j:Int}(h0:0≤j)(hj:j≤maxL (facL w h l)):celL (facL w h l) j≠[]:=by
 obtain⟨i,h1,h2⟩:=fac_onto l hs h0 hj
 intro e
 have:(i:Int)∈celL (facL w h l) j:=mem_celL.2 ⟨i,by rw[facL_len hs];exact h1,h2,rfl⟩
 rw[e]at this;simp at this
theorem celL_no {w h:Int}(l:List Cr)(hs:s5 w h){j:Int}(hj:j<0∨maxL (facL w h l)<j):celL (facL w h l) j=[]:=by
 rw[List.eq_nil_iff_forall_not_mem]
 intro x hx
 obtain⟨i,h1,h2,_⟩:=mem_celL.1 hx
 have hm:gI (facL w h l) i∈facL w h l:=by rw[gI_at h1];exact List.getElem_mem h1
 have a:=(fac_max l hs).2.2 _ hm
 have b:=facL_le hs l _ hm
 omega
theorem range_gI (F:List Int):(List.range F.length).map (gI F)=F:=by
 refine List.ext_getElem (by simp) (fun i h1 h2=>?_)
 rw[List.getElem_map,List.getElem_range,gI_at h2]
theorem celL_count (F:List Int)(f:Int):(celL F f).length=F.count f:=by
 unfold celL celP
 rw[List.length_map,← List.countP_eq_length_filter]
 conv=>rhs;rw[← range_gI F]
 rw[List.count,List.countP_map];rfl
/-- How many cells the faces before one have. -/
def befL (F:List Int)(i:Int):Nat:=F.countP fun x=>decide (x<i)
theorem befL_step (F:List Int)(i:Int):befL F (i+1)=befL F i+F.count i:=by
 unfold befL
 induction F with
 |nil=>rfl
 |cons x r ih=>
  rw[List.countP_cons,List.countP_cons,List.count_cons,ih]
  by_cases h1:x<i
  ·have h2:x<i+1:=by omega
   have h3:¬ x=i:=by omega
   simp[h1,h2,h3];omega
  ·by_cases h3:x=i
   ·subst h3
    have h2:x<x+1:=by omega
    rw[decide_eq_true h2,decide_eq_false (show ¬ x<x by omega),beq_self_eq_true]
    simp;omega
   ·have h2:¬ x<i+1:=by omega
    simp[h1,h2,h3]
theorem befL_zero {F:List Int}(h:∀x∈F,0≤x):befL F 0=0:=by
 unfold befL
 rw[List.countP_eq_zero]
 intro x hx
 have:=h x hx
 simpa using this
theorem befL_all {F:List Int}{k:Int}(h:∀x∈F,x<k):befL F k=F.length:=by
 unfold befL
 rw[List.countP_eq_length]
 intro x hx
 simpa using h x hx
/-! ### The units of the joints -/
end Go.Proofs.YtfpcbimohikhmaaDoor.X
/-
 The law on the back side: contracts of valid patterns, the loop.
-/
set_option maxRecDepth 1000000
set_option linter.unusedVariables false
set_option linter.unusedSimpArgs false
namespace Go.Proofs.YtfpcbimohikhmaaDoor.X
open Go Go.Ab
end Go.Proofs.YtfpcbimohikhmaaDoor.X
/-
 The laws on faces: contracts, loops.
-/
set_option maxRecDepth 1000000
set_option linter.unusedVariables false
namespace Go.Proofs.YtfpcbimohikhmaaDoor.X
open Go Go.Ab

def e40:CtE
 |[]=>some ⟨.bool true,[],none⟩
 |_=>none
/-! ### Sizes -/
def emB (F:List Int)(f:Int):Bool:=(celL F f).isEmpty
def e47c:CtE
 |[.agg [.int .i64 w,.int .i64 h,.imm (.vals a) n _],.int .i64 f]=>some ⟨.tup [.imm (.ints .i64 (celL (facL w h (unC a)) f)) (celL (facL w h (unC a)) f).length (some (celL (facL w h (unC a)) f).length),.int .i64 (bI (emB (facL w h (unC a)) f) 7 0)],[],some (s5 w h∧okV w h a n)⟩
 |_=>none
def e44c:CtE
 |[.agg [.int .i64 w,.int .i64 h,.imm (.vals a) n _],.int .i64 f]=>some ⟨.tup [.bool (!emB (facL w h (unC a)) f&&cvB w (celL (facL w h (unC a)) f)),.int .i64 (bI (emB (facL w h (unC a)) f) 7 0)],[],some (s5 w h∧okV w h a n)⟩
 |_=>none
def T11:Tab:=tabL [(14,e14),(45,e45),(46,e46v),(47,e47c),(48,e48t),(44,e44c),(40,e40)] noCh
def l11 (F:List Int):LpS (Int×Int) where
 ov b:=[(10,.int .i64 b.1),(9,.int .i64 b.2)]
 bk b:=[]
 rd S:=match aget S.t 10,aget S.t 9 with
  |some (.int _ i),some (.int _ m)=>some (i,m)
  |_,_=>none
 pre b:=∃n:Nat,b.1=n∧n≤kF F∧b.2=(befL F n:Nat)
 mu b:=kF F-b.1.toNat
def m11 (F:List Int)(i:Int):LpS LI6 where
 ov b:=[(14,.int .i64 b.i),(13,.full 9001 b.n)]
 bk b:=[(9001,.blk ⟨.ints .i64 b.l,1,b.n,none,some true,true,false⟩)]
 rd S:=match aget S.t 14,aget S.h 9001 with
  |some (.int _ i),some (.blk ⟨.ints _ l,_,n,_,_,_,_⟩)=>some ⟨i,l,n⟩
  |_,_=>none
 pre b:=∃k:Nat,b.i=k∧k≤F.length∧b.l=celP F i k∧b.n=(celP F i k).length
 mu b:=F.length-b.i.toNat
/-! ### Graph -/
structure L9 where (i s:Int)(b:Bool)
end Go.Proofs.YtfpcbimohikhmaaDoor.X
