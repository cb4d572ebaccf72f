/-
 What the functions that turn a pattern over compute; the ends of a unit; the reference's back side.
-/
import Derived.Test.YtfpcbimohikhmaaDoorQD5Z
import Derived.Test.YtfpcbimohikhmaaDoorQPFZ
import Derived.KernelRfl
import Derived.Test.YtfpcbimohikhmaaDoorQC8Z
import Derived.Test.YtfpcbimohikhmaaDoorQYC7Z
import Derived.Test.YtfpcbimohikhmaaDoorQD7Z
import Derived.Test.YtfpcbimohikhmaaDoorQYD6Z
set_option maxRecDepth 1000000
set_option linter.unusedVariables false
namespace Go.Proofs.YtfpcbimohikhmaaDoor.X
open Go Go.Ab

/-! ### Sorting creases -/
def bndC (x:Cr):Prop:= -1000000≤x.1∧x.1≤1000000∧0≤x.2.1∧x.2.1≤2
instance (x:Cr):Decidable (bndC x):=by unfold bndC;infer_instance
abbrev Cb:Type:={x:Cr // bndC x}
instance:Inhabited Cb:=⟨⟨(0,0,0),by decide⟩⟩
/-! ### The back side -/
structure L24 where (i:Int)(l:List AV)
structure L2b where (c e:Int)
/-! ### Ends of a unit -/
structure L3b where (x y q:Int)
/-! ### The reference's back side -/
end Go.Proofs.YtfpcbimohikhmaaDoor.X

/-
 Mirror images of units of small sheets, by the kernel.
-/
set_option maxRecDepth 1000000
set_option linter.unusedVariables false
namespace Go.Proofs.YtfpcbimohikhmaaDoor.X
open Go Go.Ab

end Go.Proofs.YtfpcbimohikhmaaDoor.X
/-
 What is to be shown of the functions (made by a program).
-/
set_option maxRecDepth 1000000
set_option linter.unusedVariables false
namespace Go.Proofs.YtfpcbimohikhmaaDoor.X
open Go Go.Ab

end Go.Proofs.YtfpcbimohikhmaaDoor.X
/-
 Sorting creases: the library's contract, laid (by the kit's own command), under the closure's contract.
-/
set_option maxRecDepth 1000000
set_option linter.unusedVariables false
set_option linter.unusedSimpArgs false
namespace Go.Proofs.YtfpcbimohikhmaaDoor.X
open Go Go.Ab Go.Shelf Go.Proofs

end Go.Proofs.YtfpcbimohikhmaaDoor.X
/-
 What is to be shown of the functions (made by a program).
-/
set_option maxRecDepth 1000000
set_option linter.unusedVariables false
namespace Go.Proofs.YtfpcbimohikhmaaDoor.X
open Go Go.Ab

end Go.Proofs.YtfpcbimohikhmaaDoor.X
/-
 The contracts of the back side of a pattern, of the ends of a unit, of the reference's back side.
-/
set_option maxRecDepth 1000000
set_option linter.unusedVariables false
set_option linter.unusedSimpArgs false
namespace Go.Proofs.YtfpcbimohikhmaaDoor.X
open Go Go.Ab

end Go.Proofs.YtfpcbimohikhmaaDoor.X
/-
 The contracts of the ends of a unit, of the reference's back side.
-/
set_option maxRecDepth 1000000
set_option linter.unusedVariables false
set_option linter.unusedSimpArgs false
namespace Go.Proofs.YtfpcbimohikhmaaDoor.X
open Go Go.Ab

end Go.Proofs.YtfpcbimohikhmaaDoor.X
/-
 The contract of the reference's back side.
-/
set_option maxRecDepth 1000000
set_option linter.unusedVariables false
set_option linter.unusedSimpArgs false
namespace Go.Proofs.YtfpcbimohikhmaaDoor.X
open Go Go.Ab

end Go.Proofs.YtfpcbimohikhmaaDoor.X
/-
 The plain law of patterns: the back side.
-/
set_option maxRecDepth 1000000
set_option linter.unusedVariables false
set_option linter.unusedSimpArgs false
namespace Go.Proofs.YtfpcbimohikhmaaDoor.X
open Go Go.Ab
/-! ### The back side -/
end Go.Proofs.YtfpcbimohikhmaaDoor.X
/-
 Faces, plainly: the back side; each number is some cell's; sums.
-/
set_option maxRecDepth 1000000
set_option linter.unusedVariables false
set_option linter.unusedSimpArgs false
namespace Go.Proofs.YtfpcbimohikhmaaDoor.X
open Go Go.Ab

/-! ### The back side -/
/-! ### Each number is some cell's -/
theorem gI_facL {w h:Int}{l:List Cr}(hs:s5 w h){i:Nat}(hi:i<nC w h):gI (facL w h l) i=kP w h l (rP w h l i):=by
 have hlt:rP w h l i<nC w h:=Nat.lt_of_le_of_lt ((rep_P hs l).inv.le i hi) hi
 rw[← labF_all l hs,gI_labF hi,if_pos hlt]
theorem kP_onto (w h:Int)(l:List Cr):∀(m:Nat) (j:Int),0≤j→j<kP w h l m→∃r,r<m∧rP w h l r=r∧kP w h l r=j
 |0,j,h0,hj=>by simp[kP,rk]at hj;omega
 |m+1,j,h0,hj=>by
  rw[kP_next]at hj
  by_cases hlt:j<kP w h l m
  ·obtain⟨r,h1,h2,h3⟩:=kP_onto w h l m j h0 hlt
   exact⟨r,by omega,h2,h3⟩
  ·by_cases hr:rP w h l m=m
   ·rw[if_pos hr]at hj
    exact⟨m,by omega,hr,by omega⟩
   ·rw[if_neg hr]at hj;omega
theorem fac_onto {w h:Int}(l:List Cr)(hs:s5 w h){j:Int}(h0:0≤j)(hj:j≤maxL (facL w h l)):∃i,i<nC w h∧gI (facL w h l) i=j:=by
 have hl:=facL_len hs l
 obtain⟨n100,n4⟩:=nC_le hs
 have hm:=maxL_mem (l:=facL w h l) (fun e=>by rw[e]at hl;simp at hl;omega)
 obtain⟨i,hi,he⟩:=List.getElem_of_mem hm
 have hi':i<nC w h:=by omega
 have hR:=rep_P hs l
 have hri:rP w h l i<nC w h:=Nat.lt_of_le_of_lt (hR.inv.le i hi') hi'
 have hx:maxL (facL w h l)=kP w h l (rP w h l i):=by rw[← gI_facL hs hi',gI_at hi,he]
 by_cases e:j=maxL (facL w h l)
 ·exact⟨i,hi',by rw[gI_facL hs hi',← hx,e]⟩
 ·obtain⟨r,r1,r2,r3⟩:=kP_onto w h l (rP w h l i) j h0 (by omega)
  exact⟨r,by omega,by rw[gI_facL hs (by omega),r2,r3]⟩
theorem fac_max {w h:Int}(l:List Cr)(hs:s5 w h):0≤maxL (facL w h l)∧maxL (facL w h l)<nC w h∧∀x∈facL w h l,x≤maxL (facL w h l):=by
 have hl:=facL_len hs l
 obtain⟨n100,n4⟩:=nC_le hs
 have hm:=facL_le hs l _ (maxL_mem (l:=facL w h l) (fun e=>by rw[e]at hl;simp at hl;omega))
 exact⟨hm.1,hm.2,fun x hx=>le_maxL hx⟩
theorem mem_celL {F:List Int}{f:Int}{x:Int}:x∈celL F f↔∃i:Nat,i<F.length∧gI F i=f∧x=i:=by
 unfold celL celP
 rw[List.mem_map]
 constructor
 ·rintro⟨i,h1,rfl⟩
  obtain⟨h1,h2⟩:=List.mem_filter.1 h1
  exact⟨i,List.mem_range.1 h1,by simpa using h2,rfl⟩
 ·rintro⟨i,h1,h2,rfl⟩
  exact⟨i,List.mem_filter.2 ⟨List.mem_range.2 h1,by simpa using h2⟩,rfl⟩
theorem celL_ne {w h:Int}(l:List Cr)(hs:s5 w h){j:Int}(h0:0≤j)(hj:j≤maxL (facL w h l)):celL (facL w h l) j≠[]:=by
 obtain⟨i,h1,h2⟩:=fac_onto l hs h0 hj
 intro e
 have:(i:Int)∈celL (facL w h l) j:=mem_celL.2 ⟨i,by rw[facL_len hs];exact h1,h2,rfl⟩
 rw[e]at this;simp at this
/-! ### The units of the joints -/
end Go.Proofs.YtfpcbimohikhmaaDoor.X
/-
 The law on the back side: contracts of valid patterns, the loop.
-/
set_option maxRecDepth 1000000
set_option linter.unusedVariables false
set_option linter.unusedSimpArgs false
namespace Go.Proofs.YtfpcbimohikhmaaDoor.X
open Go Go.Ab
end Go.Proofs.YtfpcbimohikhmaaDoor.X
/-
 The laws on faces: contracts, loops.
-/
set_option maxRecDepth 1000000
set_option linter.unusedVariables false
namespace Go.Proofs.YtfpcbimohikhmaaDoor.X
open Go Go.Ab

def e40:CtE
 |[]=>some ⟨.bool true,[],none⟩
 |_=>none
/-! ### Sizes -/
/-! ### Graph -/
structure L9 where (i s:Int)(b:Bool)
end Go.Proofs.YtfpcbimohikhmaaDoor.X
/-
 The law on lines: all cells, kinds by lines.
-/
set_option maxRecDepth 1000000
set_option linter.unusedVariables false
namespace Go.Proofs.YtfpcbimohikhmaaDoor.X
open Go Go.Ab

/-! ### All cells -/
def cvR (w:Int)(id:Nat):List AV:=[.int .i64 (qX w id),.int .i64 (qY w id),.int .u8 (qQ id)]
def cvA (w:Int)(n:Nat):List AV:=(List.range n).flatMap (cvR w)
def blkCe (l:List AV)(n:Nat):HO:=.blk ⟨.vals l,3,n,none,some true,true,false⟩
def l41 (w h:Int):LpS LI2 where
 ov b:=[(4,.int .i64 b.i),(3,.full 9001 b.n)]
 bk b:=[(9001,blkCe b.l b.n)]
 rd S:=match aget S.t 4,aget S.h 9001 with
  |some (.int _ i),some (.blk ⟨.vals l,_,n,_,_,_,_⟩)=>some ⟨i,l,n⟩
  |_,_=>none
 pre b:=∃y:Nat,b.i=y∧(y:Int)≤h∧b.n=4*(y*w.toNat)∧b.l=cvA w b.n
 mu b:=h.toNat-b.i.toNat
def m41 (w:Int)(y:Int):LpS LI2 where
 ov b:=[(5,.int .i64 b.i),(3,.full 9001 b.n)]
 bk b:=[(9001,blkCe b.l b.n)]
 rd S:=match aget S.t 5,aget S.h 9001 with
  |some (.int _ i),some (.blk ⟨.vals l,_,n,_,_,_,_⟩)=>some ⟨i,l,n⟩
  |_,_=>none
 pre b:=∃x:Nat,b.i=x∧(x:Int)≤w∧b.n=4*(y.toNat*w.toNat+x)∧b.l=cvA w b.n
 mu b:=w.toNat-b.i.toNat
def kc41 (w:Int)(y x:Int):LpS LI2 where
 ov b:=[(6,.int .u8 b.i),(3,.full 9001 b.n)]
 bk b:=[(9001,blkCe b.l b.n)]
 rd S:=match aget S.t 6,aget S.h 9001 with
  |some (.int _ i),some (.blk ⟨.vals l,_,n,_,_,_,_⟩)=>some ⟨i,l,n⟩
  |_,_=>none
 pre b:=∃q:Nat,b.i=q∧q≤4∧b.n=4*(y.toNat*w.toNat+x.toNat)+q∧b.l=cvA w b.n
 mu b:=4-b.i.toNat
def e41:CtE
 |[.agg [.int .i64 w,.int .i64 h]]=>some ⟨.imm (.vals (cvA w (nC w h))) (nC w h) none,[],some (s5 w h)⟩
 |_=>none
/-! ### Kinds by lines -/
def lnK1 (w:Int)(us:List Int)(j:Int):Int:=liK (qX w (uC us j)) (qY w (uC us j)) (qQ (uC us j)) (uE us j)
def lnC1 (w:Int)(us:List Int)(j:Int):Int:=liC (qX w (uC us j)) (qY w (uC us j)) (qQ (uC us j)) (uE us j)
def eqLn (w:Int)(us:List Int)(i j:Int):Bool:=lnK1 w us i==lnK1 w us j&&lnC1 w us i==lnC1 w us j
def modU (us:List Int)(x:Int):Int:=x.tmod us.length
def hasLn (w:Int)(us ls:List Int)(n:Nat)(j:Nat):Bool:=(ls.take n).any fun x=>eqLn w us j (modU us x)
def kdM (w:Int)(us ls:List Int)(n k:Nat):List Int:=(List.range us.length).map fun j=>bI (hasLn w us ls (if j<k then n+1 else n) j) 2 0
def rowK (l:List Int)(n:Nat):HO:=.blk ⟨.ints .u8 l,1,n,some n,some false,true,false⟩
def l10 (w:Int)(us ls:List Int):LpS LI1 where
 ov b:=[(9,.int .i64 b.i)]
 bk b:=[(450,rowK b.m us.length)]
 rd S:=match aget S.t 9,aget S.h 450 with
  |some (.int _ i),some (.blk ⟨.ints _ o,_,_,_,_,_,_⟩)=>some ⟨i,o⟩
  |_,_=>none
 pre b:=∃n:Nat,b.i=n∧n≤ls.length∧b.m=kdM w us ls n 0
 mu b:=ls.length-b.i.toNat
def m10 (w:Int)(us ls:List Int)(i:Int):LpS LI1 where
 ov b:=[(12,.int .i64 b.i)]
 bk b:=[(450,rowK b.m us.length)]
 rd S:=match aget S.t 12,aget S.h 450 with
  |some (.int _ i),some (.blk ⟨.ints _ o,_,_,_,_,_,_⟩)=>some ⟨i,o⟩
  |_,_=>none
 pre b:=∃k:Nat,b.i=k∧k≤us.length∧b.m=kdM w us ls i.toNat k
 mu b:=us.length-b.i.toNat
/-- The pattern of the lines. -/
def lnP (w h:Int)(ls:List Int):List Cr:=wthL (units w h) (kdM w (units w h) ls ls.length 0)
def kc10 (F:List Int):LpS L1 where
 ov b:=[(18,.int .i64 b.i)]
 bk b:=[]
 rd S:=match aget S.t 18 with
  |some (.int _ i)=>some ⟨i⟩
  |_=>none
 pre b:=∃n:Nat,b.i=n∧(n:Int)≤maxL F+1
 mu b:=(maxL F+1).toNat-b.i.toNat
noncomputable def T10:Tab:=tabL [(35,e35),(20,e20),(41,e41),(42,e42),(23,e23),(43,e43v),(38,e38v),(44,e44v),(40,e40)] noCh
end Go.Proofs.YtfpcbimohikhmaaDoor.X
