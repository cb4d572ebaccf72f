/-
 What Of computes: the faces of all cells; what is built on it.
-/
import Derived.Test.YtfpcbimohikhmaaDoorQYD1Z
import Derived.Test.YtfpcbimohikhmaaDoorQD7Z
import Derived.Test.YtfpcbimohikhmaaDoorQPFZ
import Derived.Test.YtfpcbimohikhmaaDoorAb6

set_option maxRecDepth 1000000
set_option linter.unusedVariables false
namespace Go.Proofs.YtfpcbimohikhmaaDoor.X
open Go Go.Ab

def e85v:CtE
 |[.agg [.int .i64 w,.int .i64 h]]=>some ⟨.int .i64 (4*w*h),[],some (s5 w h)⟩
 |_=>none
/-- The call of gather. -/
def ch49 (w h:Int)(l:List Cr)(hp:List (Nat×HO))(cv:AV)(args:List AV):Option Cx:=
 match cv,args,aget hp 24832 with
 |.fn f [] [],[.int .i64 i,.int .i64 k,.ptr a 0,.ptr b 0,.ptr c 0],some (.blk ⟨.ints _ out,_,_,_,_,_,_⟩)=>cond (Nat.beq f 86&&(Nat.beq a 389&&(Nat.beq b 64&&Nat.beq c 322)))
   (some ⟨.tup [],[(24832,rowO (labF w h l (i.toNat+1)) (nC w h))],some (hp=hpF w h l out∧out=labF w h l i.toNat∧0≤i∧i<nC w h∧k=kP w h l i.toNat∧rP w h l i.toNat=i.toNat)⟩) none
 |_,_,_=>none
def yOt:List (Nat×CtE):=[(27,e27v),(83,e83),(85,e85v),(84,e84),(82,e82)]
def YO (w h:Int)(l:List Cr):Tab:=tabL yOt (ch49 w h l)
structure L49 where (i m:Int)(out:List Int)
def l49 (w h:Int)(l:List Cr):LpS L49 where
 ov b:=[(25,.int .i64 b.i),(8,.int .i64 b.m)]
 bk b:=[(24832,rowO b.out (nC w h))]
 rd S:=match aget S.t 25,aget S.t 8,aget S.h 24832 with
  |some (.int _ i),some (.int _ m),some (.blk ⟨.ints _ o,_,_,_,_,_,_⟩)=>some ⟨i,m,o⟩
  |_,_,_=>none
 pre b:=∃n:Nat,b.i=n∧n≤nC w h∧b.out=labF w h l n∧b.m=kP w h l n
 mu b:=nC w h-b.i.toNat
def facV (w h:Int)(l:List Cr):AV:=.imm (.ints .i64 (facL w h l)) (nC w h) (some (nC w h))
def e49v:CtE
 |[.agg [.int .i64 w,.int .i64 h,.imm (.vals a) n _]]=>some ⟨.tup [facV w h (unC a),.int .i64 0],[],some (s5 w h∧okV w h a n)⟩
 |_=>none
def YX:Tab:=tabL [(27,e27)] noCh
def e49x:CtE
 |[.agg [.int .i64 w,.int .i64 h,.imm (.vals a) n _]]=>some ⟨.tup [.nils,.int .i64 (chkI w h (unC a))],[],some (okA a n∧edg (unC a)∧chkI w h (unC a)≠0)⟩
 |_=>none
/-- How many faces there are. -/
def e43v:CtE
 |[.agg [.int .i64 w,.int .i64 h,.imm (.vals a) n _]]=>some ⟨.tup [.int .i64 (maxL (facL w h (unC a))+1),.int .i64 0],[],some (s5 w h∧okV w h a n)⟩
 |_=>none
def YV:Tab:=tabL [(49,e49v),(78,e78)] noCh
def e43x:CtE
 |[.agg [.int .i64 w,.int .i64 h,.imm (.vals a) n _]]=>some ⟨.tup [.int .i64 0,.int .i64 (chkI w h (unC a))],[],some (okA a n∧edg (unC a)∧chkI w h (unC a)≠0)⟩
 |_=>none
def YW:Tab:=tabL [(49,e49x)] noCh
end Go.Proofs.YtfpcbimohikhmaaDoor.X

/-
 The reference's faces, plainly: numbers are made equal until nothing changes.
-/
set_option maxRecDepth 1000000
set_option linter.unusedVariables false
set_option linter.unusedSimpArgs false
namespace Go.Proofs.YtfpcbimohikhmaaDoor.X
open Go Go.Ab

/-- Numbers on their way down. -/
structure LIv (w h:Int)(l:List Cr)(m:List Int):Prop where
 len:m.length=nC w h
 nn:∀i,i<nC w h→0≤gI m i∧gI m i≤i
 cls:∀S,clo (prs w h l) S→∀i,i<nC w h→(S i↔S (gI m i).toNat)
/-- One pair. -/
def eqP (m:List Int)(a b:Nat):List Int:=(m.set a (min (gI m a) (gI m b))).set b (min (gI m a) (gI m b))
theorem gI_eqP {m:List Int}{a b i:Nat}(ha:a<m.length)(hb:b<m.length):gI (eqP m a b) i=if i=a∨i=b then min (gI m a) (gI m b)else gI m i:=by
 unfold eqP
 rw[gI_set (by rw[List.length_set];exact hb),gI_set ha]
 by_cases h1:i=b
 ·simp[h1]
 ·by_cases h2:i=a<;>simp[h1,h2]
theorem LIv.step {w h:Int}{l:List Cr}{m:List Int}(hm:LIv w h l m){a b:Nat}(ha:a<nC w h)(hb:b<nC w h)(hp:(a,b)∈prs w h l):LIv w h l (eqP m a b):=by
 obtain⟨h1,h2,h3⟩:=hm
 have g:∀i,gI (eqP m a b) i=if i=a∨i=b then min (gI m a) (gI m b)else gI m i:=fun i=>gI_eqP (by omega) (by omega)
 have na:=h2 a ha
 have nb:=h2 b hb
 refine⟨by simp[eqP,h1],fun i hi=>?_,fun S hS i hi=>?_⟩
 ·have:=h2 i hi
  rw[g i]
  split
  ·rename_i e;rcases e with rfl|rfl<;>omega
  ·exact this
 ·rw[g i]
  have h4:=hS (a,b) hp
  simp only at h4
  have sa:=h3 S hS a ha
  have sb:=h3 S hS b hb
  split
  ·rename_i e
   have hi2:S i↔S a:=by rcases e with rfl|rfl;exact Iff.rfl;exact h4.symm
   rw[hi2]
   rcases Int.le_total (gI m a) (gI m b)with q|q
   ·rw[Int.min_eq_left q];exact sa
   ·rw[Int.min_eq_right q,h4];exact sb
  ·exact h3 S hS i hi
/-- The first numbers: each cell's own. -/
def ownL (n i:Nat):List Int:=(List.range n).map fun j=>if j<i then(j:Int)else 0
theorem gI_ownL {n i j:Nat}(h:j<n):gI (ownL n i) j=if j<i then(j:Int)else 0:=by
 unfold gI ownL
 rw[List.getElem?_map,List.getElem?_range h];rfl
theorem ownL_len (n i:Nat):(ownL n i).length=n:=by simp[ownL]
theorem LIv.own (w h:Int)(l:List Cr):LIv w h l (ownL (nC w h) (nC w h)):=
 ⟨ownL_len _ _,fun i hi=>by rw[gI_ownL hi,if_pos hi];omega,fun S _ i hi=>by rw[gI_ownL hi,if_pos hi];simp⟩
/-- Where all pairs are equal the numbers are the least cells. -/
theorem LIv.fin {w h:Int}{l:List Cr}{m:List Int}(hs:s5 w h)(hm:LIv w h l m)(he:∀p∈prs w h l,gI m p.1=gI m p.2):∀i,i<nC w h→gI m i=(rP w h l i:Nat):=by
 have hR:=rep_P hs l
 obtain⟨h1,h2,h3⟩:=hm
 have g:∀i,i<nC w h→(m.map Int.toNat).getD i 0=(gI m i).toNat:=fun i hi=>by
  unfold gI
  rw[List.getD_eq_getElem?_getD,List.getElem?_map,List.getElem?_eq_getElem (by omega)];rfl
 have hu:=hR.uniq (m:=m.map Int.toNat) (by simp[h1]) (fun i hi=>by rw[g i hi];have:=h2 i hi;omega) (fun S hS i hi=>by rw[g i hi];exact h3 S hS i hi)
  (fun p hp=>by
   have hb:=prs_ok hs p hp
   rw[g _ hb.1,g _ hb.2,he p hp])
 intro i hi
 have:=h2 i hi
 unfold rP
 rw[← hu,g i hi]
 omega
/-! ### Counting off -/
def numL (w h:Int)(l:List Cr)(n:Nat):List Int:=(List.range (nC w h)).map fun i=>if i<n then kP w h l (rP w h l i)else 0
end Go.Proofs.YtfpcbimohikhmaaDoor.X
/-
 What the reference's Of computes, step by step.
-/
set_option maxRecDepth 1000000
set_option linter.unusedVariables false
namespace Go.Proofs.YtfpcbimohikhmaaDoor.X
open Go Go.Ab

/-! ### The pairs -/
def blkP2 (l:List AV)(n:Nat):HO:=.blk ⟨.vals l,2,n,none,some true,true,false⟩
structure LI1 where (i:Int)(m:List Int)
def a45 (w h:Int):LpS LI1 where
 ov b:=[(5,.int .i64 b.i)]
 bk b:=[(193,rowO b.m (nC w h))]
 rd S:=match aget S.t 5,aget S.h 193 with
  |some (.int _ i),some (.blk ⟨.ints _ o,_,_,_,_,_,_⟩)=>some ⟨i,o⟩
  |_,_=>none
 pre b:=∃n:Nat,b.i=n∧n≤nC w h∧b.m=ownL (nC w h) n
 mu b:=nC w h-b.i.toNat
structure LI2 where (i:Int)(l:List AV)(n:Nat)
structure LI3 where (b:Bool)(m:List Int)
structure LI4 where (b:Bool)(m:List Int)(i:Int)
structure LI5 where (i k:Int)(o:List Int)
def f45 (w h:Int)(l:List Cr):LpS LI5 where
 ov b:=[(15,.int .i64 b.i),(13,.int .i64 b.k)]
 bk b:=[(1729,rowO b.o (nC w h))]
 rd S:=match aget S.t 15,aget S.t 13,aget S.h 1729 with
  |some (.int _ i),some (.int _ k),some (.blk ⟨.ints _ o,_,_,_,_,_,_⟩)=>some ⟨i,k,o⟩
  |_,_,_=>none
 pre b:=∃n:Nat,b.i=n∧n≤nC w h∧b.k=kP w h l n∧b.o=numL w h l n
 mu b:=nC w h-b.i.toNat
end Go.Proofs.YtfpcbimohikhmaaDoor.X
/-
 What the functions on faces compute: sizes, cells, corners, sectors; equal lists.
-/
set_option maxRecDepth 1000000
set_option linter.unusedVariables false
namespace Go.Proofs.YtfpcbimohikhmaaDoor.X
open Go Go.Ab

/-! ### Sizes -/
def kF (F:List Int):Nat:=(maxL F+1).toNat
def szL (F:List Int)(k:Nat):List Int:=(List.range k).map fun j:Nat=>((F.count (j:Int):Nat):Int)
def l46 (F:List Int):LpS LI1 where
 ov b:=[(23,.int .i64 b.i)]
 bk b:=[(323,rowO b.m (kF F))]
 rd S:=match aget S.t 23,aget S.h 323 with
  |some (.int _ i),some (.blk ⟨.ints _ o,_,_,_,_,_,_⟩)=>some ⟨i,o⟩
  |_,_=>none
 pre b:=∃n:Nat,b.i=n∧n≤F.length∧b.m=szL (F.take n) (kF F)
 mu b:=F.length-b.i.toNat
def e46v:CtE
 |[.agg [.int .i64 w,.int .i64 h,.imm (.vals a) n _]]=>some ⟨.tup [.full 0 (kF (facL w h (unC a))),.int .i64 0],[⟨.ints .i64 (szL (facL w h (unC a)) (kF (facL w h (unC a)))),1,kF (facL w h (unC a)),some (kF (facL w h (unC a))),some false,true,false⟩],some (s5 w h∧okV w h a n)⟩
 |_=>none
def e46x:CtE
 |[.agg [.int .i64 w,.int .i64 h,.imm (.vals a) n _]]=>some ⟨.tup [.nils,.int .i64 (chkI w h (unC a))],[],some (okA a n∧edg (unC a)∧chkI w h (unC a)≠0)⟩
 |_=>none
/-! ### Cells -/
def celP (F:List Int)(f:Int)(n:Nat):List Int:=((List.range n).filter fun i=>gI F i==f).map fun i:Nat=>(i:Int)
def celL (F:List Int)(f:Int):List Int:=celP F f F.length
structure LI6 where (i:Int)(l:List Int)(n:Nat)
def l47 (F:List Int)(f:Int):LpS LI6 where
 ov b:=[(21,.int .i64 b.i),(8,.full 9001 b.n)]
 bk b:=[(9001,.blk ⟨.ints .i64 b.l,1,b.n,none,some true,true,false⟩)]
 rd S:=match aget S.t 21,aget S.h 9001 with
  |some (.int _ i),some (.blk ⟨.ints _ l,_,n,_,_,_,_⟩)=>some ⟨i,l,n⟩
  |_,_=>none
 pre b:=∃k:Nat,b.i=k∧k≤F.length∧b.l=celP F f k∧b.n=(celP F f k).length
 mu b:=F.length-b.i.toNat
def YV2:Tab:=tabL [(49,e49v),(78,e78),(82,e82)] noCh
def e47v:CtE
 |[.agg [.int .i64 w,.int .i64 h,.imm (.vals a) n _],.int .i64 f]=>some ⟨.tup [.imm (.ints .i64 (celL (facL w h (unC a)) f)) (celL (facL w h (unC a)) f).length (some (celL (facL w h (unC a)) f).length),.int .i64 0],[],some (s5 w h∧okV w h a n∧celL (facL w h (unC a)) f≠[])⟩
 |_=>none
def e47x:CtE
 |[.agg [.int .i64 w,.int .i64 h,.imm (.vals a) n _],.int .i64 f]=>some ⟨.tup [.nils,.int .i64 (chkI w h (unC a))],[],some (okA a n∧edg (unC a)∧chkI w h (unC a)≠0)⟩
 |_=>none
/-! ### Equal lists -/
/-! ### Sectors and corners -/
def secT:List (List Int):=[[5,0,3],[7,5,2],[1,4,7],[3,1,6]]
def secI (q i:Int):Int:=((secT[q.toNat]?.getD [])[i.toNat]?.getD 0)
def wdI (i:Int):Int:=bI (i==0) 2 1
def e80:CtE
 |[.agg [.int .i64 x,.int .i64 y,.int .u8 q],.int .i64 i]=>some ⟨.agg [.int .i64 (secI q i),.int .i64 (wdI i)],[],some (0≤q∧q≤3∧0≤i∧i≤2)⟩
 |_=>none
def Y92:Tab:=tabL [(92,e92)] noCh
def e79:CtE
 |[.agg [.int .i64 x,.int .i64 y,.int .u8 q]]=>some ⟨.tup [.agg (corV x y q),.int .i64 0],[],some (0≤x∧x≤900∧0≤y∧y≤900∧0≤q∧q≤3)⟩
 |_=>none
end Go.Proofs.YtfpcbimohikhmaaDoor.X
/-
 What the functions on faces compute: which faces meet.
-/
set_option maxRecDepth 1000000
set_option linter.unusedVariables false
namespace Go.Proofs.YtfpcbimohikhmaaDoor.X
open Go Go.Ab

/-! ### Joints -/
abbrev Jt:Type:=Int×Int×Int
def flJ (L:List Jt):List AV:=L.flatMap fun x=>[.int .i64 x.1,.int .i64 x.2.1,.int .i64 x.2.2]
def unJ:List AV→List Jt
 |.int _ a:: .int _ b:: .int _ u::r=>(a,b,u)::unJ r
 |_=>[]
def okJ (a:List AV)(n:Nat):Prop:=a=flJ (unJ a)∧n=(unJ a).length∧(unJ a).length<1000000000
/-- The faces on both sides of a crease. -/
def faA (F:List Int)(c:Cr):Int:=gI F c.1.toNat
def faB (w h:Int)(F:List Int)(c:Cr):Int:=gI F (nbI w h c.1 c.2.1).toNat
def loA (w h:Int)(F:List Int)(c:Cr):Int:=if faB w h F c<faA F c then faB w h F c else faA F c
def hiA (w h:Int)(F:List Int)(c:Cr):Int:=if faA F c<faB w h F c then faB w h F c else faA F c
def prJ (w h:Int)(F:List Int)(c:Cr):Int×Int:=(loA w h F c,hiA w h F c)
def cntJ (w h:Int)(F:List Int)(l:List Cr)(a b:Int):Nat:=l.countP fun c=>prJ w h F c==(a,b)
/-- The joints of a face with those from it on, before another. -/
def jnR (w h:Int)(F:List Int)(l:List Cr)(a b:Nat):List Jt:=(List.range' a (b-a)).filterMap fun c:Nat=>if 0<cntJ w h F l a c then some ((a:Int),(c:Int),(cntJ w h F l a c:Int))else none
def jnP (w h:Int)(F:List Int)(l:List Cr)(a:Nat):List Jt:=(List.range a).flatMap fun x=>jnR w h F l x (nC w h)
def jnL (w h:Int)(F:List Int)(l:List Cr):List Jt:=jnP w h F l (nC w h)
/-! ### The same in a map -/
def kkP:MV:=⟨true,[some .i64,some .i64]⟩
def vkI:MV:=⟨false,[some .i64]⟩
def blkJ (es:List Ent3)(ck:Nat):Blk:=⟨.maps kkP vkI es ck,1,0,none,some false,true,true⟩
def grK (w h:Int)(F:List Int)(c:Cr):List Int:=[loA w h F c,hiA w h F c]
def grV (es:List Ent3)(k:List Int):Int:=((mget es k).getD []).getD 0 0
def grS (w h:Int)(F:List Int)(s:List Ent3×Nat)(c:Cr):List Ent3×Nat:=(mput s.1 (grK w h F c) [grV s.1 (grK w h F c)+1] s.2,mck s.1 (grK w h F c) s.2)
def grF (w h:Int)(F:List Int)(l:List Cr):List Ent3×Nat:=l.foldl (grS w h F) ([],0)
def l37 (w h:Int)(F:List Int)(l:List Cr):LpS L83 where
 ov b:=[(26,.int .i64 b.i)]
 bk b:=[(320,.blk (blkJ b.es b.ck))]
 rd S:=match aget S.t 26,aget S.h 320 with
  |some (.int _ i),some (.blk ⟨.maps _ _ es ck,_,_,_,_,_,_⟩)=>some ⟨i,es,ck⟩
  |_,_=>none
 pre b:=∃n:Nat,b.i=n∧n≤l.length∧b.es=(grF w h F (l.take n)).1∧b.ck=(grF w h F (l.take n)).2
 mu b:=l.length-b.i.toNat
def entJ (e:Ent3):Jt:=(e.1.getD 0 0,e.1.getD 1 0,e.2.1.getD 0 0)
structure LM37 where (l:List AV)(n:Nat)(seen:List Nat)
def rwJ (l:List AV)(n m:Nat):HO:=.blk ⟨.vals l,3,n,some m,some false,true,false⟩
def m37 (es:List Ent3)(ck:Nat):LpS LM37 where
 ov b:=[(11,.full 770 b.n)]
 bk b:=[(770,rwJ b.l b.n es.length),(833,.mit 320 ck b.seen)]
 rd S:=match aget S.h 770,aget S.h 833 with
  |some (.blk ⟨.vals l,_,n,_,_,_,_⟩),some (.mit _ _ seen)=>some ⟨l,n,seen⟩
  |_,_=>none
 pre b:=∃L:List Jt,b.l=flJ L∧b.n=L.length∧(L++(leftE es b.seen).map entJ).Perm (es.map entJ)
 mu b:=(leftE es b.seen).length
/-! ### Sorting joints -/
noncomputable def Gj:GL:={g:=fun _=>none,cm:=cmOf Tryd.prog,strong:=True}
def bndJ (x:Jt):Prop:=0≤x.1∧x.1≤1000∧0≤x.2.1∧x.2.1≤1000
instance (x:Jt):Decidable (bndJ x):=by unfold bndJ;infer_instance
abbrev Jb:Type:={x:Jt // bndJ x}
instance:Inhabited Jb:=⟨⟨(0,0,0),by decide⟩⟩
def RJb:RowS Jb where
 k:=3
 row x:=[(.i64,x.1.1),(.i64,x.1.2.1),(.i64,x.1.2.2)]
 len _:=rfl
def cmI (x y:Jt):Int:=cond (x.1 !=y.1) (x.1-y.1) (x.2.1-y.2.1)
def cmpJ (x y:Jb):Int:=cmI x.1 y.1
def toJ (x:Jt):Jb:=if h:bndJ x then⟨x,h⟩else default
/-- The sort. -/
def ch71 (w h:Int)(F:List Int)(l:List Cr)(hp:List (Nat×HO))(cv:AV)(args:List AV):Option Cx:=
 match cv,args,aget hp 770 with
 |.fn g [] [],[.full id n,.fn g' [] []],some (.blk ⟨.vals v,_,_,some m,_,_,_⟩)=>cond (Nat.beq g 71&&(Nat.beq g' 72&&Nat.beq id 770)) (some ⟨.tup [],[(770,rwJ (flJ (jnL w h F l)) n m)],some (hp=[(770,rwJ v n m)]∧∃L:List Jt,v=flJ L∧n=L.length∧L.Perm ((grF w h F l).1.map entJ))⟩) none
 |_,_,_=>none
/-- The pattern's cells and edges are its sheet's. -/
def e70v:CtE
 |[.agg [.int .i64 w,.int .i64 h],.int .i64 i,.int .u8 e]=>some ⟨.tup [.int .i64 (nbI w h i e),.int .i64 0],[],some (okN w h i e=true∧0≤e)⟩
 |_=>none
def yG:List (Nat×CtE):=[(49,e49v),(70,e70v)]
def YGr (w h:Int)(F:List Int)(l:List Cr):Tab:=tabL yG (ch71 w h F l)
def jnC (w h:Int)(l:List Cr):List Jt:=jnL w h (facL w h l) l
def blkJn (L:List Jt):Blk:=⟨.vals (flJ L),3,L.length,some L.length,some false,true,false⟩
def e37v:CtE
 |[.agg [.int .i64 w,.int .i64 h,.imm (.vals a) n _]]=>some ⟨.tup [.full 0 (jnC w h (unC a)).length,.int .i64 0],[blkJn (jnC w h (unC a))],some (s5 w h∧okV w h a n)⟩
 |_=>none
def e37x:CtE
 |[.agg [.int .i64 w,.int .i64 h,.imm (.vals a) n _]]=>some ⟨.tup [.nils,.int .i64 (chkI w h (unC a))],[],some (okA a n∧edg (unC a)∧chkI w h (unC a)≠0)⟩
 |_=>none
/-! ### Loose ends -/
def jV (L:List Jt)(i:Int):List AV:=[.int .i64 (L[i.toNat]?.getD (0,0,0)).1,.int .i64 (L[i.toNat]?.getD (0,0,0)).2.1,.int .i64 (L[i.toNat]?.getD (0,0,0)).2.2]
def ixJ:List Jt→Nat→Int
 |[],_=> -1
 |x::r,i=>cond (x.1==x.2.1) i (ixJ r (i+1))
def lseJ (L:List Jt):Bool:=L.any fun x=>x.1==x.2.1
def e74:CtE
 |[.agg [.int .i64 a,.int .i64 b,.int .i64 u]]=>some ⟨.bool (a==b),[],none⟩
 |_=>none
def l98 (L:List Jt):LpS L1 where
 ov b:=[(8,.int .i64 b.i)]
 bk b:=[]
 rd S:=match aget S.t 8 with
  |some (.int _ i)=>some ⟨i⟩
  |_=>none
 pre b:=∃n:Nat,b.i=n∧n≤L.length∧ixJ L 0=ixJ (L.drop n) n
 mu b:=L.length-b.i.toNat
def e98:CtE
 |[.imm (.vals a) n _,.fn 74 [] []]=>some ⟨.int .i64 (ixJ (unJ a) 0),[],some (okJ a n)⟩
 |_=>none
def e73:CtE
 |[.imm (.vals a) n _,.fn 74 [] []]=>some ⟨.bool (lseJ (unJ a)),[],some (okJ a n)⟩
 |_=>none
def Y74:Tab:=tabL [(74,e74)] noCh
def Y98:Tab:=tabL [(98,e98)] noCh
def YLo:Tab:=tabL [(37,e37v),(73,e73)] noCh
def e73n:CtE
 |[.nils,.fn 74 [] []]=>some ⟨.bool false,[],none⟩
 |_=>none
def e98n:CtE
 |[.nils,.fn 74 [] []]=>some ⟨.int .i64 (-1),[],none⟩
 |_=>none
def Y98n:Tab:=tabL [(98,e98n)] noCh
def YLx:Tab:=tabL [(37,e37x),(73,e73n)] noCh
def e38v:CtE
 |[.agg [.int .i64 w,.int .i64 h,.imm (.vals a) n _]]=>some ⟨.tup [.bool (lseJ (jnC w h (unC a))),.int .i64 0],[],some (s5 w h∧okV w h a n)⟩
 |_=>none
def e38x:CtE
 |[.agg [.int .i64 w,.int .i64 h,.imm (.vals a) n _]]=>some ⟨.tup [.bool false,.int .i64 (chkI w h (unC a))],[],some (okA a n∧edg (unC a)∧chkI w h (unC a)≠0)⟩
 |_=>none
/-! ### The reference -/
def flP2 (L:List (Int×Int)):List AV:=L.flatMap fun x=>[.int .i64 x.1,.int .i64 x.2]
def a39 (w h:Int)(F:List Int)(l:List Cr):LpS LI2 where
 ov b:=[(6,.int .i64 b.i),(5,.full 9001 b.n)]
 bk b:=[(9001,blkP2 b.l b.n)]
 rd S:=match aget S.t 6,aget S.h 9001 with
  |some (.int _ i),some (.blk ⟨.vals l,_,n,_,_,_,_⟩)=>some ⟨i,l,n⟩
  |_,_=>none
 pre b:=∃k:Nat,b.i=k∧k≤l.length∧b.l=flP2 ((l.take k).map (prJ w h F))∧b.n=k
 mu b:=l.length-b.i.toNat
end Go.Proofs.YtfpcbimohikhmaaDoor.X
/-
 What the functions on faces compute: whether a face is convex.
-/
set_option maxRecDepth 1000000
set_option linter.unusedVariables false
namespace Go.Proofs.YtfpcbimohikhmaaDoor.X
open Go Go.Ab

/-! ### Around a corner: a map from points to eight marks -/
def vkB8:MV:=⟨true,[none,none,none,none,none,none,none,none]⟩
def blkV (es:List Ent3)(ck:Nat):Blk:=⟨.maps kkP vkB8 es ck,1,0,none,some false,true,true⟩
def b8 (v:List Int)(j:Nat):Bool:=v.getD j 0 !=0
def v8 (v:List Int):List Bool:=[b8 v 0,b8 v 1,b8 v 2,b8 v 3,b8 v 4,b8 v 5,b8 v 6,b8 v 7]
def u8I (b:List Bool):List Int:=[cond (b.getD 0 false) 1 0,cond (b.getD 1 false) 1 0,cond (b.getD 2 false) 1 0,cond (b.getD 3 false) 1 0,cond (b.getD 4 false) 1 0,cond (b.getD 5 false) 1 0,cond (b.getD 6 false) 1 0,cond (b.getD 7 false) 1 0]
/-- The marks of a sector, one after another. -/
def fulK (q i:Int)(n:Nat)(v:List Bool):List Bool:=(List.range n).foldl (fun(v:List Bool) (j:Nat)=>v.set ((secI q i+j).tmod 8).toNat true) v
def keyP (w id i:Int):List Int:=[crX (qX w id) (qQ id) i,crY (qY w id) (qQ id) i]
def v8o:Option (List Int)→List Bool
 |some v=>v8 v
 |none=>v8 []
def vsP (w id i:Int)(es:List Ent3):List Bool:=v8o (mget es (keyP w id i))
def st1 (w id:Int)(s:List Ent3×Nat)(i:Nat):List Ent3×Nat:=(mput s.1 (keyP w id i) (u8I (fulK (qQ id) i (wdI i).toNat (vsP w id i s.1))) s.2,mck s.1 (keyP w id i) s.2)
def cvI (w id:Int)(s:List Ent3×Nat)(n:Nat):List Ent3×Nat:=(List.range n).foldl (st1 w id) s
def cvF (w:Int)(C:List Int):List Ent3×Nat:=C.foldl (fun s id=>cvI w id s 3) ([],0)
def l44 (w:Int)(C:List Int):LpS L83 where
 ov b:=[(38,.int .i64 b.i)]
 bk b:=[(320,.blk (blkV b.es b.ck))]
 rd S:=match aget S.t 38,aget S.h 320 with
  |some (.int _ i),some (.blk ⟨.maps _ _ es ck,_,_,_,_,_,_⟩)=>some ⟨i,es,ck⟩
  |_,_=>none
 pre b:=∃n:Nat,b.i=n∧n≤C.length∧b.es=(cvF w (C.take n)).1∧b.ck=(cvF w (C.take n)).2
 mu b:=C.length-b.i.toNat
def c44 (w id:Int)(es:List Ent3)(ck:Nat):LpS L83 where
 ov b:=[(55,.int .i64 b.i)]
 bk b:=[(320,.blk (blkV b.es b.ck))]
 rd S:=match aget S.t 55,aget S.h 320 with
  |some (.int _ i),some (.blk ⟨.maps _ _ es ck,_,_,_,_,_,_⟩)=>some ⟨i,es,ck⟩
  |_,_=>none
 pre b:=∃n:Nat,b.i=n∧n≤3∧b.es=(cvI w id (es,ck) n).1∧b.ck=(cvI w id (es,ck) n).2
 mu b:=3-b.i.toNat
structure LK44 where (k:Int)(vs:List Bool)
def kl44 (q i:Int)(v:List Bool):LpS LK44 where
 ov b:=[(67,.int .i64 b.k)]
 bk b:=[(899,.blk ⟨.bools b.vs,1,8,none,some false,true,true⟩)]
 rd S:=match aget S.t 67,aget S.h 899 with
  |some (.int _ k),some (.blk ⟨.bools vs,_,_,_,_,_,_⟩)=>some ⟨k,vs⟩
  |_,_=>none
 pre b:=∃n:Nat,b.k=n∧(n:Int)≤wdI i∧b.vs=fulK q i n v
 mu b:=(wdI i).toNat-b.k.toNat
def cnt8 (v:List Int)(n:Nat):Nat:=(List.range n).countP fun j=>b8 v j
def beg8 (v:List Int)(n:Nat):Nat:=(List.range n).countP fun j=>b8 v j&& !b8 v ((j+7)%8)
def okV8 (v:List Int):Bool:= !(decide (cnt8 v 8<8)&&(decide (1<beg8 v 8)||decide (4<cnt8 v 8)))
structure LM44 where (seen:List Nat)
def m44 (es:List Ent3)(ck:Nat):LpS LM44 where
 ov b:=[]
 bk b:=[(1537,.mit 320 ck b.seen)]
 rd S:=match aget S.h 1537 with
  |some (.mit _ _ seen)=>some ⟨seen⟩
  |_=>none
 pre b:=(es.all fun e=>okV8 e.2.1)=((leftE es b.seen).all fun e=>okV8 e.2.1)
 mu b:=(leftE es b.seen).length
structure LN44 where (i m g:Int)
def n44 (v:List Int):LpS LN44 where
 ov b:=[(89,.int .i64 b.i),(22,.int .i64 b.m),(23,.int .i64 b.g)]
 bk b:=[]
 rd S:=match aget S.t 89,aget S.t 22,aget S.t 23 with
  |some (.int _ i),some (.int _ m),some (.int _ g)=>some ⟨i,m,g⟩
  |_,_,_=>none
 pre b:=∃n:Nat,b.i=n∧n≤8∧b.m=(cnt8 v n:Nat)∧b.g=(beg8 v n:Nat)
 mu b:=8-b.i.toNat
/-- Is a face convex? -/
def cvB (w:Int)(C:List Int):Bool:=(cvF w C).1.all fun e=>okV8 e.2.1
def e56v:CtE
 |[.agg [.int .i64 w,.int .i64 h],.int .i64 i]=>some ⟨.tup [.agg [.int .i64 (qX w i),.int .i64 (qY w i),.int .u8 (qQ i)],.int .i64 0],[],some (okI w h i=true)⟩
 |_=>none
def YCv:Tab:=tabL [(47,e47v),(56,e56v),(79,e79),(80,e80)] noCh
def YCx:Tab:=tabL [(47,e47x)] noCh
def e44v:CtE
 |[.agg [.int .i64 w,.int .i64 h,.imm (.vals a) n _],.int .i64 f]=>some ⟨.tup [.bool (cvB w (celL (facL w h (unC a)) f)),.int .i64 0],[],some (s5 w h∧okV w h a n∧celL (facL w h (unC a)) f≠[])⟩
 |_=>none
def e44x:CtE
 |[.agg [.int .i64 w,.int .i64 h,.imm (.vals a) n _],.int .i64 f]=>some ⟨.tup [.bool false,.int .i64 (chkI w h (unC a))],[],some (okA a n∧edg (unC a)∧chkI w h (unC a)≠0)⟩
 |_=>none
end Go.Proofs.YtfpcbimohikhmaaDoor.X
/-
 Lines, plainly: sides of lines, corners and octants (by trying all cells of the greatest sheet).
-/
set_option maxRecDepth 1000000
set_option linter.unusedVariables false
set_option linter.unusedSimpArgs false
namespace Go.Proofs.YtfpcbimohikhmaaDoor.X
open Go Go.Ab

/-- The side of a line on which a cell lies. -/
def sdB (k c x y q:Int):Bool:=decide (0<acA k*(6*x+1+hQ q+gQ q)+acB k*(6*y+3+hQ q-gQ q)-6*c)
def ckS (x y q e k c:Int):Bool:=(sdB k c x y q==sdB k c (nbX x q e) (nbY y q e) (nbQ q e))== !(liK x y q e==k&&liC x y q e==c)
def ckR (x y q e:Int):Bool:=(decide (1≤liK x y q e)&&decide (liK x y q e≤4))&&(decide (-5≤liC x y q e)&&decide (liC x y q e≤10))&&(liK (nbX x q e) (nbY y q e) (nbQ q e) e==liK x y q e&&liC (nbX x q e) (nbY y q e) (nbQ q e) e==liC x y q e)
theorem ckR_all:((List.range 5).all fun x=>(List.range 5).all fun y=>(List.range 4).all fun q=>(List.range 3).all fun e=>ckR x y q e)=true:=by decide +kernel
theorem ckS_all:((List.range 5).all fun x=>(List.range 5).all fun y=>(List.range 4).all fun q=>(List.range 3).all fun e=>(List.range 4).all fun k=>(List.range 16).all fun c=>ckS x y q e ((k:Int)+1) ((c:Int)-5))=true:=by decide +kernel
theorem ckR_ok {x y q e:Int}(hx:0≤x∧x≤4)(hy:0≤y∧y≤4)(hq:0≤q∧q≤3)(he:0≤e∧e≤2):(1≤liK x y q e∧liK x y q e≤4)∧(-5≤liC x y q e∧liC x y q e≤10)∧liK (nbX x q e) (nbY y q e) (nbQ q e) e=liK x y q e∧liC (nbX x q e) (nbY y q e) (nbQ q e) e=liC x y q e:=by
 have h:=ckR_all
 simp only[List.all_eq_true,List.mem_range]at h
 have:=h x.toNat (by omega) y.toNat (by omega) q.toNat (by omega) e.toNat (by omega)
 rw[Int.toNat_of_nonneg hx.1,Int.toNat_of_nonneg hy.1,Int.toNat_of_nonneg hq.1,Int.toNat_of_nonneg he.1]at this
 simp only[ckR,Bool.and_eq_true,decide_eq_true_eq,beq_iff_eq]at this
 obtain⟨⟨h1,h2⟩,h3,h4⟩:=this
 exact⟨h1,h2,h3,h4⟩
/-- Which lines. -/
def okLn (k c:Int):Prop:=(1≤k∧k≤4)∧(-5≤c∧c≤10)
theorem ckS_ok {x y q e k c:Int}(hx:0≤x∧x≤4)(hy:0≤y∧y≤4)(hq:0≤q∧q≤3)(he:0≤e∧e≤2)(hl:okLn k c):sdB k c x y q=sdB k c (nbX x q e) (nbY y q e) (nbQ q e)↔¬ (liK x y q e=k∧liC x y q e=c):=by
 have h:=ckS_all
 obtain⟨hk,hc⟩:=hl
 simp only[List.all_eq_true,List.mem_range]at h
 have:=h x.toNat (by omega) y.toNat (by omega) q.toNat (by omega) e.toNat (by omega) (k-1).toNat (by omega) (c+5).toNat (by omega)
 rw[Int.toNat_of_nonneg hx.1,Int.toNat_of_nonneg hy.1,Int.toNat_of_nonneg hq.1,Int.toNat_of_nonneg he.1,show(((k-1).toNat:Nat):Int)+1=k by omega,show(((c+5).toNat:Nat):Int)-5=c by omega]at this
 simp only[ckS,beq_iff_eq]at this
 have h3:(liK x y q e==k&&liC x y q e==c)=true↔liK x y q e=k∧liC x y q e=c:=by simp
 rw[← h3]
 cases hb:(liK x y q e==k&&liC x y q e==c)
 ·rw[hb]at this
  simpa using this
 ·rw[hb]at this
  simpa using this
/-! ### The eight octants around a point -/
/-- An octant's cell has a corner at the point. -/
def inSec (q i:Int)(j:Nat):Bool:=(List.range (wdI i).toNat).any fun(k:Nat)=>((secI q i+k).tmod 8).toNat==j
/-! ### Eight marks -/
def bl (l:List Bool)(j:Nat):Bool:=l.getD j false
end Go.Proofs.YtfpcbimohikhmaaDoor.X
