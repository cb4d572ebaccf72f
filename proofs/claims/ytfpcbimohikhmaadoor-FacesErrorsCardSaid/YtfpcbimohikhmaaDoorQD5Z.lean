/-
 What the functions on cells and sheets compute.
-/
import Derived.Test.YtfpcbimohikhmaaDoorQDZ
import Derived.Test.YtfpcbimohikhmaaDoorAb6

set_option maxRecDepth 1000000
set_option linter.unusedVariables false
namespace Go.Proofs.YtfpcbimohikhmaaDoor.X
open Go Go.Ab

/-! ### The cell that has three corners -/
def p3 (a b c j:Int):Int:=if j=0 then a else if j=1 then b else c
def evB (x y:Int):Bool:=x.tmod 2==0||y.tmod 2==0
def hf (x:Int):Int:=(x-1).tdiv 2
def mtB (mx my ax ay bx by_ q:Int):Bool:=
 ((2*hf mx+hQ q==ax&&2*hf my+hQ q==ay)&&(2*hf mx+gQ q==bx&&2*hf my+(2-gQ q)==by_))||
 ((2*hf mx+hQ q==bx&&2*hf my+hQ q==by_)&&(2*hf mx+gQ q==ax&&2*hf my+(2-gQ q)==ay))
def fndQ (f:Int→Bool):Nat→Int→Int
 |0,n=>n
 |k+1,n=>cond (f n) n (fndQ f k (n+1))
def wthM (x0 y0 x1 y1 x2 y2:Int)(i:Int)(q:Int):Bool:=
 mtB (p3 x0 x1 x2 i) (p3 y0 y1 y2 i) (p3 x0 x1 x2 ((i+1).tmod 3)) (p3 y0 y1 y2 ((i+1).tmod 3)) (p3 x0 x1 x2 ((i+2).tmod 3)) (p3 y0 y1 y2 ((i+2).tmod 3)) q
def wth (x0 y0 x1 y1 x2 y2:Int):Nat→Int→Int×Int×Int
 |0,_=>(0,0,4)
 |k+1,i=>cond (evB (p3 x0 x1 x2 i) (p3 y0 y1 y2 i)) (wth x0 y0 x1 y1 x2 y2 k (i+1))
  (cond (decide (fndQ (wthM x0 y0 x1 y1 x2 y2 i) 4 0<4)) (hf (p3 x0 x1 x2 i),hf (p3 y0 y1 y2 i),fndQ (wthM x0 y0 x1 y1 x2 y2 i) 4 0) (wth x0 y0 x1 y1 x2 y2 k (i+1)))
def wX (x0 y0 x1 y1 x2 y2:Int):Int:=(wth x0 y0 x1 y1 x2 y2 3 0).1
def wY (x0 y0 x1 y1 x2 y2:Int):Int:=(wth x0 y0 x1 y1 x2 y2 3 0).2.1
def wQ (x0 y0 x1 y1 x2 y2:Int):Int:=(wth x0 y0 x1 y1 x2 y2 3 0).2.2
def sml2 (x:Int):Prop:= -1000≤x∧x≤1000
def e89:CtE
 |[.agg [.int .i64 x0,.int .i64 y0,.int .i64 x1,.int .i64 y1,.int .i64 x2,.int .i64 y2]]=>some ⟨.agg [.int .i64 (wX x0 y0 x1 y1 x2 y2),.int .i64 (wY x0 y0 x1 y1 x2 y2),.int .u8 (wQ x0 y0 x1 y1 x2 y2)],[],
   some (sml2 x0∧sml2 y0∧sml2 x1∧sml2 y1∧sml2 x2∧sml2 y2)⟩
 |_=>none
structure L89 where (i:Int)
def l89 (x0 y0 x1 y1 x2 y2:Int):LpS L89 where
 ov b:=[(3,.int .i64 b.i)]
 bk b:=[]
 rd S:=match aget S.t 3 with
  |some (.int _ i)=>some ⟨i⟩
  |_=>none
 pre b:=∃n:Nat,b.i=n∧n≤3∧wth x0 y0 x1 y1 x2 y2 3 0=wth x0 y0 x1 y1 x2 y2 (3-n) n
 mu b:=3-b.i.toNat
def m89 (x0 y0 x1 y1 x2 y2 i:Int):LpS L89 where
 ov b:=[(7,.int .u8 b.i)]
 bk b:=[]
 rd S:=match aget S.t 7 with
  |some (.int _ i)=>some ⟨i⟩
  |_=>none
 pre b:=∃n:Nat,b.i=n∧n≤4∧fndQ (wthM x0 y0 x1 y1 x2 y2 i) 4 0=fndQ (wthM x0 y0 x1 y1 x2 y2 i) (4-n) n
 mu b:=4-b.i.toNat
def cC':List (Nat×CtE):=(88,e88)::(42,e42)::cB'
/-! ### The neighbour behind an edge -/
def nbX (x q e:Int):Int:=if e=0 then(if q=1 then x+1 else if q=3 then x-1 else x)else x
def nbY (y q e:Int):Int:=if e=0 then(if q=2 then y+1 else if q=0 then y-1 else y)else y
def nbQ (q e:Int):Int:=if e=0 then(if q≤1 then q+2 else q-2)else if e=1 then(if q=0 then 1 else if q=1 then 0 else if q=2 then 3 else 2)else 3-q
def e55:CtE
 |[.agg [.int .i64 x,.int .i64 y,.int .u8 q],.int .i64 e]=>some ⟨.agg [.int .i64 (nbX x q e),.int .i64 (nbY y q e),.int .u8 (nbQ q e)],[],some (0≤x∧x≤4∧0≤y∧y≤4∧0≤q∧q≤3∧0≤e∧e≤2)⟩
 |_=>none
/-- A corner, reflected. -/
def rfX (k c x y:Int):Int:=x-rfD k c x y*acA k
def rfY (k c x y:Int):Int:=y-rfD k c x y*acB k
def cD':List (Nat×CtE):=(89,e89)::cC'
def CD:Tab:=tabL cD' noCh
/-! ### Sheets -/
def okS (w h:Int):Bool:=decide (1≤w∧1≤h∧w≤256∧h≤256∧w*h≤256)
def e64:CtE
 |[.agg [.int .i64 w,.int .i64 h]]=>some ⟨.int .i64 (bI (okS w h) 0 1),[],none⟩
 |_=>none
def e29:CtE
 |[.agg [.int .i64 w,.int .i64 h]]=>some ⟨.int .i64 (bI (okS w h) 1 0),[],none⟩
 |_=>none
def okCl (x y q:Int):Bool:=decide (-4096≤x∧x≤4096∧ -4096≤y∧y≤4096∧q≤3)
def e92:CtE
 |[.agg [.int .i64 x,.int .i64 y,.int .u8 q]]=>some ⟨.int .i64 (bI (okCl x y q) 0 1),[],none⟩
 |_=>none
def hasB (w h i:Int):Bool:=decide (0≤i∧i<4*w*h)
def e90:CtE
 |[.agg [.int .i64 w,.int .i64 h],.int .i64 i]=>some ⟨.bool (hasB w h i),[],some (okS w h=true)⟩
 |_=>none
def qX (w i:Int):Int:=(i.tdiv 4).tmod w
def qY (w i:Int):Int:=(i.tdiv 4).tdiv w
def qQ (i:Int):Int:=i.tmod 4
def e91:CtE
 |[.agg [.int .i64 w,.int .i64 h],.int .i64 i]=>some ⟨.agg [.int .i64 (qX w i),.int .i64 (qY w i),.int .u8 (qQ i)],[],some (okS w h=true∧hasB w h i=true)⟩
 |_=>none
def ceE (w h i:Int):Int:=bI (okS w h) (bI (hasB w h i) 0 7) 1
def okI (w h i:Int):Bool:=okS w h&&hasB w h i
def e56:CtE
 |[.agg [.int .i64 w,.int .i64 h],.int .i64 i]=>some ⟨.tup [.agg [.int .i64 (bI (okI w h i) (qX w i) 0),.int .i64 (bI (okI w h i) (qY w i) 0),.int .u8 (bI (okI w h i) (qQ i) 0)],.int .i64 (ceE w h i)],[],none⟩
 |_=>none
def inB (w h x y:Int):Bool:=decide (0≤x∧x<w∧0≤y∧y<h)
def e57:CtE
 |[.agg [.int .i64 w,.int .i64 h],.agg [.int .i64 x,.int .i64 y,.int .u8 q]]=>some ⟨.tup [.int .i64 (bI (inB w h x y) (4*(y*w+x)+q) 0),.int .i64 (bI (inB w h x y) 0 7)],[],some (okS w h=true∧0≤q∧q≤3∧sml2 x∧sml2 y)⟩
 |_=>none
def e96:CtE
 |[.agg [.int .i64 x,.int .i64 y,.int .u8 q],.int .u8 e]=>some ⟨.tup [.agg [.int .i64 (bI (decide (e≤2)) (nbX x q e) 0),.int .i64 (bI (decide (e≤2)) (nbY y q e) 0),.int .u8 (bI (decide (e≤2)) (nbQ q e) 0)],.int .i64 (bI (decide (e≤2)) 0 1)],[],
   some (-900≤x∧x≤900∧ -900≤y∧y≤900∧0≤q∧q≤3∧0≤e)⟩
 |_=>none
def cS':List (Nat×CtE):=(64,e64)::(29,e29)::(92,e92)::[]
def cS2':List (Nat×CtE):=(90,e90)::(91,e91)::cS'
def CS2:Tab:=tabL cS2' noCh
/-- The neighbour's id, or -1. -/
def nbI (w h i e:Int):Int:=cond (inB w h (nbX (qX w i) (qQ i) e) (nbY (qY w i) (qQ i) e)) (4*(nbY (qY w i) (qQ i) e*w+nbX (qX w i) (qQ i) e)+nbQ (qQ i) e) (-1)
def neE (w h i e:Int):Int:=cond (okI w h i) (cond (decide (e≤2)) (bI (leb 0 (nbI w h i e)) 0 7) 1) (ceE w h i)
def okN (w h i e:Int):Bool:=okI w h i&&(decide (e≤2)&&leb 0 (nbI w h i e))
def e70:CtE
 |[.agg [.int .i64 w,.int .i64 h],.int .i64 i,.int .u8 e]=>some ⟨.tup [.int .i64 (bI (okN w h i e) (nbI w h i e) 0),.int .i64 (neE w h i e)],[],some (0≤e)⟩
 |_=>none
def nmC (w h i e:Int):Int:=bI (okN w h i e) (min i (nbI w h i e)) 0
def nmE (w h i e:Int):Int:=bI (okN w h i e) e 0
def e58:CtE
 |[.agg [.int .i64 w,.int .i64 h],.int .i64 i,.int .u8 e]=>some ⟨.tup [.agg [.int .i64 (nmC w h i e),.int .u8 (nmE w h i e)],.int .i64 (neE w h i e)],[],some (0≤e)⟩
 |_=>none
def cS3':List (Nat×CtE):=(56,e56)::(57,e57)::(96,e96)::cS2'
def CS3:Tab:=tabL cS3' noCh
def cS4':List (Nat×CtE):=(70,e70)::cS3'
def CS4:Tab:=tabL cS4' noCh
def idI (w h x y q:Int):Int:=cond (inB w h x y) (4*w*y+4*x+q) (-1)
def e54:CtE
 |[.agg [.int .i64 w,.int .i64 h],.agg [.int .i64 x,.int .i64 y,.int .u8 q]]=>some ⟨.int .i64 (idI w h x y q),[],some (okS w h=true∧0≤q∧q≤3∧sml2 x∧sml2 y)⟩
 |_=>none
/-- Sheets of the statements. -/
def s5 (w h:Int):Prop:=1≤w∧w≤5∧1≤h∧h≤5
def e21:CtE
 |[.agg [.int .i64 w,.int .i64 h],.int .i64 i,.int .i64 e]=>some ⟨.int .i64 (nbI w h i e),[],some (s5 w h∧0≤i∧i<4*w*h∧0≤e∧e≤2)⟩
 |_=>none
def cN':List (Nat×CtE):=(55,e55)::(54,e54)::[]
def CN:Tab:=tabL cN' noCh
end Go.Proofs.YtfpcbimohikhmaaDoor.X

/-
 What the functions on units and patterns compute: units, kinds, patterns of kinds.
-/
set_option maxRecDepth 1000000
set_option linter.unusedVariables false
namespace Go.Proofs.YtfpcbimohikhmaaDoor.X
open Go Go.Ab

/-- A unit's number: three times the cell, and the edge. -/
def unB (w h c:Int):Bool:=ltb (c/3) (nbI w h (c/3) (c%3))
def unL (w h:Int)(n:Nat):List Int:=((List.range n).map Int.ofNat).filter (unB w h)
def units (w h:Int):List Int:=unL w h (3*(4*w*h).toNat)
def flatU (l:List Int):List AV:=l.flatMap fun c=>[.int .i64 (c/3),.int .u8 (c%3)]
def uC (l:List Int)(i:Int):Int:=l[i.toNat]?.getD 0/3
def uE (l:List Int)(i:Int):Int:=l[i.toNat]?.getD 0%3
def cU':List (Nat×CtE):=[(21,e21)]
def CU:Tab:=tabL cU' noCh
def blkU (l:List AV)(n:Nat):HO:=.blk ⟨.vals l,2,n,none,some true,true,false⟩
structure L20 where (i:Int)(l:List AV)(n:Nat)
def l20 (w h:Int):LpS L20 where
 ov b:=[(4,.int .i64 b.i),(3,.full 9001 b.n)]
 bk b:=[(9001,blkU b.l b.n)]
 rd S:=match aget S.t 4,aget S.h 9001 with
  |some (.int _ i),some (.blk ⟨.vals l,_,n,_,_,_,_⟩)=>some ⟨i,l,n⟩
  |_,_=>none
 pre b:=∃k:Nat,b.i=k∧k≤(4*w*h).toNat∧b.l=flatU (unL w h (3*k))∧b.n=(unL w h (3*k)).length
 mu b:=(4*w*h).toNat-b.i.toNat
def m20 (w h i:Int):LpS L20 where
 ov b:=[(5,.int .i64 b.i),(3,.full 9001 b.n)]
 bk b:=[(9001,blkU b.l b.n)]
 rd S:=match aget S.t 5,aget S.h 9001 with
  |some (.int _ i),some (.blk ⟨.vals l,_,n,_,_,_,_⟩)=>some ⟨i,l,n⟩
  |_,_=>none
 pre b:=∃k:Nat,b.i=k∧k≤3∧b.l=flatU (unL w h (3*i.toNat+k))∧b.n=(unL w h (3*i.toNat+k)).length
 mu b:=3-b.i.toNat
def unV (w h:Int):AV:=.imm (.vals (flatU (units w h))) (units w h).length none
def e20:CtE
 |[.agg [.int .i64 w,.int .i64 h]]=>some ⟨unV w h,[],some (s5 w h)⟩
 |_=>none
/-- Creases: cell, edge, kind. -/
abbrev Cr:Type:=Int×Int×Int
def RCr:RowS Cr where
 k:=3
 row x:=[(.i64,x.1),(.u8,x.2.1),(.u8,x.2.2)]
 len _:=rfl
def flatC (l:List Cr):List AV:=l.flatMap RCr.av
def cC (l:List Cr)(i:Int):Int:=(l[i.toNat]?.getD (0,0,0)).1
def cE (l:List Cr)(i:Int):Int:=(l[i.toNat]?.getD (0,0,0)).2.1
def cK (l:List Cr)(i:Int):Int:=(l[i.toNat]?.getD (0,0,0)).2.2
def crV (l:List Cr)(i:Int):List AV:=[.int .i64 (cC l i),.int .u8 (cE l i),.int .u8 (cK l i)]
/-- The creases of the units that have a kind. -/
def wthL:List Int→List Int→List Cr
 |c::us,k::ks=>if k=0 then wthL us ks else(c/3,c%3,k)::wthL us ks
 |_,_=>[]
def patV (w h:Int)(cs:List Cr):AV:=.agg [.int .i64 w,.int .i64 h,.imm (.vals (flatC cs)) cs.length none]
def blkC (l:List AV)(n:Nat):Blk:=⟨.vals l,3,n,none,some true,true,false⟩
def boxP (w h:Int)(n:Nat):HO:=.blk ⟨.cells [.int .i64 w,.int .i64 h,.full 9001 n],3,1,none,some false,true,true⟩
structure L23 where (i:Int)(l:List AV)(n:Nat)
def l23 (w h:Int)(us ks:List Int):LpS L23 where
 ov b:=[(7,.int .i64 b.i)]
 bk b:=[(194,boxP w h b.n),(9001,.blk (blkC b.l b.n))]
 rd S:=match aget S.t 7,aget S.h 9001 with
  |some (.int _ i),some (.blk ⟨.vals l,_,n,_,_,_,_⟩)=>some ⟨i,l,n⟩
  |_,_=>none
 pre b:=∃k:Nat,b.i=k∧k≤us.length∧k≤ks.length∧b.l=flatC (wthL (us.take k) (ks.take k))∧b.n=(wthL (us.take k) (ks.take k)).length
 mu b:=us.length-b.i.toNat
def cW':List (Nat×CtE):=(20,e20)::cU'
def CW:Tab:=tabL cW' noCh
/-- Where a number stands first. -/
def idxL (x:Int):List Int→Int→Int
 |[],_=> -1
 |y::r,i=>if y=x then i else idxL x r (i+1)
def unI (w h i e:Int):Int:=cond (hasB w h i&&(decide (0≤e)&&decide (e≤2))&&leb 0 (nbI w h i e)) (idxL (3*min i (nbI w h i e)+e) (units w h) 0) (-1)
structure L1 where (i:Int)
/-- The kind of a unit: that of the last crease that is on it. -/
def lookK (c:Int)(acc:Int):List Cr→Int
 |[]=>acc
 |x::r=>lookK c (if x.1=c/3∧x.2.1=c%3 then x.2.2 else acc) r
def kindsL (us:List Int)(cs:List Cr):List Int:=us.map fun c=>lookK c 0 cs
structure L19 where (i:Int)(l:List Int)
end Go.Proofs.YtfpcbimohikhmaaDoor.X
/-
 What the functions on patterns compute: the check, look up, set.
-/
set_option maxRecDepth 1000000
set_option linter.unusedVariables false
namespace Go.Proofs.YtfpcbimohikhmaaDoor.X
open Go Go.Ab

/-- The creases of a flat list. -/
def unC:List AV→List Cr
 |.int _ c:: .int _ e:: .int _ k::r=>(c,e,k)::unC r
 |_=>[]
def okA (a:List AV)(n:Nat):Prop:=a=flatC (unC a)∧n=(unC a).length∧(unC a).length<1000000000
def kdB (k:Int):Bool:=leb 1 k&&leb k 3
def e51:CtE
 |[.int .u8 k]=>some ⟨.bool (kdB k),[],none⟩
 |_=>none
def ordI (c e c' e':Int):Int:=if c=c' then e-e' else c-c'
def e61:CtE
 |[.agg [.int .i64 c,.int .u8 e],.agg [.int .i64 c',.int .u8 e']]=>some ⟨.int .i64 (ordI c e c' e'),[],some (sml c∧sml c'∧0≤e∧e≤255∧0≤e'∧e'≤255)⟩
 |_=>none
def e62:CtE
 |[.agg [.int .i64 c,.int .u8 e,.int .u8 k]]=>some ⟨.agg [.int .i64 c,.int .u8 e],[],none⟩
 |_=>none
def cP1':List (Nat×CtE):=(51,e51)::(61,e61)::(62,e62)::(58,e58)::cS4'
def CP1:Tab:=tabL cP1' noCh
def e66:CtE
 |[.agg [.int .i64 c,.int .u8 e,.int .u8 k]]=>some ⟨.bool (!kdB k),[],none⟩
 |_=>none
def e101:CtE
 |[.agg [.int .i64 c,.int .u8 e,.int .u8 k],.agg [.int .i64 c',.int .u8 e']]=>some ⟨.int .i64 (ordI c e c' e'),[],some (sml c∧sml c'∧0≤e∧e≤255∧0≤e'∧e'≤255)⟩
 |_=>none
def cP2':List (Nat×CtE):=(66,e66)::(101,e101)::cP1'
def CP2:Tab:=tabL cP2' noCh
/-! ### The check -/
def badL (l:List Cr):Bool:=l.any fun x=> !kdB x.2.2
def idxB:List Cr→Int→Int
 |[],_=> -1
 |x::r,i=>cond (kdB x.2.2) (idxB r (i+1)) i
def l95 (l:List Cr):LpS L1 where
 ov c:=[(8,.int .i64 c.i)]
 bk c:=[]
 rd S:=match aget S.t 8 with
  |some (.int _ i)=>some ⟨i⟩
  |_=>none
 pre c:=∃n:Nat,c.i=n∧n≤l.length∧idxB (l.drop n) n=idxB l 0
 mu c:=l.length-c.i.toNat
def e95:CtE
 |[.imm (.vals a) n _,.fn 66 [] []]=>some ⟨.int .i64 (idxB (unC a) 0),[],some (okA a n)⟩
 |_=>none
def cP3':List (Nat×CtE):=(95,e95)::cP2'
def CP3:Tab:=tabL cP3' noCh
def e65:CtE
 |[.imm (.vals a) n _,.fn 66 [] []]=>some ⟨.bool (badL (unC a)),[],some (okA a n)⟩
 |_=>none
def cP4':List (Nat×CtE):=(65,e65)::cP3'
def CP4:Tab:=tabL cP4' noCh
/-- Is a crease on a unit that is named so? -/
def unitB (w h:Int)(x:Cr):Bool:=okN w h x.1 x.2.1&&leb x.1 (nbI w h x.1 x.2.1)
def ascB:List Cr→Bool
 |[]=>true
 |x::r=>(match r with
  |[]=>true
  |y::_=>ltb (ordI x.1 x.2.1 y.1 y.2.1) 0)&&ascB r
def chkI (w h:Int)(l:List Cr):Int:=cond (okS w h) (cond (badL l) 1 (cond (l.all (unitB w h)) (cond (ascB l) 0 6) 7)) 1
def edg (l:List Cr):Prop:=∀x∈l,0≤x.2.1∧x.2.1≤255
def l27 (w h:Int)(l:List Cr):LpS L1 where
 ov c:=[(21,.int .i64 c.i)]
 bk c:=[]
 rd S:=match aget S.t 21 with
  |some (.int _ i)=>some ⟨i⟩
  |_=>none
 pre c:=∃n:Nat,c.i=n∧n≤l.length∧(l.take n).all (unitB w h)=true
 mu c:=l.length-c.i.toNat
def m27 (l:List Cr):LpS L1 where
 ov c:=[(8,.int .i64 c.i)]
 bk c:=[]
 rd S:=match aget S.t 8 with
  |some (.int _ i)=>some ⟨i⟩
  |_=>none
 pre c:=∃n:Nat,c.i=n+1∧ascB (l.drop n)=ascB l
 mu c:=l.length-c.i.toNat
def e27:CtE
 |[.agg [.int .i64 w,.int .i64 h,.imm (.vals a) n _]]=>some ⟨.int .i64 (chkI w h (unC a)),[],some (okA a n∧edg (unC a))⟩
 |_=>none
/-! ### Where a unit stands -/
/-- A crease's code. -/
def cdC (x:Cr):Int:=3*x.1+x.2.1
/-- Creases on units, ascending. -/
def srt (l:List Cr):Prop:=l.Pairwise (fun x y=>cdC x<cdC y)∧∀x∈l,sml x.1∧0≤x.2.1∧x.2.1≤2
structure L2 where (i j:Int)
/-! ### at, Kind, Set -/
/-- Ways that meet, with what holds. -/
def jQ (p:Prop):LpS Unit where
 ov b:=[]
 bk b:=[]
 rd S:=some ()
 pre b:=p
 mu b:=0
end Go.Proofs.YtfpcbimohikhmaaDoor.X
/-
 What the functions on whole patterns compute: equal, fits, counts, the reference's check, the opposite, the back side.
-/
set_option maxRecDepth 1000000
set_option linter.unusedVariables false
namespace Go.Proofs.YtfpcbimohikhmaaDoor.X
open Go Go.Ab

structure L2i where (i n:Int)
/-! ### The reference's check -/
def lkI (c e:Int):Int→Int→List Int→Int
 |acc,_,[]=>acc
 |acc,i,u::r=>lkI c e (cond (u/3==c&&u%3==e) i acc) (i+1) r
def rck (us:List Int):Int→Int→List Cr→Int
 |_,o,[]=>o
 |last,o,x::r=>cond (ltb (lkI x.1 x.2.1 (-1) 0 us) 0) 7 (rck us (lkI x.1 x.2.1 (-1) 0 us) (cond (leb (lkI x.1 x.2.1 (-1) 0 us) last) 6 o) r)
def rchI (w h:Int)(l:List Cr):Int:=cond (okS w h) (cond (badL l) 1 (rck (units w h) (-1) 0 l)) 1
def k30 (l:List Cr):LpS L1 where
 ov c:=[(3,.int .i64 c.i)]
 bk c:=[]
 rd S:=match aget S.t 3 with
  |some (.int _ i)=>some ⟨i⟩
  |_=>none
 pre c:=∃n:Nat,c.i=n∧n≤l.length∧badL (l.drop n)=badL l
 mu c:=l.length-c.i.toNat
structure L3i where (i p o:Int)
def l30 (us:List Int)(l:List Cr):LpS L3i where
 ov c:=[(7,.int .i64 c.i),(5,.int .i64 c.p),(6,.int .i64 c.o)]
 bk c:=[]
 rd S:=match aget S.t 7,aget S.t 5,aget S.t 6 with
  |some (.int _ i),some (.int _ p),some (.int _ o)=>some ⟨i,p,o⟩
  |_,_,_=>none
 pre c:=∃n:Nat,c.i=n∧n≤l.length∧rck us c.p c.o (l.drop n)=rck us (-1) 0 l
 mu c:=l.length-c.i.toNat
def m30 (us:List Int)(c e:Int):LpS L2i where
 ov b:=[(9,.int .i64 b.i),(8,.int .i64 b.n)]
 bk b:=[]
 rd S:=match aget S.t 9,aget S.t 8 with
  |some (.int _ i),some (.int _ n)=>some ⟨i,n⟩
  |_,_=>none
 pre b:=∃n:Nat,b.i=n∧n≤us.length∧lkI c e b.n n (us.drop n)=lkI c e (-1) 0 us
 mu b:=us.length-b.i.toNat
def e30:CtE
 |[.agg [.int .i64 w,.int .i64 h,.imm (.vals a) n _]]=>some ⟨.int .i64 (rchI w h (unC a)),[],some (okA a n∧(okS w h=true→s5 w h))⟩
 |_=>none
def cQ4':List (Nat×CtE):=(29,e29)::cW'
def CQ4:Tab:=tabL cQ4' noCh
/-! ### Opposite -/
structure L25 where (i:Int)(l:List AV)
/-! ### The pattern of plain data -/
end Go.Proofs.YtfpcbimohikhmaaDoor.X
