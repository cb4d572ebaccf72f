/-
 What the functions on faces compute: creases in a map, the cells of a face, their numbers.
-/
import Derived.Test.YtfpcbimohikhmaaDoorQPFZ
import Derived.Test.YtfpcbimohikhmaaDoorAb4
set_option maxRecDepth 1000000
set_option linter.unusedVariables false
namespace Go.Proofs.YtfpcbimohikhmaaDoor.X
open Go Go.Ab

/-! ### The creases of a pattern, in a map -/
def kkU:MV:=⟨true,[some .i64,some .u8]⟩
def vkB:MV:=⟨false,[none]⟩
def crS (s:List Ent3×Nat)(c:Cr):List Ent3×Nat:=(mput s.1 [c.1,c.2.1] [1] s.2,mck s.1 [c.1,c.2.1] s.2)
def crF (cs:List Cr):List Ent3×Nat:=cs.foldl crS ([],0)
def blkMf (es:List Ent3)(ck:Nat):Blk:=⟨.maps kkU vkB es ck,1,0,none,some false,true,true⟩
structure L83 where (i:Int)(es:List Ent3)(ck:Nat)
def l83 (l:List Cr):LpS L83 where
 ov b:=[(13,.int .i64 b.i)]
 bk b:=[(131,.blk (blkMf b.es b.ck))]
 rd S:=match aget S.t 13,aget S.h 131 with
  |some (.int _ i),some (.blk ⟨.maps _ _ es ck,_,_,_,_,_,_⟩)=>some ⟨i,es,ck⟩
  |_,_=>none
 pre b:=∃n:Nat,b.i=n∧n≤l.length∧b.es=(crF (l.take n)).1∧b.ck=(crF (l.take n)).2
 mu b:=l.length-b.i.toNat
def e83:CtE
 |[.agg [.int .i64 w,.int .i64 h,.imm (.vals a) n _]]=>some ⟨.mp 0,[blkMf (crF (unC a)).1 (crF (unC a)).2],some (okA a n)⟩
 |_=>none
/-! ### Library -/
def e122:CtE
 |[.int .u64 x,.int .u64 y]=>some ⟨.tup [.int .u64 0,.int .u64 y],[],some (x=1∧0≤y∧y<101)⟩
 |_=>none
def e99:CtE
 |[.int .u64 x,.int .u64 y]=>some ⟨.tup [.int .u64 0,.int .u64 y],[],some (x=1∧0≤y∧y<101)⟩
 |_=>none
def YA:Tab:=tabL [(122,e122)] noCh
def YB:Tab:=tabL [(99,e99)] noCh
def rpB (x:Int)(n:Nat):Blk:=⟨.ints .i64 (List.replicate n x),1,n,some n,some false,true,false⟩
structure J84 where (l:List Int)(k:Nat)
def j84 (z:Int):LpS J84 where
 ov b:=[(7,.full 450 (b.k+1))]
 bk b:=[(450,.blk ⟨.ints .i64 b.l,1,b.k+1,some (b.k+1),some false,true,false⟩)]
 rd S:=match aget S.h 450 with
  |some (.blk ⟨.ints _ l,_,n,_,_,_,_⟩)=>some ⟨l,n-1⟩
  |_=>none
 pre b:=b.l.length=b.k+1∧(b.k:Int)+1=z
 mu _:=0
structure L84 where (i:Int)(l:List Int)
def l84 (x:Int)(n:Nat):LpS L84 where
 ov b:=[(8,.int .i64 b.i),(7,.full 450 n)]
 bk b:=[(450,.blk ⟨.ints .i64 b.l,1,n,some n,some false,true,false⟩)]
 rd S:=match aget S.t 8,aget S.h 450 with
  |some (.int _ i),some (.blk ⟨.ints _ l,_,_,_,_,_,_⟩)=>some ⟨i,l⟩
  |_,_=>none
 pre b:=∃m:Nat,b.i=m∧0<m∧m≤n∧b.l.length=n∧∀j,j<m→b.l.getD j 0=x
 mu b:=n-b.i.toNat
def e84:CtE
 |[.imm (.ints .i64 [x]) m _,.int .i64 n]=>some ⟨.full 0 n.toNat,[rpB x n.toNat],some (m=1∧0<n∧n<101)⟩
 |_=>none
def e85:CtE
 |[.agg [.int .i64 w,.int .i64 h]]=>some ⟨.int .i64 (bI (okS w h) (4*w*h) 0),[],none⟩
 |_=>none
def YC:Tab:=tabL [(64,e64)] noCh
def e82:CtE
 |[.imm (.ints .i64 a) n _]=>some ⟨.imm (.ints .i64 a) n (some n),[],some (n=a.length∧n<1000000000)⟩
 |_=>none
/-- The greatest number. -/
def maxL:List Int→Int
 |[]=>0
 |x::r=>r.foldl max x
def l78 (a:List Int):LpS (Int×Int) where
 ov b:=[(4,.int .i64 b.1),(3,.int .i64 b.2)]
 bk b:=[]
 rd S:=match aget S.t 4,aget S.t 3 with
  |some (.int _ i),some (.int _ m)=>some (i,m)
  |_,_=>none
 pre b:=∃n:Nat,b.1=n∧1≤n∧n≤a.length∧b.2=maxL (a.take n)
 mu b:=a.length-b.1.toNat
def e78:CtE
 |[.imm (.ints .i64 a) n _]=>some ⟨.int .i64 (maxL a),[],some (n=a.length∧0<n∧n<1000000000)⟩
 |_=>none
/-! ### Gathering a face -/
def YG:Tab:=tabL [(70,e70)] noCh
def boxO (n:Nat):HO:=.blk ⟨.cells [.full 24832 n],1,1,none,some false,true,true⟩
def rowO (l:List Int)(n:Nat):HO:=.blk ⟨.ints .i64 l,1,n,some n,some false,true,false⟩
def boxPt (w h:Int)(l:List Cr)(n:Nat):HO:=.blk ⟨.cells [.int .i64 w,.int .i64 h,.imm (.vals (flatC l)) n none],3,1,none,some false,true,true⟩
def boxM:HO:=.blk ⟨.cells [.mp 20544],1,1,none,some false,true,true⟩
/-- The heap at a call. -/
def hpF (w h:Int)(l:List Cr)(out:List Int):List (Nat×HO):=
 [(20544,.blk (blkMf (crF l).1 (crF l).2)),(322,boxM),(64,boxPt w h l l.length),(24832,rowO out (nC w h)),(389,boxO (nC w h))]
def unl (out:List Int):Nat:=out.countP fun x=>x<0
structure LG where (out:List Int)(q:List Int)(v d:Nat)
/-- Cell by cell. -/
def l86 (w h:Int)(l:List Cr)(m:Nat):LpS LG where
 ov b:=[(7,.qu 129 b.v b.d)]
 bk b:=[(24832,rowO b.out (nC w h)),(129,.que .i64 b.q b.v)]
 rd S:=match aget S.t 7,aget S.h 24832,aget S.h 129 with
  |some (.qu _ v d),some (.blk ⟨.ints _ o,_,_,_,_,_,_⟩),some (.que _ q _)=>some ⟨o,q,v,d⟩
  |_,_,_=>none
 pre b:=b.d≤b.q.length∧unl b.out+(b.q.length-b.d)≤nC w h+1∧∃cur,GI w h l m b.out (b.q.drop b.d) cur 3
 mu b:=unl b.out+(b.q.length-b.d)
structure LH where (out:List Int)(q:List Int)(v d:Nat)(k:Int)
/-- Edge by edge. -/
def m86 (w h:Int)(l:List Cr)(m:Nat)(c:Int)(s:Nat):LpS LH where
 ov b:=[(7,.qu 129 b.v b.d),(25,.int .u8 b.k)]
 bk b:=[(24832,rowO b.out (nC w h)),(129,.que .i64 b.q b.v)]
 rd S:=match aget S.t 7,aget S.h 24832,aget S.h 129,aget S.t 25 with
  |some (.qu _ v d),some (.blk ⟨.ints _ o,_,_,_,_,_,_⟩),some (.que _ q _),some (.int _ k)=>some ⟨o,q,v,d,k⟩
  |_,_,_,_=>none
 pre b:=b.d≤b.q.length∧0≤b.k∧b.k≤3∧GI w h l m b.out (b.q.drop b.d) c b.k∧unl b.out+(b.q.length-b.d)=s
 mu b:=3-b.k.toNat
end Go.Proofs.YtfpcbimohikhmaaDoor.X
