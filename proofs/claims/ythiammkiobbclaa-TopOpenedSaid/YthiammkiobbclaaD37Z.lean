/-
 Rings that are opened; rings and strips as plain data; the law.
-/
import Derived.Test.YthiammkiobbclaaD36Z
import Derived.Test.YthiammkiobbclaaLCZ
set_option maxRecDepth 1000000
set_option linter.unusedVariables false
namespace Go.Proofs.Ythiammkiobbclaa.X
open Go Go.Ab

/-! ### slices.Concat, begun -/
def rotT (l:List Int)(i:Nat):List Int:=l.drop i++l.take i
def eGrow (k:IntKind)(by_:Int):CtE
 |[.nils,.int .i64 n]=>some ⟨.full 0 0,[blkN k []],some (0<n∧n<1000000000000)⟩
 |_=>none
def eCat (k:IntKind):CtE
 |[.imm (.vals [.imm (.ints k1 x) n none,.imm (.ints k2 y) m none]) 2 _]=>cond (beqK k1 k&&beqK k2 k) (some ⟨.full 0 (x++y).length,[blkN k (x++y)],some (n=x.length∧m=y.length∧0<x.length+y.length∧x.length+y.length<100000000000)⟩) none
 |_=>none
def chT1 (k:IntKind)(id f1:Nat)(h:List (Nat×HO))(cv:AV)(args:List AV):Option Cx:=
 match cv,args,aget h id with
 |.fn f [] [],[.full i n],some (.blk ⟨.ints _ l,_,_,_,_,_,_⟩)=>cond (Nat.beq i id&&Nat.beq f f1) (some ⟨.fullc id n n,[],some (h=[(id,.blk (blkN k l))]∧n=l.length)⟩) none
 |_,_,_=>none
def eBegun (k:IntKind):CtE
 |[.imm (.ints k1 a) n _,.int .i64 i]=>cond (beqK k1 k) (some ⟨.fullc 0 (rotT a i.toNat).length (rotT a i.toNat).length,[blkN k (rotT a i.toNat)],some (n=a.length∧0<a.length∧a.length<100000000000∧0≤i∧i≤a.length)⟩) none
 |_=>none
def v1:List (Nat×CtE):=[(38,eGrow .i64 8),(39,eGrow .u8 1)]
def V1:Tab:=tabL v1 noCh
def v2:List (Nat×CtE):=[(22,eCat .i64),(23,eCat .u8)]
def V13:Tab:=tabL v2 (chT1 .i64 8640 21)
def V15:Tab:=tabL v2 (chT1 .u8 8640 14)
/-! ### Open -/
def v5:List (Nat×CtE):=[(10,rg36),(11,rg37),(12,rg63),(13,eBegun .i64),(15,eBegun .u8),(14,eClip .u8)]
def V5:Tab:=tabL v5 noCh
def s5:CtE
 |[.agg [.imm (.ints .i64 a) n _,.imm (.ints .u8 k) m _],.int .i64 c]=>some ⟨.tup [.agg [.fullc 0 a.length a.length,.imm (.ints .u8 (k.take (k.length-1))) (k.length-1) (some (k.length-1))],.int .i64 0],[blkN .i64 a],some (n=a.length∧m=k.length∧okRing a k∧c=(k.length:Int)-1)⟩
 |_=>none
/-! ### Strips and rings as plain data -/
def gk (ks:List Int)(i:Nat):Int:=if i<ks.length then 1+(ks.getD i 0).tmod 3 else 1
def aS (ls:List Int):List Int:=if ls=[]then[1]else(ls.take 12).map fun x=>1+x.tmod 8
def kS (ks:List Int)(n:Nat):List Int:=(List.range n).map (gk ks)
/-- A block of which it is not told whether its slice is nil. -/
def blkQ (a:List Int):Blk:=⟨.ints .i64 a,1,a.length,none,none,true,false⟩
structure L9 where (i:Int)(a k:List Int)
def l9 (ls ks:List Int):LpS L9 where
 ov b:=[(4,.int .i64 b.i)]
 bk b:=[(128,.blk ⟨.cells [.full 9001 b.a.length,.full 9002 b.k.length],2,1,none,some false,true,true⟩),(9001,.blk (blkI b.a)),(9002,.blk (blkK b.k))]
 rd S:=match aget S.t 4,aget S.h 9001,aget S.h 9002 with
  |some (.int _ d),some (.blk ⟨.ints _ a,_,_,_,_,_,_⟩),some (.blk ⟨.ints _ k,_,_,_,_,_,_⟩)=>some ⟨d,a,k⟩
  |_,_,_=>none
 pre b:=∃n:Nat,b.i=n∧n≤ls.length∧n≤12∧b.a=(ls.take n).map (fun x=>1+x.tmod 8)∧b.k=kS ks (n-1)
 mu b:=ls.length-b.i.toNat
def s9:CtE
 |[.agg [.imm (.ints .u8 ls) n _,.imm (.ints .u8 ks) m _]]=>some ⟨.agg [.full 0 (aS ls).length,.full 1 (kS ks ((aS ls).length-1)).length],[blkQ (aS ls),blkK (kS ks ((aS ls).length-1))],some (n=ls.length∧m=ks.length∧okK ls∧okK ks∧ls.length≤12)⟩
 |_=>none
def smA (s:List Int):Int:=gR (raysL s) s.length
def rA (ls:List Int):List Int:=
 if(aS ls).length%2=0 then(if 0<smA (aS ls)then(aS ls).set ((aS ls).length-1) ((aS ls).getD ((aS ls).length-1) 0+smA (aS ls))else(aS ls).set 0 ((aS ls).getD 0 0-smA (aS ls)))
 else if smA (aS ls)<1 then(aS ls).set 0 ((aS ls).getD 0 0+1-smA (aS ls))++[1]else aS ls++[smA (aS ls)]
def rK (ls ks:List Int)(x:Int):List Int:=
 if(aS ls).length%2=0 then kS ks ((aS ls).length-1)++[1+x.tmod 3]else(kS ks ((aS ls).length-1)++[1+(x.tdiv 3).tmod 3])++[1+x.tmod 3]
structure L4 where (i s:Int)(a k:List Int)
def l4 (A K:List Int):LpS L4 where
 ov b:=[(7,.int .i64 b.i),(6,.int .i64 b.s)]
 bk b:=[(321,.blk ⟨.cells [.full 9001 b.a.length,.full 9002 b.k.length],2,1,none,some false,true,true⟩),(9001,.blk (blkI b.a)),(9002,.blk (blkK b.k))]
 rd S:=match aget S.t 7,aget S.t 6,aget S.h 9001,aget S.h 9002 with
  |some (.int _ d),some (.int _ s),some (.blk ⟨.ints _ a,_,_,_,_,_,_⟩),some (.blk ⟨.ints _ k,_,_,_,_,_,_⟩)=>some ⟨d,s,a,k⟩
  |_,_,_,_=>none
 pre b:=∃n:Nat,b.i=n∧n≤A.length∧b.s=gR (raysL A) n∧b.a=A.take n∧b.k=K.take n
 mu b:=A.length-b.i.toNat
def V4:Tab:=tabL [(9,s9)] noCh
def s4:CtE
 |[.agg [.imm (.ints .u8 ls) n _,.imm (.ints .u8 ks) m _,.int .u8 x]]=>some ⟨.agg [.full 0 (rA ls).length,.full 1 (rK ls ks x).length],[blkI (rA ls),blkK (rK ls ks x)],some (n=ls.length∧m=ks.length∧okK ls∧okK ks∧ls.length≤5∧0≤x∧x≤255)⟩
 |_=>none
def V3:Tab:=tabL [(4,s4),(5,s5),(6,rg8),(7,s7),(8,eTrue)] noCh
end Go.Proofs.Ythiammkiobbclaa.X
