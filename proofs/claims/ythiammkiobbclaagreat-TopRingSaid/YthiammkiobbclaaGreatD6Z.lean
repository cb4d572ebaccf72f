/-
 Cones: what the functions on a folded fan compute.
-/
import Derived.Test.YthiammkiobbclaaGreatD4Z
set_option maxRecDepth 1000000
set_option linter.unusedVariables false
namespace Go.Proofs.YthiammkiobbclaaGreat.X
open Go Go.Ab

/-- A folded fan, by value. -/
def conV (a k r:List Int):AV:=.agg [.imm (.ints .i64 a) a.length none,.imm (.ints .u8 k) k.length none,.imm (.ints .i64 r) r.length none]
def gR (r:List Int)(i:Int):Int:=r[i.toNat]?.getD 0
def mnI (x y:Int):Int:=if y<x then y else x
def mxI (x y:Int):Int:=if y>x then y else x
/-- The sector before a crease. -/
def bfI (n c:Int):Int:=(c+n-1).tmod n
def insB (r:List Int)(ray s:Int):Bool:=ltb (mnI (gR r s) (gR r (s+1))) ray&&ltb ray (mxI (gR r s) (gR r (s+1)))
def ovlB (r:List Int)(a b:Int):Bool:=ltb (mxI (mnI (gR r a) (gR r (a+1))) (mnI (gR r b) (gR r (b+1)))) (mnI (mxI (gR r a) (gR r (a+1))) (mxI (gR r b) (gR r (b+1))))
def sidB (r:List Int)(c:Int):Bool:=ltb (gR r c) (gR r (c+1))
def btwB (n:Int)(rk:List Int)(c s:Int):Bool:=leb 0 (mnI (gR rk (bfI n c)) (gR rk c))&&(ltb (mnI (gR rk (bfI n c)) (gR rk c)) (gR rk s)&&ltb (gR rk s) (mxI (gR rk (bfI n c)) (gR rk c)))
def crs1 (n:Int)(r rk:List Int)(i k:Int):Bool:=
 (insB r (gR r i) k&&btwB n rk i k)||((k !=i)&&((gR r k==gR r i)&&((sidB r k==sidB r i)&&(leb 0 (mnI (gR rk (bfI n k)) (gR rk k))&&(btwB n rk i (bfI n k) !=btwB n rk i k)))))
def anyN (n:Nat)(f:Int→Bool):Bool:=(List.range n).any fun i=>f i
def crsB (n:Nat)(r rk:List Int):Bool:=anyN n fun i=>anyN n fun k=>crs1 n r rk i k
def kdI (n:Int)(rk:List Int)(c:Int):Int:=
 if(bfI n c).tmod 2=0 then(if gR rk (bfI n c)<gR rk c then 2 else 1)else(if gR rk c<gR rk (bfI n c)then 2 else 1)
def wrg1 (k rk:List Int)(i:Int):Bool:=(gR k i !=3)&&(leb 0 (mnI (gR rk (bfI k.length i)) (gR rk i))&&(gR k i !=kdI k.length rk i))
def wrgB (k rk:List Int):Bool:=anyN k.length fun i=>wrg1 k rk i
/-- The ranks of an order. -/
def rkA (rk:List Int)(i:Int):List Int→List Int
 |[]=>rk
 |x::r=>rkA (rk.set x.toNat i) (i+1) r
def rkF (o:List Int):List Int:=rkA (List.replicate 8 (-1)) 0 o
def rkO (o:List Int)(i:Int):Int:=gR (rkF o) i
def rkL (o:List Int):List Int:=[rkO o 0,rkO o 1,rkO o 2,rkO o 3,rkO o 4,rkO o 5,rkO o 6,rkO o 7]
def rkV (o:List Int):AV:=.agg [.int .i64 (rkO o 0),.int .i64 (rkO o 1),.int .i64 (rkO o 2),.int .i64 (rkO o 3),.int .i64 (rkO o 4),.int .i64 (rkO o 5),.int .i64 (rkO o 6),.int .i64 (rkO o 7)]
def r8V (x0 x1 x2 x3 x4 x5 x6 x7:Int):AV:=.agg [.int .i64 x0,.int .i64 x1,.int .i64 x2,.int .i64 x3,.int .i64 x4,.int .i64 x5,.int .i64 x6,.int .i64 x7]
/-- Orders: numbers below 8. -/
def okO (o:List Int):Prop:=o.length≤8∧∀x∈o,0≤x∧x<8
def cok (a k r:List Int)(n m p:Nat):Prop:=n=a.length∧m=k.length∧p=r.length
def e73:CtE
 |[.agg [.imm (.ints .i64 a) n _,.imm (.ints .u8 k) m _,.imm (.ints .i64 r) p _],.int .i64 c]=>some ⟨.tup [.int .i64 (bfI n c),.int .i64 c],[],some (cok a k r n m p∧0<n∧n≤8∧0≤c∧c<n)⟩
 |_=>none
def e74:CtE
 |[.agg [.imm (.ints .i64 a) n _,.imm (.ints .u8 k) m _,.imm (.ints .i64 r) p _],.int .i64 y,.int .i64 s]=>some ⟨.bool (insB r y s),[],some (cok a k r n m p∧0≤s∧s+1<p∧p≤9)⟩
 |_=>none
def e75:CtE
 |[.agg [.imm (.ints .i64 a) n _,.imm (.ints .u8 k) m _,.imm (.ints .i64 r) p _],.agg [.int .i64 x0,.int .i64 x1,.int .i64 x2,.int .i64 x3,.int .i64 x4,.int .i64 x5,.int .i64 x6,.int .i64 x7],.int .i64 c,.int .i64 s]=>
  some ⟨.bool (btwB n [x0,x1,x2,x3,x4,x5,x6,x7] c s),[],some (cok a k r n m p∧0<n∧n≤8∧0≤c∧c<n∧0≤s∧s<n)⟩
 |_=>none
def e76:CtE
 |[.agg [.imm (.ints .i64 a) n _,.imm (.ints .u8 k) m _,.imm (.ints .i64 r) p _],.int .i64 c]=>some ⟨.bool (sidB r c),[],some (cok a k r n m p∧0≤c∧c+1<p∧p≤9)⟩
 |_=>none
def e82:CtE
 |[.agg [.imm (.ints .i64 a) n _,.imm (.ints .u8 k) m _,.imm (.ints .i64 r) p _],.int .i64 c,.int .i64 d]=>some ⟨.bool (ovlB r c d),[],some (cok a k r n m p∧0≤c∧c+1<p∧0≤d∧d+1<p∧p≤9)⟩
 |_=>none
def e54:CtE
 |[.agg [.imm (.ints .i64 a) n _,.imm (.ints .u8 k) m _,.imm (.ints .i64 r) p _],.agg [.int .i64 x0,.int .i64 x1,.int .i64 x2,.int .i64 x3,.int .i64 x4,.int .i64 x5,.int .i64 x6,.int .i64 x7],.int .i64 c]=>
  some ⟨.int .u8 (kdI n [x0,x1,x2,x3,x4,x5,x6,x7] c),[],some (cok a k r n m p∧0<n∧n≤8∧0≤c∧c<n)⟩
 |_=>none
def tA1:List (Nat×CtE):=[(47,e73)]
def TA1:Tab:=tabL tA1 noCh
def e52:CtE
 |[.agg [.imm (.ints .i64 a) n _,.imm (.ints .u8 k) m _,.imm (.ints .i64 r) p _],.agg [.int .i64 x0,.int .i64 x1,.int .i64 x2,.int .i64 x3,.int .i64 x4,.int .i64 x5,.int .i64 x6,.int .i64 x7]]=>
  some ⟨.bool (crsB n r [x0,x1,x2,x3,x4,x5,x6,x7]),[],some (cok a k r n m p∧n≤8∧p=n+1)⟩
 |_=>none
def e53:CtE
 |[.agg [.imm (.ints .i64 a) n _,.imm (.ints .u8 k) m _,.imm (.ints .i64 r) p _],.agg [.int .i64 x0,.int .i64 x1,.int .i64 x2,.int .i64 x3,.int .i64 x4,.int .i64 x5,.int .i64 x6,.int .i64 x7]]=>
  some ⟨.bool (wrgB k [x0,x1,x2,x3,x4,x5,x6,x7]),[],some (cok a k r n m p∧n≤8∧m=n)⟩
 |_=>none
def tA2:List (Nat×CtE):=(48,e74)::(49,e75)::(50,e76)::(55,e82)::(51,e54)::tA1
def TA2:Tab:=tabL tA2 noCh
def l52 (n:Nat)(r rk:List Int):LpS L83 where
 ov b:=[(13,.int .i64 b.i)]
 bk b:=[]
 rd S:=match aget S.t 13 with
  |some (.int _ i)=>some ⟨i⟩
  |_=>none
 pre b:=∃m:Nat,b.i=m∧m≤n∧∀j:Nat,j<m→anyN n (fun k=>crs1 n r rk j k)=false
 mu b:=n-b.i.toNat
def m52 (n:Nat)(r rk:List Int)(i:Int):LpS L83 where
 ov b:=[(20,.int .i64 b.i)]
 bk b:=[]
 rd S:=match aget S.t 20 with
  |some (.int _ i)=>some ⟨i⟩
  |_=>none
 pre b:=∃m:Nat,b.i=m∧m≤n∧∀j:Nat,j<m→crs1 n r rk i j=false
 mu b:=n-b.i.toNat
def l53 (k rk:List Int):LpS L83 where
 ov b:=[(13,.int .i64 b.i)]
 bk b:=[]
 rd S:=match aget S.t 13 with
  |some (.int _ i)=>some ⟨i⟩
  |_=>none
 pre b:=∃m:Nat,b.i=m∧m≤k.length∧∀j:Nat,j<m→wrg1 k rk j=false
 mu b:=k.length-b.i.toNat
def e51:CtE
 |[.imm (.ints .i64 o) n _]=>some ⟨rkV o,[],some (n=o.length∧okO o)⟩
 |_=>none
def e51z:CtE
 |[.nils]=>some ⟨rkV [],[],none⟩
 |_=>none
structure L51 where (i:Int)(rk:List Int)
def l51 (o:List Int):LpS L51 where
 ov b:=[(15,.int .i64 b.i)]
 bk b:=[(128,.blk ⟨.ints .i64 b.rk,1,8,none,some false,true,true⟩)]
 rd S:=match aget S.t 15,aget S.h 128 with
  |some (.int _ i),some (.blk ⟨.ints _ rk,_,_,_,_,_,_⟩)=>some ⟨i,rk⟩
  |_,_=>none
 pre b:=∃m:Nat,b.i=m∧m≤o.length∧b.rk.length=8∧rkA b.rk m (o.drop m)=rkF o
 mu b:=o.length-b.i.toNat
end Go.Proofs.YthiammkiobbclaaGreat.X
