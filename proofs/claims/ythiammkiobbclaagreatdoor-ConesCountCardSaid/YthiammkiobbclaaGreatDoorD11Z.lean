/-
 Cones: what the law's functions compute.
-/
import Derived.Test.YthiammkiobbclaaGreatDoorD7Z
set_option maxRecDepth 1000000
set_option linter.unusedVariables false
namespace Go.Proofs.YthiammkiobbclaaGreatDoor.X
open Go Go.Ab

/-! ### What the law's functions compute -/
/-- Does a sector not lie beside a ray, on one of its sides? -/
def skG (r:List Int)(g:Bool)(y k:Int):Bool:=
 bif g then(ltb y (mnI (gR r k) (gR r (k+1)))||leb (mxI (gR r k) (gR r (k+1))) y)else(leb y (mnI (gR r k) (gR r (k+1)))||ltb (mxI (gR r k) (gR r (k+1))) y)
/-- The crease of a sector at a ray. -/
def crI (n:Int)(r:List Int)(y k:Int):Int:=if gR r (k+1)=y then(k+1).tmod n else(if gR r k=y then k else -1)
def lastB (S:List Int)(c:Int):Bool:=ltb 0 (S.length:Int)&&gR S ((S.length:Int)-1)==c
/-- A scan for brackets. -/
def fitG (sk:Int→Bool)(cr:Int→Int):List Int→List Int→Bool
 |_,[]=>true
 |S,k::o=>bif sk k then fitG sk cr S o else bif ltb (cr k) 0 then(bif ltb 0 (S.length:Int)then false else fitG sk cr S o)
   else bif lastB S (cr k)then fitG sk cr S.dropLast o else bif memB S (cr k)then false else fitG sk cr (S++[cr k]) o
def fitL (n:Nat)(r o:List Int)(y:Int)(g:Bool):Bool:=fitG (skG r g y) (crI n r y) [] o
def fitS (n:Nat)(r:List Int)(y:Int)(g:Bool)(S o:List Int):Bool:=fitG (skG r g y) (crI n r y) S o
def badF (n:Nat)(r o:List Int)(i:Int):Bool:= !fitL n r o (gR r i) true|| !fitL n r o (gR r i) false
def odI (n i:Int):Int:=if i.tmod 2=0 then bfI n i else i
def evI (n i:Int):Int:=if i.tmod 2=0 then i else bfI n i
def wrC1 (n:Nat)(k p:List Int)(i:Int):Bool:=(gR k i==2&&ltb (gR p (odI n i)) (gR p (evI n i)))||(gR k i==1&&ltb (gR p (evI n i)) (gR p (odI n i)))
def posL (o:List Int):List Int:=rkA (List.replicate o.length 0) 0 o
def chkE (a k o:List Int):Int:=if anyN a.length (badF a.length (raysL a) o)=true then 12 else if anyN a.length (wrC1 a.length k (posL o))=true then 13 else 0
/-! ### Contracts -/
def jP (p:Prop):LpS Unit where
 ov _:=[]
 bk _:=[]
 rd S:=some ()
 pre _:=p
 mu _:=0
def e28c:CtE
 |[.agg [.imm (.ints .i64 a) n _,.imm (.ints .u8 k) m _]]=>some ⟨immN .i64 (raysL a),[],some (n=a.length∧m=k.length∧okA a)⟩
 |_=>none
def bk28 (r:List Int):List (Nat×HO):=[(128,.blk ⟨.ints .i64 r,1,r.length,none,some false,true,false⟩)]
def j28:LpS Unit where
 ov _:=[(3,.full 128 1)]
 bk _:=bk28 [0]
 rd S:=some ()
 pre _:=True
 mu _:=0
structure L28 where (i:Int)(r:List Int)
def l28 (a:List Int):LpS L28 where
 ov b:=[(4,.int .i64 b.i),(3,.full 128 b.r.length)]
 bk b:=bk28 b.r
 rd S:=match aget S.t 4,aget S.h 128 with
  |some (.int _ i),some (.blk ⟨.ints _ r,_,_,_,_,_,_⟩)=>some ⟨i,r⟩
  |_,_=>none
 pre b:=∃m:Nat,b.i=m∧m≤a.length∧b.r=(raysL a).take (m+1)
 mu b:=a.length-b.i.toNat
def e35c:CtE
 |[.agg [.imm (.ints .i64 a) n _,.imm (.ints .u8 k) m _],.imm (.ints .i64 o) p _,.int .i64 y,.bool g]=>
  some ⟨.bool (fitL a.length (raysL a) o y g),[],some (n=a.length∧m=k.length∧p=o.length∧okA a∧o.length<1000000∧∀x∈o,0≤x∧x<a.length)⟩
 |_=>none
def t35:List (Nat×CtE):=[(28,e28c)]
def T35:Tab:=tabL t35 noCh
structure L35 where (i:Int)(c:List Int)(n l:Nat)
def bk35 (c:List Int)(n:Nat):List (Nat×HO):=[(9800,.blk ⟨.ints .i64 c,1,n,none,some true,true,false⟩)]
def j35:LpS Unit where
 ov _:=[(11,.vw 9800 0 1 0 0),(12,.int .i64 0)]
 bk _:=bk35 [] 0
 rd S:=some ()
 pre _:=True
 mu _:=0
def k35 (n l:Nat)(p:Prop):LpS Unit where
 ov _:=[(11,.vw 9800 n 1 0 l)]
 bk _:=[]
 rd S:=some ()
 pre _:=p
 mu _:=0
def l35 (a o:List Int)(y:Int)(g:Bool):LpS L35 where
 ov b:=[(12,.int .i64 b.i),(11,.vw 9800 b.n 1 0 b.l)]
 bk b:=bk35 b.c b.n
 rd S:=match aget S.t 12,aget S.t 11,aget S.h 9800 with
  |some (.int _ i),some (.vw _ n _ _ l),some (.blk ⟨.ints _ c,_,_,_,_,_,_⟩)=>some ⟨i,c,n,l⟩
  |_,_,_=>none
 pre b:=∃m:Nat,b.i=m∧m≤o.length∧b.n=b.c.length∧b.l≤b.n∧b.l≤m∧fitS a.length (raysL a) y g (b.c.take b.l) (o.drop m)=fitL a.length (raysL a) o y g
 mu b:=o.length-b.i.toNat
def m35 (c:List Int)(l:Nat)(x:Int):LpS L83 where
 ov b:=[(17,.int .i64 b.i)]
 bk b:=[]
 rd S:=match aget S.t 17 with
  |some (.int _ i)=>some ⟨i⟩
  |_=>none
 pre b:=∃m:Nat,b.i=m∧m≤l∧∀j:Nat,j<m→gR (c.take l) j≠x
 mu b:=l-b.i.toNat
def e14c:CtE
 |[.agg [.imm (.ints .i64 a) n _,.imm (.ints .u8 k) m _],.imm (.ints .i64 o) p _]=>
  some ⟨.int .i64 (chkE a k o),[],some (n=a.length∧m=k.length∧p=o.length∧okA a∧a.length=k.length∧o.Perm ((List.range a.length).map fun(i:Nat)=>(i:Int)))⟩
 |_=>none
def t14:List (Nat×CtE):=[(28,e28c),(35,e35c)]
def T14:Tab:=tabL t14 noCh
def l14 (a o:List Int):LpS L83 where
 ov b:=[(7,.int .i64 b.i)]
 bk b:=[]
 rd S:=match aget S.t 7 with
  |some (.int _ i)=>some ⟨i⟩
  |_=>none
 pre b:=∃m:Nat,b.i=m∧m≤a.length∧∀j:Nat,j<m→badF a.length (raysL a) o j=false
 mu b:=a.length-b.i.toNat
structure L14 where (i:Int)(p:List Int)
def m14 (o:List Int)(n:Nat):LpS L14 where
 ov b:=[(9,.int .i64 b.i)]
 bk b:=[(577,.blk ⟨.ints .i64 b.p,1,n,some n,some false,true,false⟩)]
 rd S:=match aget S.t 9,aget S.h 577 with
  |some (.int _ i),some (.blk ⟨.ints _ p,_,_,_,_,_,_⟩)=>some ⟨i,p⟩
  |_,_=>none
 pre b:=∃m:Nat,b.i=m∧m≤o.length∧b.p.length=n∧rkA b.p m (o.drop m)=posL o
 mu b:=o.length-b.i.toNat
def n14 (a k p:List Int):LpS L83 where
 ov b:=[(10,.int .i64 b.i)]
 bk b:=[]
 rd S:=match aget S.t 10 with
  |some (.int _ i)=>some ⟨i⟩
  |_=>none
 pre b:=∃m:Nat,b.i=m∧m≤a.length∧∀j:Nat,j<m→wrC1 a.length k p j=false
 mu b:=a.length-b.i.toNat
def j14 (x y:Int):LpS Unit where
 ov _:=[(11,.int .i64 x),(12,.int .i64 y)]
 bk _:=[]
 rd S:=some ()
 pre _:=True
 mu _:=0
structure LX where (i:Int)(l:List Int)
structure LY where (i:Int)(l p:List Int)
/-- The examples hold. -/
def e11:CtE
 |[]=>some ⟨.bool true,[],none⟩
 |_=>none
end Go.Proofs.YthiammkiobbclaaGreatDoor.X
