/-
 Rings: the first of the piles that are the same; growing; all ways.
-/
import Derived.Test.YthiammkiobbclaaD21Z
set_option maxRecDepth 1000000
set_option linter.unusedVariables false
namespace Go.Proofs.Ythiammkiobbclaa.X
open Go Go.Ab

/-! ### The first of the piles that are the same -/
def tk32 (o:List Int):List Bool:=(List.range 32).map fun(i:Nat)=>memB o (i:Int)
def bkT (t:List Bool):HO:=.blk ⟨.bools t,1,32,none,some false,true,true⟩
structure L42 where (o:List Int)(t:List Bool)
def j42 (o:List Int):LpS Unit where
 ov _:=[(5,.ptr 130 0)]
 bk _:=[(130,.blk ⟨.ints .i64 (rkG o),1,32,none,some false,true,true⟩)]
 rd S:=some ()
 pre _:=True
 mu _:=0
def l42 (r o:List Int):LpS L42 where
 ov b:=[(6,.full 194 b.o.length)]
 bk b:=[(194,.blk (bk60 b.o o.length)),(256,bkT b.t)]
 rd S:=match aget S.h 194,aget S.h 256 with
  |some (.blk ⟨.ints _ o,_,_,_,_,_,_⟩),some (.blk ⟨.bools t,_,_,_,_,_,_⟩)=>some ⟨o,t⟩
  |_,_=>none
 pre b:=∃m:Nat,m≤o.length∧b.o=lstN r (rkF o) o.length m∧b.t=tk32 b.o
 mu b:=o.length-b.o.length
def m42 (r o out:List Int)(t:List Bool):LpS L83 where
 ov b:=[(23,.int .i64 b.i),(6,.full 194 out.length)]
 bk b:=[(194,.blk (bk60 out o.length)),(256,bkT t)]
 rd S:=match aget S.t 23 with
  |some (.int _ i)=>some ⟨i⟩
  |_=>none
 pre b:=∃m:Nat,b.i=m∧m≤o.length∧∀j:Nat,j<m→frK r (rkF o) out j o.length=false
 mu b:=o.length-b.i.toNat
def n42 (r o out:List Int)(i:Int):LpS N60 where
 ov b:=[(32,.int .i64 b.k),(9,.bool b.f)]
 bk b:=[]
 rd S:=match aget S.t 32,aget S.t 9 with
  |some (.int _ k),some (.bool f)=>some ⟨k,f⟩
  |_,_=>none
 pre b:=∃m:Nat,b.k=m∧m≤o.length∧b.f=frK r (rkF o) out i m
 mu b:=o.length-b.k.toNat
def tR42:List (Nat×CtE):=[(25,rg39),(40,rg59 mnI),(41,rg59 mxI)]
def TR42:Tab:=tabL tR42 noCh
/-- No sector is empty. -/
def wideR (r:List Int)(n:Nat):Prop:=∀c:Nat,c<n→gR r (c:Int)≠gR r ((c:Int)+1)
def rg42:CtE
 |[.agg [.imm (.ints .i64 a) n _,.imm (.ints .u8 k) m _,.imm (.ints .i64 r) p _],.imm (.ints .i64 o) q _]=>some ⟨immL .i64 (leastL r o),[],some (cok a k r n m p∧q=o.length∧okO o∧o.length<p∧p≤9∧wideR r o.length)⟩
 |_=>none
def tR42z:List (Nat×CtE):=[(25,rg39z)]
def TR42z:Tab:=tabL tR42z noCh
def rg42z:CtE
 |[.agg [.imm (.ints .i64 a) n _,.imm (.ints .u8 k) m _,.imm (.ints .i64 r) p _],.nils]=>some ⟨immL .i64 [],[],some (cok a k r n m p)⟩
 |_=>none
/-! ### Growing -/
def padK (l:List Int):List Int:=l++List.drop (List.length l) [0,0,0,0,0,0,0,0]
def pad8 (l:List Int):List Int:=[List.getD (padK l) 0 0,List.getD (padK l) 1 0,List.getD (padK l) 2 0,List.getD (padK l) 3 0,List.getD (padK l) 4 0,List.getD (padK l) 5 0,List.getD (padK l) 6 0,List.getD (padK l) 7 0]
def fndP (L:List (List Int)):List (List Int×List Int×Nat)×Nat:=L.foldl (fun s l=>(mput s.1 (pad8 l) [1] s.2,mck s.1 (pad8 l) s.2)) ([],0)
def fpE (L:List (List Int)):List (List Int×List Int×Nat):=(fndP L).1
def fpK (L:List (List Int)):Nat:=(fndP L).2
def hrM (L:List (List Int)):HO:=.blk ⟨.maps kkM vkM (fpE L) (fpK L),1,0,none,some false,true,true⟩
def hrG (a k r:List Int)(L:List (List Int)):List (Nat×HO):=
 [(9700,.blk (bkO L)),(256,hpB L),(192,hrM L),(193,.blk ⟨.cells [.mp 192],1,1,none,some false,true,true⟩),(320,.blk ⟨.cells [.fn 24 [] [.ptr 9130 0,.ptr 64 0,.ptr 320 0,.ptr 193 0,.ptr 256 0]],1,1,none,some false,true,true⟩),(64,.blk ⟨.cells [.imm (.ints .i64 a) a.length none,.imm (.ints .u8 k) k.length none],2,1,none,some false,true,true⟩),(9130,.blk ⟨.cells [.imm (.ints .i64 a) a.length none,.imm (.ints .u8 k) k.length none,.imm (.ints .i64 r) r.length none],3,1,none,some false,true,true⟩)]
def wrG (L:List (List Int)):List (Nat×HO):=[(192,hrM L),(256,hpB L),(9700,.blk (bkO L))]
/-- The ring, valid; on its line. -/
def okR (a k r:List Int):Prop:=Alt a.length r∧r.length=a.length+1∧k.length=a.length∧0<a.length∧a.length≤8
def rg40c:CtE
 |[.agg [.imm (.ints .i64 a) n _,.imm (.ints .u8 k) m _,.imm (.ints .i64 r) p _],.agg (.int .i64 x0:: .int .i64 x1:: .int .i64 x2:: .int .i64 x3:: .int .i64 x4:: .int .i64 x5:: .int .i64 x6:: .int .i64 x7::tl)]=>cond (isM 24 tl) (some ⟨.bool (crsB n r [x0,x1,x2,x3,x4,x5,x6,x7]),[],some (cok a k r n m p∧okR a k r)⟩) none
 |_=>none
def chGr (a k r:List Int)(q:Nat)(h:List (Nat×HO))(cv:AV)(args:List AV):Option Cx:=
 match cv,args with
 |.fn f [] [],[.full i n,.int .i64 p,.full j m]=>match aget h i,aget h j with
  |some (.blk ⟨.ints _ o,_,_,_,_,_,_⟩),some (.blk ⟨.ints _ [x],_,_,_,_,_,_⟩)=>cond (Nat.beq f 28&&(Nat.beq i 32896&&Nat.beq j 517)) (some ⟨.imm (.ints .i64 (insA o p.toNat x)) (insA o p.toNat x).length none,[(32896,.blk ⟨.ints .i64 (insA o p.toNat x),1,(insA o p.toNat x).length,none,some false,false,false⟩)],
    some (h=[(517,.blk ⟨.ints .i64 [x],1,1,some 1,some false,true,false⟩),(32896,.blk ⟨.ints .i64 o,1,o.length,none,some false,true,false⟩)]∧n=o.length∧m=1∧0<o.length∧o.length<1000000∧0≤p∧p≤o.length)⟩) none
  |_,_=>none
 |.fn f [] [],[.nils,.int .i64 p,.full j m]=>match aget h j with
  |some (.blk ⟨.ints _ [x],_,_,_,_,_,_⟩)=>cond (Nat.beq f 28&&Nat.beq j 517) (some ⟨.imm (.ints .i64 [x]) 1 none,[],some (h=[(517,.blk ⟨.ints .i64 [x],1,1,some 1,some false,true,false⟩)]∧m=1∧p=0)⟩) none
  |_=>none
 |.fn f [] [],[.imm (.ints .i64 o) m _,.ptr c 0,.ptr d 0,.ptr g 0,.ptr u 0,.ptr v 0]=>match aget h 9700 with
  |some (.blk ⟨.vals vs,_,_,_,_,_,_⟩)=>cond (Nat.beq f 24&&(Nat.beq c 9130&&(Nat.beq d 64&&(Nat.beq g 320&&(Nat.beq u 193&&Nat.beq v 256))))) (some ⟨.tup [],wrG (grwO a.length r (rotR k) (unO vs) o),some (h=hrG a k r (unO vs)∧m=o.length∧o.length=q∧q≤a.length∧0<q∧okG o∧okL a (unO vs))⟩) none
  |_=>none
 |_,_=>none
def tGr:List (Nat×CtE):=[(25,rg39),(26,rg40c),(27,rg41),(30,rg42),(29,eCloneP .i64)]
def TGr (a k r:List Int)(q:Nat):Tab:=tabL tGr (chGr a k r q)
def rg39b:CtE
 |[.nils]=>some ⟨rk32 [],[],none⟩
 |args=>rg39 args
def tGrn:List (Nat×CtE):=[(25,rg39b),(26,rg40c),(27,rg41),(30,rg42z),(29,eCloneN)]
def TGrn (a k r:List Int):Tab:=tabL tGrn (chGr a k r 1)
def lr38 (a k r o:List Int)(L:List (List Int)):LpS L58 where
 ov b:=[(31,.int .i64 b.i)]
 bk b:=[(192,hrM b.L),(256,hpB b.L),(9700,.blk (bkO b.L))]
 rd S:=match aget S.t 31,aget S.h 9700 with
  |some (.int _ i),some (.blk ⟨.vals vs,_,_,_,_,_,_⟩)=>some ⟨i,unO vs⟩
  |_,_=>none
 pre b:=∃m:Nat,b.i=m∧m≤o.length+1∧b.L=grwM a.length r (rotR k) L o m∧okL a b.L
 mu b:=o.length+1-b.i.toNat
/-! ### All ways -/
def okRing (a k:List Int):Prop:=(∀x∈a,1≤x∧x≤64)∧a.length≤8∧0<a.length∧k.length=a.length∧a.length%2=0∧(∀x∈k,1≤x∧x≤3)∧gR (raysL a) a.length=0
structure L37r where (i:Int)(r:List Int)
def lr37 (a:List Int)(fv:List AV):LpS L37r where
 ov b:=[(12,.int .i64 b.i)]
 bk b:=[(131,.blk ⟨.cells (fv++[.full 129 b.r.length]),3,1,none,some false,true,true⟩),(129,.blk ⟨.ints .i64 b.r,1,b.r.length,none,some false,true,false⟩)]
 rd S:=match aget S.t 12,aget S.h 129 with
  |some (.int _ i),some (.blk ⟨.ints _ r,_,_,_,_,_,_⟩)=>some ⟨i,r⟩
  |_,_=>none
 pre b:=∃m:Nat,b.i=m∧m≤a.length∧b.r=(raysL a).take (m+1)
 mu b:=a.length-b.i.toNat
def rg37:CtE
 |[.agg [.imm (.ints .i64 a) n _,.imm (.ints .u8 k) m _]]=>some ⟨conV a k (raysL a),[],some (n=a.length∧m=k.length∧okRing a k)⟩
 |_=>none
structure L36r where (i s:Int)
def lr36 (a:List Int):LpS L36r where
 ov b:=[(34,.int .i64 b.i),(3,.int .i64 b.s)]
 bk b:=[]
 rd S:=match aget S.t 34,aget S.t 3 with
  |some (.int _ i),some (.int _ s)=>some ⟨i,s⟩
  |_,_=>none
 pre b:=∃m:Nat,b.i=m∧m≤a.length∧b.s=gR (raysL a) m
 mu b:=a.length-b.i.toNat
def rg36:CtE
 |[.agg [.imm (.ints .i64 a) n _,.imm (.ints .u8 k) m _]]=>some ⟨.int .i64 0,[],some (n=a.length∧m=k.length∧okRing a k)⟩
 |_=>none
def TR18:Tab:=tabL [(10,rg36)] noCh
def chWr (a k r:List Int)(h:List (Nat×HO))(cv:AV)(args:List AV):Option Cx:=
 match cv,args,aget h 9700 with
 |.fn f [] [],[.nils,.ptr c 0,.ptr d 0,.ptr g 0,.ptr u 0,.ptr v 0],some (.blk ⟨.vals vs,_,_,_,_,_,_⟩)=>cond (Nat.beq f 24&&(Nat.beq c 9130&&(Nat.beq d 64&&(Nat.beq g 320&&(Nat.beq u 193&&Nat.beq v 256))))) (some ⟨.tup [],wrG (grwO a.length r (rotR k) [] []),some (h=hrG a k r []∧okR a k r)⟩) none
 |.fn f [] [],[.full i n,.fn g [] []],some (.blk ⟨.vals vs,_,_,_,_,_,_⟩)=>cond (Nat.beq f 31&&(Nat.beq i 9700&&Nat.beq g 32)) (some ⟨.tup [],[(9700,.blk ⟨.vals (outV (srtL (unO vs))),1,(unO vs).length,none,some true,true,false⟩)],some (h=[(9700,.blk (bkO (unO vs)))]∧n=(unO vs).length∧okL a (unO vs))⟩) none
 |_,_,_=>none
def TWr (a k:List Int):Tab:=tabL [(11,rg37)] (chWr a k (raysL a))
def j19a (a k r:List Int):LpS Unit where
 ov _:=[(3,.ptr 9130 0)]
 bk _:=[(9130,.blk ⟨.cells [.imm (.ints .i64 a) a.length none,.imm (.ints .u8 k) k.length none,.imm (.ints .i64 r) r.length none],3,1,none,some false,true,true⟩)]
 rd S:=some ()
 pre _:=True
 mu _:=0
def j19:LpS Unit where
 ov _:=[]
 bk _:=[(320,.blk ⟨.cells [.fn 24 [] [.ptr 9130 0,.ptr 64 0,.ptr 320 0,.ptr 193 0,.ptr 256 0]],1,1,none,some false,true,true⟩),(9700,.blk (bkO []))]
 rd S:=some ()
 pre _:=True
 mu _:=0
/-- The ways of a valid ring. -/
def rwL (a k:List Int):List (List Int):=waysL a.length (raysL a) (rotR k)
def rg19:CtE
 |[.agg [.imm (.ints .i64 a) n _,.imm (.ints .u8 k) m _]]=>some ⟨.imm (.vals (outV (rwL a k))) (rwL a k).length none,[],some (n=a.length∧m=k.length∧okRing a k)⟩
 |_=>none
def TR8:Tab:=tabL [(16,rg36),(17,rg19)] noCh
def rg8:CtE
 |[.agg [.imm (.ints .i64 a) n _,.imm (.ints .u8 k) m _]]=>some ⟨.tup [.int .i64 ((rwL a k).length:Nat),.int .i64 0],[],some (n=a.length∧m=k.length∧okRing a k)⟩
 |_=>none
end Go.Proofs.Ythiammkiobbclaa.X

/-
 Strips: what the functions on a folded strip compute.
-/
set_option maxRecDepth 1000000
set_option linter.unusedVariables false
namespace Go.Proofs.Ythiammkiobbclaa.X
open Go Go.Ab

/-- The ranks of the segments of a pile: those that are there, and 0. -/
def z24:List AV:=[.int .i64 0,.int .i64 0,.int .i64 0,.int .i64 0,.int .i64 0,.int .i64 0,.int .i64 0,.int .i64 0,.int .i64 0,.int .i64 0,.int .i64 0,.int .i64 0,.int .i64 0,.int .i64 0,.int .i64 0,.int .i64 0,.int .i64 0,.int .i64 0,.int .i64 0,.int .i64 0,.int .i64 0,.int .i64 0,.int .i64 0,.int .i64 0]
def z32V (x0 x1 x2 x3 x4 x5 x6 x7:Int):AV:=.agg [.int .i64 x0,.int .i64 x1,.int .i64 x2,.int .i64 x3,.int .i64 x4,.int .i64 x5,.int .i64 x6,.int .i64 x7,.int .i64 0,.int .i64 0,.int .i64 0,.int .i64 0,.int .i64 0,.int .i64 0,.int .i64 0,.int .i64 0,.int .i64 0,.int .i64 0,.int .i64 0,.int .i64 0,.int .i64 0,.int .i64 0,.int .i64 0,.int .i64 0,.int .i64 0,.int .i64 0,.int .i64 0,.int .i64 0,.int .i64 0,.int .i64 0,.int .i64 0,.int .i64 0]
def isZ:Nat→List AV→Bool
 |0,[]=>true
 |n+1,.int .i64 (.ofNat 0)::l=>isZ n l
 |_,_=>false
def rzF (o:List Int):List Int:=rkA (List.replicate 8 0) 0 o
def rzG (o:List Int):List Int:=rkA (List.replicate 32 0) 0 o
def rzO (o:List Int)(i:Int):Int:=gR (rzF o) i
def rz32 (o:List Int):AV:=z32V (rzO o 0) (rzO o 1) (rzO o 2) (rzO o 3) (rzO o 4) (rzO o 5) (rzO o 6) (rzO o 7)
def ovS (r:List Int)(i j:Int):Bool:=ltb (mnI (gR r i) (gR r (i+1))) (mxI (gR r j) (gR r (j+1)))&&ltb (mnI (gR r j) (gR r (j+1))) (mxI (gR r i) (gR r (i+1)))
/-- The odd segment of a crease, and the other. -/
def odI (c:Int):Int:=c+1-c.tmod 2
def evI (c:Int):Int:=2*c+1-odI c
def kdS (rk:List Int)(c:Int):Int:=if gR rk (odI c)>gR rk (evI c)then 2 else 1
def u74:List (Nat×CtE):=[(74,rg59 mnI),(75,rg59 mxI)]
def U74:Tab:=tabL u74 noCh
def s55:CtE
 |[.agg [.imm (.ints .i64 a) n _,.imm (.ints .u8 k) m _,.imm (.ints .i64 r) p _],.int .i64 i,.int .i64 j]=>some ⟨.bool (ovS r i j),[],some (cok a k r n m p∧0≤i∧i+1<p∧0≤j∧j+1<p∧p≤9)⟩
 |_=>none
def s71:CtE
 |[.agg (.int .i64 x0:: .int .i64 x1:: .int .i64 x2:: .int .i64 x3:: .int .i64 x4:: .int .i64 x5:: .int .i64 x6:: .int .i64 x7::tl),.int .i64 c]=>cond (isZ 24 tl) (some ⟨.int .u8 (kdS [x0,x1,x2,x3,x4,x5,x6,x7] c),[],some (0≤c∧c<7)⟩) none
 |_=>none
def s54:CtE
 |[.imm (.ints .i64 o) n _]=>some ⟨rz32 o,[],some (n=o.length∧okO o)⟩
 |_=>none
def ls54 (o:List Int):LpS L39 where
 ov b:=[(8,.int .i64 b.i)]
 bk b:=[(128,.blk ⟨.ints .i64 b.rk,1,32,none,some false,true,true⟩)]
 rd S:=match aget S.t 8,aget S.h 128 with
  |some (.int _ i),some (.blk ⟨.ints _ rk,_,_,_,_,_,_⟩)=>some ⟨i,rk⟩
  |_,_=>none
 pre b:=∃m:Nat,b.i=m∧m≤o.length∧b.rk.length=32∧rkA b.rk m (o.drop m)=rzG o
 mu b:=o.length-b.i.toNat
/-- Valid strips. -/
def okStrip (a k:List Int):Prop:=(∀x∈a,1≤x∧x≤64)∧a.length≤8∧a.length=k.length+1∧∀x∈k,1≤x∧x≤3
def lsA (t:Nat)(a:List Int):LpS L83 where
 ov b:=[(t,.int .i64 b.i)]
 bk b:=[]
 rd S:=match aget S.t t with
  |some (.int _ i)=>some ⟨i⟩
  |_=>none
 pre b:=∃m:Nat,b.i=m∧m≤a.length
 mu b:=a.length-b.i.toNat
def s33:CtE
 |[.agg [.imm (.ints .i64 a) n _,.imm (.ints .u8 k) m _]]=>some ⟨.int .i64 0,[],some (n=a.length∧m=k.length∧okStrip a k)⟩
 |_=>none
end Go.Proofs.Ythiammkiobbclaa.X
/-
 Strips: what crosses.
-/
set_option maxRecDepth 1000000
set_option linter.unusedVariables false
namespace Go.Proofs.Ythiammkiobbclaa.X
open Go Go.Ab

def btS (rk:List Int)(c x:Int):Bool:=ltb (mnI (gR rk c) (gR rk (c+1))) x&&ltb x (mxI (gR rk c) (gR rk (c+1)))
def s84:CtE
 |[.agg (.int .i64 x0:: .int .i64 x1:: .int .i64 x2:: .int .i64 x3:: .int .i64 x4:: .int .i64 x5:: .int .i64 x6:: .int .i64 x7::tl),.int .i64 c,.int .i64 x]=>cond (isZ 24 tl) (some ⟨.bool (btS [x0,x1,x2,x3,x4,x5,x6,x7] c x),[],some (0≤c∧c<7)⟩) none
 |_=>none
/-- The visit of the creases at a number, on one side. -/
def lopV (a k r:List Int)(t:Int)(b:Bool):AV:=.fn 89 [] [.iptr (conF a k r),.iptr (.vals [.int .i64 t]),.iptr (.vals [.bool b])]
def s85:CtE
 |[.agg [.imm (.ints .i64 a) n _,.imm (.ints .u8 k) m _,.imm (.ints .i64 r) p _],.int .i64 t,.bool b]=>some ⟨lopV a k r t b,[],some (cok a k r n m p)⟩
 |_=>none
end Go.Proofs.Ythiammkiobbclaa.X
/-
 Strips: their ends.
-/
set_option maxRecDepth 1000000
set_option linter.unusedVariables false
namespace Go.Proofs.Ythiammkiobbclaa.X
open Go Go.Ab

/-- The visit of the ends. -/
abbrev stpF (a k:List Int):Cont:=.vals [.imm (.ints .i64 a) a.length none,.imm (.ints .u8 k) k.length none]
def endV (a k:List Int):AV:=.fn 91 [] [.iptr (stpF a k)]
def s90:CtE
 |[.agg [.imm (.ints .i64 a) n _,.imm (.ints .u8 k) m _]]=>some ⟨endV a k,[],some (n=a.length∧m=k.length)⟩
 |_=>none
noncomputable def eL (a k:List Int):LoopS:=rfLoop fe86 [(5,.ptr 325 0),(18,endV a k)]
def celL (L:List Int):HO:=.blk ⟨.cells [.full 324 L.length],1,1,none,some false,true,true⟩
noncomputable def hE (a k L:List Int):List (Nat×HO):=[(324,.blk (bk60 L (a.length+1))),(325,celL L),(9004,.loop (eL a k))]
def wsE (n:Nat)(L:List Int):List (Nat×HO):=[(325,celL L),(324,.blk (bk60 L n))]
noncomputable def chE (a k:List Int)(h:List (Nat×HO))(cv:AV)(args:List AV):Option Cx:=
 match cv,args,aget h 324 with
 |.yld id,[.int .i64 x],some (.blk ⟨.ints _ L,_,_,_,_,_,_⟩)=>cond (Nat.beq id 9004) (some ⟨.bool true,wsE (a.length+1) (L++[x]),some (h=hE a k L∧L.length<a.length+1∧a.length≤8)⟩) none
 |_,_,_=>none
noncomputable def TE91 (a k:List Int):Tab:=tabL [] (chE a k)
structure L91 where (i x:Int)(L:List Int)
def l91 (a:List Int):LpS L91 where
 ov b:=[(3,.int .i64 b.x),(13,.int .i64 b.i)]
 bk b:=wsE (a.length+1) b.L
 rd S:=match aget S.t 3,aget S.t 13,aget S.h 324 with
  |some (.int _ x),some (.int _ i),some (.blk ⟨.ints _ L,_,_,_,_,_,_⟩)=>some ⟨i,x,L⟩
  |_,_,_=>none
 pre b:=∃m:Nat,b.i=m∧m≤a.length∧b.L=(raysL a).take (m+1)∧b.x=gR (raysL a) m
 mu b:=a.length-b.i.toNat
noncomputable def ch91 (a k:List Int)(h:List (Nat×HO))(cv:AV)(args:List AV):Option Cx:=
 match cv,args with
 |.fn f [] [],[.yld id,.iptr (.vals [.imm (.ints .i64 a') n none,.imm (.ints .u8 k') m none])]=>cond (Nat.beq f 91&&Nat.beq id 9004) (some ⟨.tup [],wsE (a.length+1) (raysL a),some (h=hE a k []∧a'=a∧k'=k∧n=a.length∧m=k.length∧okStrip a k)⟩) none
 |_,_=>none
noncomputable def TE86 (a k:List Int):Tab:=tabL [(33,s33),(90,s90)] (ch91 a k)
def s86:CtE
 |[.agg [.imm (.ints .i64 a) n _,.imm (.ints .u8 k) m _]]=>some ⟨.tup [.imm (.ints .i64 (raysL a)) (raysL a).length (some (a.length+1)),.int .i64 0],[],some (n=a.length∧m=k.length∧okStrip a k)⟩
 |_=>none
end Go.Proofs.Ythiammkiobbclaa.X
/-
 Strips on their line.
-/
set_option maxRecDepth 1000000
set_option linter.unusedVariables false
namespace Go.Proofs.Ythiammkiobbclaa.X
open Go Go.Ab

def folV (a k:List Int):AV:=.agg [.imm (.ints .i64 a) a.length none,.imm (.ints .u8 k) k.length none,.imm (.ints .i64 (raysL a)) (raysL a).length (some (a.length+1))]
def s72:CtE
 |[.agg [.imm (.ints .i64 a) n _,.imm (.ints .u8 k) m _]]=>some ⟨.tup [folV a k,.int .i64 0],[],some (n=a.length∧m=k.length∧okStrip a k)⟩
 |_=>none
def U72:Tab:=tabL [(86,s86)] noCh
end Go.Proofs.Ythiammkiobbclaa.X
/-
 Strips: what crosses, what grows, all ways: what the functions compute.
-/
set_option maxRecDepth 1000000
set_option linter.unusedVariables false
namespace Go.Proofs.Ythiammkiobbclaa.X
open Go Go.Ab

/-- A segment lies through a crease; the loops beside one are not as brackets. -/
def s1B (r rk:List Int)(i x:Int):Bool:=insB r (gR r (i+1)) x&&btS rk i (gR rk x)
def lopB (r:List Int)(t:Int)(b:Bool)(x:Int):Bool:=(gR r (x+1)==t)&&(ltb t (gR r x)==b)
def s2B (rk:List Int)(i x:Int):Bool:=(x !=i)&&(btS rk i (gR rk x) !=btS rk i (gR rk (x+1)))
def cs1 (n:Nat)(r rk:List Int)(i:Int):Bool:=anyN n fun x=>s1B r rk i x
def cs2 (m:Nat)(r rk:List Int)(i:Int):Bool:=anyN m fun x=>lopB r (gR r (i+1)) (ltb (gR r (i+1)) (gR r i)) x&&s2B rk i x
/-- Of m creases and n segments. -/
def crS (m n:Nat)(r rk:List Int):Bool:=anyN m fun i=>cs1 n r rk i||cs2 m r rk i
def wr1 (k rk:List Int)(i:Int):Bool:=(gR k i !=3)&&(gR k i !=kdS rk i)
def wrS (k rk:List Int):Bool:=anyN k.length fun i=>wr1 k rk i
/-- What Check returns. -/
def chkP (a k o:List Int):Int:=bif crS k.length a.length (raysL a) (rzF o)then 12 else bif wrS k (rzF o)then 13 else 0
def okPt (a k o:List Int):Bool:= !crS (o.length-1) o.length (raysL a) (rzF o)&& !wrS (k.take (o.length-1)) (rzF o)
def grS (a k:List Int):Nat→List Int→List (List Int)
 |0,o=>[o]
 |f+1,o=>(List.range (o.length+1)).flatMap fun i=>cond (okPt a k (insA o i (o.length:Int))) (grS a k f (insA o i (o.length:Int))) []
def addS (a:List Int)(L:List (List Int))(o:List Int):List (List Int):=addU L (leastL (raysL a) o)
def swL (a k:List Int):List (List Int):=srtL ((grS a k a.length []).foldl (addS a) [])
end Go.Proofs.Ythiammkiobbclaa.X
/-
 Strips: what is listed, what crosses, Check, Least.
-/
set_option maxRecDepth 1000000
set_option linter.unusedVariables false
namespace Go.Proofs.Ythiammkiobbclaa.X
open Go Go.Ab

/-! ### What is listed -/
def s53:CtE
 |[.agg [.imm (.ints .i64 a) n _,.imm (.ints .u8 k) m _],.imm (.ints .i64 o) q _]=>some ⟨.tup [folV a k,.int .i64 0],[],some (n=a.length∧m=k.length∧q=o.length∧okStrip a k∧o.Perm (idO a.length))⟩
 |_=>none
def U53:Tab:=tabL [(72,s72),(73,eHas .i64)] noCh
/-! ### What crosses -/
def hoZ (x0 x1 x2 x3 x4 x5 x6 x7:Int):HO:=.blk ⟨.cells [.int .i64 x0,.int .i64 x1,.int .i64 x2,.int .i64 x3,.int .i64 x4,.int .i64 x5,.int .i64 x6,.int .i64 x7,.int .i64 0,.int .i64 0,.int .i64 0,.int .i64 0,.int .i64 0,.int .i64 0,.int .i64 0,.int .i64 0,.int .i64 0,.int .i64 0,.int .i64 0,.int .i64 0,.int .i64 0,.int .i64 0,.int .i64 0,.int .i64 0,.int .i64 0,.int .i64 0,.int .i64 0,.int .i64 0,.int .i64 0,.int .i64 0,.int .i64 0,.int .i64 0],32,1,none,some false,true,true⟩
def stm70 (a k r:List Int)(x0 x1 x2 x3 x4 x5 x6 x7 i t:Int)(b:Bool):List (Nat×AV):=[(2,.ptr 64 0),(3,.ptr 65 0),(5,.ptr 128 0),(13,.int .i64 k.length),(14,.int .i64 i),(6,.ptr 321 0),(28,.bool false),(60,lopV a k r t b)]
noncomputable def as70:XC:=(rfLoop fe70 []).as
noncomputable def bd70:XC:=(rfLoop fe70 []).bd
noncomputable def sL70 (a k r:List Int)(x0 x1 x2 x3 x4 x5 x6 x7 i t:Int)(b:Bool):LoopS:=rfLoop fe70 (stm70 a k r x0 x1 x2 x3 x4 x5 x6 x7 i t b)
noncomputable def sH70 (id:Nat)(a k r:List Int)(x0 x1 x2 x3 x4 x5 x6 x7 i t:Int)(b:Bool):List (Nat×HO):=[(321,hoI i),(128,hoB false),(65,hoZ x0 x1 x2 x3 x4 x5 x6 x7),(64,hoC a k r),(id,.loop (sL70 a k r x0 x1 x2 x3 x4 x5 x6 x7 i t b))]
noncomputable def wsZ (a k r:List Int)(x0 x1 x2 x3 x4 x5 x6 x7 i t:Int)(b:Bool)(c:Bool):List (Nat×HO):=[(128,hoB c),(9003,.loop {sL70 a k r x0 x1 x2 x3 x4 x5 x6 x7 i t b with st:=cond c 2 0,pend:=cond c (some (.exit 0)) none})]
def u70:List (Nat×CtE):=[(74,rg59 mnI),(75,rg59 mxI),(84,s84),(85,s85)]
def U70:Tab:=tabL u70 noCh
/-- Rounds, by contracts. -/
noncomputable def chSn (a k r:List Int)(x0 x1 x2 x3 x4 x5 x6 x7 i t:Int)(b:Bool)(h:List (Nat×HO))(cv:AV)(args:List AV):Option Cx:=
 match cv,args with
 |.yld id,[.int .i64 x]=>cond (Nat.beq id 9002) (some ⟨.bool true,[],some (h=sH70 9002 a k r x0 x1 x2 x3 x4 x5 x6 x7 i t b∧0≤x∧x<k.length∧s2B [x0,x1,x2,x3,x4,x5,x6,x7] i x=false)⟩) none
 |_,_=>none
noncomputable def USn (a k r:List Int)(x0 x1 x2 x3 x4 x5 x6 x7 i t:Int)(b:Bool):Tab:=tabL [] (chSn a k r x0 x1 x2 x3 x4 x5 x6 x7 i t b)
noncomputable def chSy (a k r:List Int)(x0 x1 x2 x3 x4 x5 x6 x7 i t:Int)(b:Bool)(h:List (Nat×HO))(cv:AV)(args:List AV):Option Cx:=
 match cv,args with
 |.yld id,[.int .i64 x]=>cond (Nat.beq id 9003) (some ⟨.bool (!s2B [x0,x1,x2,x3,x4,x5,x6,x7] i x),wsZ a k r x0 x1 x2 x3 x4 x5 x6 x7 i t b (s2B [x0,x1,x2,x3,x4,x5,x6,x7] i x),some (h=sH70 9003 a k r x0 x1 x2 x3 x4 x5 x6 x7 i t b∧0≤x∧x<k.length)⟩) none
 |_,_=>none
noncomputable def USy (a k r:List Int)(x0 x1 x2 x3 x4 x5 x6 x7 i t:Int)(b:Bool):Tab:=tabL [] (chSy a k r x0 x1 x2 x3 x4 x5 x6 x7 i t b)
noncomputable def l89n (a k r:List Int)(x0 x1 x2 x3 x4 x5 x6 x7 i t:Int)(b:Bool):LpS L83 where
 ov b:=[(10,.int .i64 b.i)]
 bk b':=[(128,hoB false),(9002,.loop (sL70 a k r x0 x1 x2 x3 x4 x5 x6 x7 i t b))]
 rd S:=match aget S.t 10 with
  |some (.int _ i)=>some ⟨i⟩
  |_=>none
 pre b:=∃m:Nat,b.i=m∧m≤k.length
 mu b:=k.length-b.i.toNat
noncomputable def l89y (a k r:List Int)(x0 x1 x2 x3 x4 x5 x6 x7 i t:Int)(b:Bool):LpS L83 where
 ov b:=[(10,.int .i64 b.i)]
 bk b':=wsZ a k r x0 x1 x2 x3 x4 x5 x6 x7 i t b false
 rd S:=match aget S.t 10 with
  |some (.int _ i)=>some ⟨i⟩
  |_=>none
 pre c:=∃m:Nat,c.i=m∧m≤k.length∧∃q:Nat,m≤q∧q<k.length∧lopB r t b q=true∧s2B [x0,x1,x2,x3,x4,x5,x6,x7] i q=true
 mu b:=k.length-b.i.toNat
/-- The visit, by contracts. -/
noncomputable def ch89 (a k r:List Int)(x0 x1 x2 x3 x4 x5 x6 x7:Int)(h:List (Nat×HO))(cv:AV)(args:List AV):Option Cx:=
 match cv,args,aget h 321 with
 |.fn f [] [],[.yld id,.iptr (.vals [.imm (.ints .i64 a') n none,.imm (.ints .u8 k') m none,.imm (.ints .i64 r') p none]),.iptr (.vals [.int .i64 t]),.iptr (.vals [.bool b])],some (.blk ⟨.cells [.int .i64 i],_,_,_,_,_,_⟩)=>
  cond (Nat.beq f 89&&Nat.beq id 9003) (some ⟨.tup [],wsZ a k r x0 x1 x2 x3 x4 x5 x6 x7 i t b true,some (h=sH70 9003 a k r x0 x1 x2 x3 x4 x5 x6 x7 i t b∧a'=a∧k'=k∧r'=r∧n=a.length∧m=k.length∧p=r.length∧0≤i∧i<k.length∧t=gR r (i+1)∧b=ltb (gR r (i+1)) (gR r i)∧cs2 k.length r [x0,x1,x2,x3,x4,x5,x6,x7] i=true)⟩)
   (cond (Nat.beq f 89&&Nat.beq id 9002) (some ⟨.tup [],[],some (h=sH70 9002 a k r x0 x1 x2 x3 x4 x5 x6 x7 i t b∧a'=a∧k'=k∧r'=r∧n=a.length∧m=k.length∧p=r.length∧0≤i∧i<k.length∧t=gR r (i+1)∧b=ltb (gR r (i+1)) (gR r i)∧cs2 k.length r [x0,x1,x2,x3,x4,x5,x6,x7] i=false)⟩) none)
 |_,_,_=>none
noncomputable def T70 (a k r:List Int)(x0 x1 x2 x3 x4 x5 x6 x7:Int):Tab:=tabL u70 (ch89 a k r x0 x1 x2 x3 x4 x5 x6 x7)
def sl70 (m n:Nat)(r rk:List Int):LpS L83 where
 ov b:=[(14,.int .i64 b.i)]
 bk b:=[]
 rd S:=match aget S.t 14 with
  |some (.int _ i)=>some ⟨i⟩
  |_=>none
 pre b:=∃q:Nat,b.i=q∧q≤m∧∀j:Nat,j<q→(cs1 n r rk j||cs2 m r rk j)=false
 mu b:=m-b.i.toNat
def sm70 (n:Nat)(r rk:List Int)(i:Int):LpS L83 where
 ov b:=[(27,.int .i64 b.i)]
 bk b:=[]
 rd S:=match aget S.t 27 with
  |some (.int _ i)=>some ⟨i⟩
  |_=>none
 pre b:=∃m:Nat,b.i=m∧m≤n∧∀j:Nat,j<m→s1B r rk i j=false
 mu b:=n-b.i.toNat
def s70:CtE
 |[.agg [.imm (.ints .i64 a) n _,.imm (.ints .u8 k) m _,.imm (.ints .i64 r) p _],.agg (.int .i64 x0:: .int .i64 x1:: .int .i64 x2:: .int .i64 x3:: .int .i64 x4:: .int .i64 x5:: .int .i64 x6:: .int .i64 x7::tl)]=>cond (isZ 24 tl) (some ⟨.bool (crS m n r [x0,x1,x2,x3,x4,x5,x6,x7]),[],some (cok a k r n m p∧n=m+1∧n≤8∧p=n+1)⟩) none
 |_=>none
end Go.Proofs.Ythiammkiobbclaa.X
/-
 Strips: Check, Least, growing, all ways, Count.
-/
set_option maxRecDepth 1000000
set_option linter.unusedVariables false
namespace Go.Proofs.Ythiammkiobbclaa.X
open Go Go.Ab

/-! ### Check -/
def U52:Tab:=tabL [(53,s53),(54,s54),(70,s70),(71,s71)] noCh
def ls52 (k rk:List Int):LpS L83 where
 ov b:=[(27,.int .i64 b.i)]
 bk b:=[]
 rd S:=match aget S.t 27 with
  |some (.int _ i)=>some ⟨i⟩
  |_=>none
 pre b:=∃m:Nat,b.i=m∧m≤k.length∧∀j:Nat,j<m→wr1 k rk j=false
 mu b:=k.length-b.i.toNat
def s52:CtE
 |[.agg [.imm (.ints .i64 a) n _,.imm (.ints .u8 k) m _],.imm (.ints .i64 o) q _]=>some ⟨.int .i64 (chkP a k o),[],some (n=a.length∧m=k.length∧q=o.length∧okStrip a k∧o.Perm (idO a.length))⟩
 |_=>none
/-! ### Least -/
def U35:Tab:=tabL [(53,s53),(54,s54),(55,s55)] noCh
def j35 (o:List Int):LpS Unit where
 ov _:=[(8,.ptr 322 0)]
 bk _:=[(322,.blk ⟨.ints .i64 (rzG o),1,32,none,some false,true,true⟩)]
 rd S:=some ()
 pre _:=True
 mu _:=0
def l35 (r o:List Int):LpS L42 where
 ov b:=[(9,.full 386 b.o.length)]
 bk b:=[(386,.blk (bk60 b.o o.length)),(448,bkT b.t)]
 rd S:=match aget S.h 386,aget S.h 448 with
  |some (.blk ⟨.ints _ o,_,_,_,_,_,_⟩),some (.blk ⟨.bools t,_,_,_,_,_,_⟩)=>some ⟨o,t⟩
  |_,_=>none
 pre b:=∃m:Nat,m≤o.length∧b.o=lstN r (rkF o) o.length m∧b.t=tk32 b.o
 mu b:=o.length-b.o.length
def m35 (r o out:List Int)(t:List Bool):LpS L83 where
 ov b:=[(35,.int .i64 b.i),(9,.full 386 out.length)]
 bk b:=[(386,.blk (bk60 out o.length)),(448,bkT t)]
 rd S:=match aget S.t 35 with
  |some (.int _ i)=>some ⟨i⟩
  |_=>none
 pre b:=∃m:Nat,b.i=m∧m≤o.length∧∀j:Nat,j<m→frK r (rkF o) out j o.length=false
 mu b:=o.length-b.i.toNat
def n35 (r o out:List Int)(i:Int):LpS N60 where
 ov b:=[(44,.int .i64 b.k),(12,.bool b.f)]
 bk b:=[]
 rd S:=match aget S.t 44,aget S.t 12 with
  |some (.int _ k),some (.bool f)=>some ⟨k,f⟩
  |_,_=>none
 pre b:=∃m:Nat,b.k=m∧m≤o.length∧b.f=frK r (rkF o) out i m
 mu b:=o.length-b.k.toNat
def s35:CtE
 |[.agg [.imm (.ints .i64 a) n _,.imm (.ints .u8 k) m _],.imm (.ints .i64 o) q _]=>some ⟨.tup [immL .i64 (leastL (raysL a) o),.int .i64 0],[],some (n=a.length∧m=k.length∧q=o.length∧okStrip a k∧o.Perm (idO a.length))⟩
 |_=>none
/-! ### Growing -/
def visV (a k:List Int):AV:=.fn 50 [] [.iptr (stpF a k)]
def s34:CtE
 |[.agg [.imm (.ints .i64 a) n _,.imm (.ints .u8 k) m _]]=>some ⟨visV a k,[],some (n=a.length∧m=k.length)⟩
 |_=>none
noncomputable def as19:XC:=(rfLoop fe19 []).as
noncomputable def bd19:XC:=(rfLoop fe19 []).bd
noncomputable def gL19 (a k:List Int):LoopS:=rfLoop fe19 [(1,.ptr 9064 0),(3,.ptr 129 0),(4,.ptr 192 0),(11,visV a k)]
def hbS (a k:List Int):HO:=.blk ⟨.cells [.imm (.ints .i64 a) a.length none,.imm (.ints .u8 k) k.length none],2,1,none,some false,true,true⟩
def hbM:HO:=.blk ⟨.cells [.mp 9128],1,1,none,some false,true,true⟩
noncomputable def hY (a k:List Int)(L:List (List Int)):List (Nat×HO):=[(9700,.blk (bkO L)),(192,hpB L),(9128,hrM L),(129,hbM),(9064,hbS a k),(9005,.loop (gL19 a k))]
def wY (L:List (List Int)):List (Nat×HO):=[(9128,hrM L),(192,hpB L),(9700,.blk (bkO L))]
noncomputable def hS (a k:List Int)(L:List (List Int)):List (Nat×HO):=[(128,.blk ⟨.cells [.fn 51 [] [.iptr (stpF a k),.ptr 64 0,.ptr 128 0]],1,1,none,some false,true,true⟩),(9700,.blk (bkO L)),(192,hpB L),(9128,hrM L),(129,hbM),(9064,hbS a k),(9005,.loop (gL19 a k)),(64,.blk ⟨.cells [.yld 9005],1,1,none,some false,true,true⟩)]
def grO (a k:List Int)(L:List (List Int))(o:List Int):List (List Int):=(grS a k (a.length-o.length) o).foldl (addS a) L
def grM (a k:List Int)(L:List (List Int))(o:List Int)(m:Nat):List (List Int):=((List.range m).flatMap fun i=>cond (okPt a k (insA o i (o.length:Int))) (grS a k (a.length-(o.length+1)) (insA o i (o.length:Int))) []).foldl (addS a) L
noncomputable def chY (a k:List Int)(h:List (Nat×HO))(cv:AV)(args:List AV):Option Cx:=
 match cv,args,aget h 9700 with
 |.yld id,[.imm (.ints .i64 o) m _],some (.blk ⟨.vals vs,_,_,_,_,_,_⟩)=>cond (Nat.beq id 9005) (some ⟨.bool true,wY (addS a (unO vs) o),some (h=hY a k (unO vs)∧m=o.length∧o.Perm (idO a.length)∧okL a (unO vs)∧okStrip a k)⟩) none
 |_,_,_=>none
noncomputable def chS (a k:List Int)(q:Nat)(h:List (Nat×HO))(cv:AV)(args:List AV):Option Cx:=
 match cv,args with
 |.fn f [] [],[.full i n,.int .i64 p,.full j m]=>match aget h i,aget h j with
  |some (.blk ⟨.ints _ o,_,_,_,_,_,_⟩),some (.blk ⟨.ints _ [x],_,_,_,_,_,_⟩)=>cond (Nat.beq f 28&&(Nat.beq i 36928&&Nat.beq j 580)) (some ⟨.imm (.ints .i64 (insA o p.toNat x)) (insA o p.toNat x).length none,[(36928,.blk ⟨.ints .i64 (insA o p.toNat x),1,(insA o p.toNat x).length,none,some false,false,false⟩)],
    some (h=[(580,.blk ⟨.ints .i64 [x],1,1,some 1,some false,true,false⟩),(36928,.blk ⟨.ints .i64 o,1,o.length,none,some false,true,false⟩)]∧n=o.length∧m=1∧0<o.length∧o.length<1000000∧0≤p∧p≤o.length)⟩) none
  |_,_=>none
 |.fn f [] [],[.nils,.int .i64 p,.full j m]=>match aget h j with
  |some (.blk ⟨.ints _ [x],_,_,_,_,_,_⟩)=>cond (Nat.beq f 28&&Nat.beq j 580) (some ⟨.imm (.ints .i64 [x]) 1 none,[],some (h=[(580,.blk ⟨.ints .i64 [x],1,1,some 1,some false,true,false⟩)]∧m=1∧p=0)⟩) none
  |_=>none
 |.fn f [] [],[.imm (.ints .i64 o) m _,.iptr (.vals [.imm (.ints .i64 a') n none,.imm (.ints .u8 k') m' none]),.ptr u 0,.ptr v 0]=>match aget h 9700 with
  |some (.blk ⟨.vals vs,_,_,_,_,_,_⟩)=>cond (Nat.beq f 51&&(Nat.beq u 64&&Nat.beq v 128)) (some ⟨.bool true,wY (grO a k (unO vs) o),some (h=hS a k (unO vs)∧a'=a∧k'=k∧n=a.length∧m'=k.length∧m=o.length∧o.length=q∧q≤a.length∧0<q∧okG o∧okL a (unO vs))⟩) none
  |_=>none
 |cv,args=>chY a k h cv args
def t51:List (Nat×CtE):=[(52,s52),(29,eCloneP .i64)]
noncomputable def T51 (a k:List Int)(q:Nat):Tab:=tabL t51 (chS a k q)
def t51n:List (Nat×CtE):=[(52,s52),(29,eCloneN)]
noncomputable def T51n (a k:List Int):Tab:=tabL t51n (chS a k 1)
def lr51 (a k o:List Int)(L:List (List Int)):LpS L58 where
 ov b:=[(32,.int .i64 b.i)]
 bk b:=[(9128,hrM b.L),(192,hpB b.L),(9700,.blk (bkO b.L))]
 rd S:=match aget S.t 32,aget S.h 9700 with
  |some (.int _ i),some (.blk ⟨.vals vs,_,_,_,_,_,_⟩)=>some ⟨i,unO vs⟩
  |_,_=>none
 pre b:=∃m:Nat,b.i=m∧m≤o.length+1∧b.L=grM a k L o m∧okL a b.L
 mu b:=o.length+1-b.i.toNat
/-! ### All ways -/
def U19:Tab:=tabL [(35,s35)] noCh
noncomputable def ch51n (a k:List Int)(h:List (Nat×HO))(cv:AV)(args:List AV):Option Cx:=
 match cv,args with
 |.fn f [] [],[.nils,.iptr (.vals [.imm (.ints .i64 a') n none,.imm (.ints .u8 k') m' none]),.ptr u 0,.ptr v 0]=>cond (Nat.beq f 51&&(Nat.beq u 64&&Nat.beq v 128)) (some ⟨.bool true,wY (grO a k [] []),some (h=hS a k []∧a'=a∧k'=k∧n=a.length∧m'=k.length∧okStrip a k)⟩) none
 |_,_=>none
noncomputable def T50 (a k:List Int):Tab:=tabL [] (ch51n a k)
noncomputable def ch50 (a k:List Int)(h:List (Nat×HO))(cv:AV)(args:List AV):Option Cx:=
 match cv,args,aget h 9700 with
 |.fn f [] [],[.yld id,.iptr (.vals [.imm (.ints .i64 a') n none,.imm (.ints .u8 k') m' none])],some (.blk ⟨.vals vs,_,_,_,_,_,_⟩)=>cond (Nat.beq f 50&&Nat.beq id 9005) (some ⟨.tup [],wY (grO a k [] []),some (h=hY a k []∧a'=a∧k'=k∧n=a.length∧m'=k.length∧okStrip a k)⟩) none
 |.fn f [] [],[.full i n,.fn g [] []],some (.blk ⟨.vals vs,_,_,_,_,_,_⟩)=>cond (Nat.beq f 31&&(Nat.beq i 9700&&Nat.beq g 32)) (some ⟨.tup [],[(9700,.blk ⟨.vals (outV (srtL (unO vs))),1,(unO vs).length,none,some true,true,false⟩)],some (h=[(9700,.blk (bkO (unO vs)))]∧n=(unO vs).length∧okL a (unO vs)∧a.length≤8)⟩) none
 |_,_,_=>none
noncomputable def T19 (a k:List Int):Tab:=tabL [(34,s34)] (ch50 a k)
def j19r (a k:List Int):LpS Unit where
 ov _:=[(1,.ptr 9064 0)]
 bk _:=[(9064,hbS a k)]
 rd S:=some ()
 pre _:=True
 mu _:=0
def j19s:LpS Unit where
 ov _:=[(3,.ptr 129 0)]
 bk _:=[(9128,hrM []),(129,hbM)]
 rd S:=some ()
 pre _:=True
 mu _:=0
def j19t (a k:List Int):LpS Unit where
 ov _:=[(11,visV a k)]
 bk _:=[(9700,.blk (bkO []))]
 rd S:=some ()
 pre _:=True
 mu _:=0
def s19:CtE
 |[.agg [.imm (.ints .i64 a) n _,.imm (.ints .u8 k) m _]]=>some ⟨.imm (.vals (outV (swL a k))) (swL a k).length none,[],some (n=a.length∧m=k.length∧okStrip a k)⟩
 |_=>none
def s18:CtE
 |[.agg [.imm (.ints .i64 a) n _,.imm (.ints .u8 k) m _]]=>some ⟨.int .i64 0,[],some (n=a.length∧m=k.length∧okStrip a k)⟩
 |_=>none
def U18:Tab:=tabL [(33,s33)] noCh
def U7:Tab:=tabL [(18,s18),(19,s19)] noCh
def s7:CtE
 |[.agg [.imm (.ints .i64 a) n _,.imm (.ints .u8 k) m _]]=>some ⟨.tup [.int .i64 ((swL a k).length:Nat),.int .i64 0],[],some (n=a.length∧m=k.length∧okStrip a k)⟩
 |_=>none
end Go.Proofs.Ythiammkiobbclaa.X
