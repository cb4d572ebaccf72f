/-
 Rings: the first of the piles that are the same; growing; all ways.
-/
import Derived.Test.YthiammkiobbclaaGreatD21Z
set_option maxRecDepth 1000000
set_option linter.unusedVariables false
namespace Go.Proofs.YthiammkiobbclaaGreat.X
open Go Go.Ab

/-! ### The first of the piles that are the same -/
def tk32 (o:List Int):List Bool:=(List.range 32).map fun(i:Nat)=>memB o (i:Int)
def bkT (t:List Bool):HO:=.blk ⟨.bools t,1,32,none,some false,true,true⟩
structure L42 where (o:List Int)(t:List Bool)
def j42 (o:List Int):LpS Unit where
 ov _:=[(5,.ptr 130 0)]
 bk _:=[(130,.blk ⟨.ints .i64 (rkG o),1,32,none,some false,true,true⟩)]
 rd S:=some ()
 pre _:=True
 mu _:=0
def l42 (r o:List Int):LpS L42 where
 ov b:=[(6,.full 194 b.o.length)]
 bk b:=[(194,.blk (bk60 b.o o.length)),(256,bkT b.t)]
 rd S:=match aget S.h 194,aget S.h 256 with
  |some (.blk ⟨.ints _ o,_,_,_,_,_,_⟩),some (.blk ⟨.bools t,_,_,_,_,_,_⟩)=>some ⟨o,t⟩
  |_,_=>none
 pre b:=∃m:Nat,m≤o.length∧b.o=lstN r (rkF o) o.length m∧b.t=tk32 b.o
 mu b:=o.length-b.o.length
def m42 (r o out:List Int)(t:List Bool):LpS L83 where
 ov b:=[(23,.int .i64 b.i),(6,.full 194 out.length)]
 bk b:=[(194,.blk (bk60 out o.length)),(256,bkT t)]
 rd S:=match aget S.t 23 with
  |some (.int _ i)=>some ⟨i⟩
  |_=>none
 pre b:=∃m:Nat,b.i=m∧m≤o.length∧∀j:Nat,j<m→frK r (rkF o) out j o.length=false
 mu b:=o.length-b.i.toNat
def n42 (r o out:List Int)(i:Int):LpS N60 where
 ov b:=[(32,.int .i64 b.k),(9,.bool b.f)]
 bk b:=[]
 rd S:=match aget S.t 32,aget S.t 9 with
  |some (.int _ k),some (.bool f)=>some ⟨k,f⟩
  |_,_=>none
 pre b:=∃m:Nat,b.k=m∧m≤o.length∧b.f=frK r (rkF o) out i m
 mu b:=o.length-b.k.toNat
def tR42:List (Nat×CtE):=[(39,rg39),(59,rg59 mnI),(60,rg59 mxI)]
def TR42:Tab:=tabL tR42 noCh
/-- No sector is empty. -/
def wideR (r:List Int)(n:Nat):Prop:=∀c:Nat,c<n→gR r (c:Int)≠gR r ((c:Int)+1)
def rg42:CtE
 |[.agg [.imm (.ints .i64 a) n _,.imm (.ints .u8 k) m _,.imm (.ints .i64 r) p _],.imm (.ints .i64 o) q _]=>some ⟨immL .i64 (leastL r o),[],some (cok a k r n m p∧q=o.length∧okO o∧o.length<p∧p≤9∧wideR r o.length)⟩
 |_=>none
def tR42z:List (Nat×CtE):=[(39,rg39z)]
def TR42z:Tab:=tabL tR42z noCh
def rg42z:CtE
 |[.agg [.imm (.ints .i64 a) n _,.imm (.ints .u8 k) m _,.imm (.ints .i64 r) p _],.nils]=>some ⟨immL .i64 [],[],some (cok a k r n m p)⟩
 |_=>none
/-! ### Growing -/
def padK (l:List Int):List Int:=l++List.drop (List.length l) [0,0,0,0,0,0,0,0]
def pad8 (l:List Int):List Int:=[List.getD (padK l) 0 0,List.getD (padK l) 1 0,List.getD (padK l) 2 0,List.getD (padK l) 3 0,List.getD (padK l) 4 0,List.getD (padK l) 5 0,List.getD (padK l) 6 0,List.getD (padK l) 7 0]
def fndP (L:List (List Int)):List (List Int×List Int×Nat)×Nat:=L.foldl (fun s l=>(mput s.1 (pad8 l) [1] s.2,mck s.1 (pad8 l) s.2)) ([],0)
def fpE (L:List (List Int)):List (List Int×List Int×Nat):=(fndP L).1
def fpK (L:List (List Int)):Nat:=(fndP L).2
def hrM (L:List (List Int)):HO:=.blk ⟨.maps kkM vkM (fpE L) (fpK L),1,0,none,some false,true,true⟩
def hrG (a k r:List Int)(L:List (List Int)):List (Nat×HO):=
 [(9700,.blk (bkO L)),(256,hpB L),(192,hrM L),(193,.blk ⟨.cells [.mp 192],1,1,none,some false,true,true⟩),(320,.blk ⟨.cells [.fn 38 [] [.ptr 9130 0,.ptr 64 0,.ptr 320 0,.ptr 193 0,.ptr 256 0]],1,1,none,some false,true,true⟩),(64,.blk ⟨.cells [.imm (.ints .i64 a) a.length none,.imm (.ints .u8 k) k.length none],2,1,none,some false,true,true⟩),(9130,.blk ⟨.cells [.imm (.ints .i64 a) a.length none,.imm (.ints .u8 k) k.length none,.imm (.ints .i64 r) r.length none],3,1,none,some false,true,true⟩)]
def wrG (L:List (List Int)):List (Nat×HO):=[(192,hrM L),(256,hpB L),(9700,.blk (bkO L))]
/-- The ring, valid; on its line. -/
def okR (a k r:List Int):Prop:=Alt a.length r∧r.length=a.length+1∧k.length=a.length∧0<a.length∧a.length≤8
def rg40c:CtE
 |[.agg [.imm (.ints .i64 a) n _,.imm (.ints .u8 k) m _,.imm (.ints .i64 r) p _],.agg (.int .i64 x0:: .int .i64 x1:: .int .i64 x2:: .int .i64 x3:: .int .i64 x4:: .int .i64 x5:: .int .i64 x6:: .int .i64 x7::tl)]=>cond (isM 24 tl) (some ⟨.bool (crsB n r [x0,x1,x2,x3,x4,x5,x6,x7]),[],some (cok a k r n m p∧okR a k r)⟩) none
 |_=>none
def chGr (a k r:List Int)(q:Nat)(h:List (Nat×HO))(cv:AV)(args:List AV):Option Cx:=
 match cv,args with
 |.fn f [] [],[.full i n,.int .i64 p,.full j m]=>match aget h i,aget h j with
  |some (.blk ⟨.ints _ o,_,_,_,_,_,_⟩),some (.blk ⟨.ints _ [x],_,_,_,_,_,_⟩)=>cond (Nat.beq f 31&&(Nat.beq i 32896&&Nat.beq j 517)) (some ⟨.imm (.ints .i64 (insA o p.toNat x)) (insA o p.toNat x).length none,[(32896,.blk ⟨.ints .i64 (insA o p.toNat x),1,(insA o p.toNat x).length,none,some false,false,false⟩)],
    some (h=[(517,.blk ⟨.ints .i64 [x],1,1,some 1,some false,true,false⟩),(32896,.blk ⟨.ints .i64 o,1,o.length,none,some false,true,false⟩)]∧n=o.length∧m=1∧0<o.length∧o.length<1000000∧0≤p∧p≤o.length)⟩) none
  |_,_=>none
 |.fn f [] [],[.nils,.int .i64 p,.full j m]=>match aget h j with
  |some (.blk ⟨.ints _ [x],_,_,_,_,_,_⟩)=>cond (Nat.beq f 31&&Nat.beq j 517) (some ⟨.imm (.ints .i64 [x]) 1 none,[],some (h=[(517,.blk ⟨.ints .i64 [x],1,1,some 1,some false,true,false⟩)]∧m=1∧p=0)⟩) none
  |_=>none
 |.fn f [] [],[.imm (.ints .i64 o) m _,.ptr c 0,.ptr d 0,.ptr g 0,.ptr u 0,.ptr v 0]=>match aget h 9700 with
  |some (.blk ⟨.vals vs,_,_,_,_,_,_⟩)=>cond (Nat.beq f 38&&(Nat.beq c 9130&&(Nat.beq d 64&&(Nat.beq g 320&&(Nat.beq u 193&&Nat.beq v 256))))) (some ⟨.tup [],wrG (grwO a.length r (rotR k) (unO vs) o),some (h=hrG a k r (unO vs)∧m=o.length∧o.length=q∧q≤a.length∧0<q∧okG o∧okL a (unO vs))⟩) none
  |_=>none
 |_,_=>none
def tGr:List (Nat×CtE):=[(39,rg39),(40,rg40c),(41,rg41),(42,rg42),(32,eCloneP .i64)]
def TGr (a k r:List Int)(q:Nat):Tab:=tabL tGr (chGr a k r q)
def rg39b:CtE
 |[.nils]=>some ⟨rk32 [],[],none⟩
 |args=>rg39 args
def tGrn:List (Nat×CtE):=[(39,rg39b),(40,rg40c),(41,rg41),(42,rg42z),(32,eCloneN)]
def TGrn (a k r:List Int):Tab:=tabL tGrn (chGr a k r 1)
def lr38 (a k r o:List Int)(L:List (List Int)):LpS L58 where
 ov b:=[(31,.int .i64 b.i)]
 bk b:=[(192,hrM b.L),(256,hpB b.L),(9700,.blk (bkO b.L))]
 rd S:=match aget S.t 31,aget S.h 9700 with
  |some (.int _ i),some (.blk ⟨.vals vs,_,_,_,_,_,_⟩)=>some ⟨i,unO vs⟩
  |_,_=>none
 pre b:=∃m:Nat,b.i=m∧m≤o.length+1∧b.L=grwM a.length r (rotR k) L o m∧okL a b.L
 mu b:=o.length+1-b.i.toNat
/-! ### All ways -/
def okRing (a k:List Int):Prop:=(∀x∈a,1≤x∧x≤64)∧a.length≤8∧0<a.length∧k.length=a.length∧a.length%2=0∧(∀x∈k,1≤x∧x≤3)∧gR (raysL a) a.length=0
structure L37r where (i:Int)(r:List Int)
def lr37 (a:List Int)(fv:List AV):LpS L37r where
 ov b:=[(12,.int .i64 b.i)]
 bk b:=[(131,.blk ⟨.cells (fv++[.full 129 b.r.length]),3,1,none,some false,true,true⟩),(129,.blk ⟨.ints .i64 b.r,1,b.r.length,none,some false,true,false⟩)]
 rd S:=match aget S.t 12,aget S.h 129 with
  |some (.int _ i),some (.blk ⟨.ints _ r,_,_,_,_,_,_⟩)=>some ⟨i,r⟩
  |_,_=>none
 pre b:=∃m:Nat,b.i=m∧m≤a.length∧b.r=(raysL a).take (m+1)
 mu b:=a.length-b.i.toNat
def rg37:CtE
 |[.agg [.imm (.ints .i64 a) n _,.imm (.ints .u8 k) m _]]=>some ⟨conV a k (raysL a),[],some (n=a.length∧m=k.length∧okRing a k)⟩
 |_=>none
structure L36r where (i s:Int)
def lr36 (a:List Int):LpS L36r where
 ov b:=[(34,.int .i64 b.i),(3,.int .i64 b.s)]
 bk b:=[]
 rd S:=match aget S.t 34,aget S.t 3 with
  |some (.int _ i),some (.int _ s)=>some ⟨i,s⟩
  |_,_=>none
 pre b:=∃m:Nat,b.i=m∧m≤a.length∧b.s=gR (raysL a) m
 mu b:=a.length-b.i.toNat
def rg36:CtE
 |[.agg [.imm (.ints .i64 a) n _,.imm (.ints .u8 k) m _]]=>some ⟨.int .i64 0,[],some (n=a.length∧m=k.length∧okRing a k)⟩
 |_=>none
def TR18:Tab:=tabL [(36,rg36)] noCh
def chWr (a k r:List Int)(h:List (Nat×HO))(cv:AV)(args:List AV):Option Cx:=
 match cv,args,aget h 9700 with
 |.fn f [] [],[.nils,.ptr c 0,.ptr d 0,.ptr g 0,.ptr u 0,.ptr v 0],some (.blk ⟨.vals vs,_,_,_,_,_,_⟩)=>cond (Nat.beq f 38&&(Nat.beq c 9130&&(Nat.beq d 64&&(Nat.beq g 320&&(Nat.beq u 193&&Nat.beq v 256))))) (some ⟨.tup [],wrG (grwO a.length r (rotR k) [] []),some (h=hrG a k r []∧okR a k r)⟩) none
 |.fn f [] [],[.full i n,.fn g [] []],some (.blk ⟨.vals vs,_,_,_,_,_,_⟩)=>cond (Nat.beq f 34&&(Nat.beq i 9700&&Nat.beq g 35)) (some ⟨.tup [],[(9700,.blk ⟨.vals (outV (srtL (unO vs))),1,(unO vs).length,none,some true,true,false⟩)],some (h=[(9700,.blk (bkO (unO vs)))]∧n=(unO vs).length∧okL a (unO vs))⟩) none
 |_,_,_=>none
def TWr (a k:List Int):Tab:=tabL [(37,rg37)] (chWr a k (raysL a))
def j19a (a k r:List Int):LpS Unit where
 ov _:=[(3,.ptr 9130 0)]
 bk _:=[(9130,.blk ⟨.cells [.imm (.ints .i64 a) a.length none,.imm (.ints .u8 k) k.length none,.imm (.ints .i64 r) r.length none],3,1,none,some false,true,true⟩)]
 rd S:=some ()
 pre _:=True
 mu _:=0
def j19:LpS Unit where
 ov _:=[]
 bk _:=[(320,.blk ⟨.cells [.fn 38 [] [.ptr 9130 0,.ptr 64 0,.ptr 320 0,.ptr 193 0,.ptr 256 0]],1,1,none,some false,true,true⟩),(9700,.blk (bkO []))]
 rd S:=some ()
 pre _:=True
 mu _:=0
/-- The ways of a valid ring. -/
def rwL (a k:List Int):List (List Int):=waysL a.length (raysL a) (rotR k)
def rg19:CtE
 |[.agg [.imm (.ints .i64 a) n _,.imm (.ints .u8 k) m _]]=>some ⟨.imm (.vals (outV (rwL a k))) (rwL a k).length none,[],some (n=a.length∧m=k.length∧okRing a k)⟩
 |_=>none
def TR8:Tab:=tabL [(18,rg36),(19,rg19)] noCh
def rg8:CtE
 |[.agg [.imm (.ints .i64 a) n _,.imm (.ints .u8 k) m _]]=>some ⟨.tup [.int .i64 ((rwL a k).length:Nat),.int .i64 0],[],some (n=a.length∧m=k.length∧okRing a k)⟩
 |_=>none
def fstQ (a k:List Int):Int:=if rwL a k=[]then 7 else 0
def fstW (L:List (List Int)):List Int:=L[0]?.getD []
def rg10:CtE
 |[.agg [.imm (.ints .i64 a) n _,.imm (.ints .u8 k) m _]]=>some ⟨.tup [immL .i64 (fstW (rwL a k)),.int .i64 (fstQ a k)],[],some (n=a.length∧m=k.length∧okRing a k)⟩
 |_=>none
end Go.Proofs.YthiammkiobbclaaGreat.X
