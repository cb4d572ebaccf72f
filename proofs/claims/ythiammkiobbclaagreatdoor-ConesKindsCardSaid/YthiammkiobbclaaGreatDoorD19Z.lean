/-
 Cones: the choices that fold.
-/
import Derived.Test.YthiammkiobbclaaGreatDoorD9Z
import Derived.Test.YthiammkiobbclaaGreatDoorD12Z

set_option maxRecDepth 1000000
set_option linter.unusedVariables false
namespace Go.Proofs.YthiammkiobbclaaGreatDoor.X
open Go Go.Ab

/-- The kind that a mask says. -/
def kB (m i:Int):Int:=1+(m.fdiv (2 ^ i.toNat)).fmod 2
def kdM (m:Int)(n:Nat):List Int:=(List.range n).map fun(i:Nat)=>kB m i
/-- What a crease may be. -/
def fitK (k:List Int)(n:Nat)(b:Nat):Bool:=gR k n==1+(b:Int)||gR k n==3
/-- All choices, the crease's bits from n on. -/
def chL (k:List Int):Nat→Int→Nat→List (List Int)
 |0,m,n=>[kdM m n]
 |f+1,m,n=>(cond (fitK k n 0) (chL k f m (n+1)) [])++(cond (fitK k n 1) (chL k f (m+2 ^ n) (n+1)) [])
def kndO (a k:List Int)(m:Int)(n:Nat)(H:List (List Int)):List (List Int):=H++(chL k (k.length-n) m n).filter fun h=>foldB a h
/-- After some of the two bits. -/
def kndM (a k:List Int)(m:Int)(n:Nat)(H:List (List Int))(b:Nat):List (List Int):=
 H++((cond (ltn 0 b&&fitK k n 0) (chL k (k.length-(n+1)) m (n+1)) [])++(cond (ltn 1 b&&fitK k n 1) (chL k (k.length-(n+1)) (m+2 ^ n) (n+1)) [])).filter fun h=>foldB a h
def kndsL (a k:List Int):List (List Int):=if chk a k=0 then kndO a k 0 0 []else[]
def fnsV (a:List Int)(H:List (List Int)):List AV:=H.flatMap fun h=>[immL .i64 a,immL .u8 h]
def unK:List AV→List (List Int)
 |_:: .imm (.ints _ h) _ _::r=>h::unK r
 |_=>[]
def bkK (a:List Int)(H:List (List Int)):Blk:=⟨.vals (fnsV a H),2,H.length,none,some true,true,false⟩
def hpKB (H:List (List Int)):HO:=.blk ⟨.cells [.full 9700 H.length],1,1,none,some false,true,true⟩
def hpKC:HO:=.blk ⟨.cells [.fn 39 [] [.ptr 64 0,.ptr 384 0,.ptr 320 0]],1,1,none,some false,true,true⟩
def hpK (a k:List Int)(H:List (List Int)):List (Nat×HO):=
 [(9700,.blk (bkK a H)),(320,hpKB H),(384,hpKC),(64,.blk ⟨.cells [.imm (.ints .i64 a) a.length none,.imm (.ints .u8 k) k.length none],2,1,none,some false,true,true⟩)]
def wsK (a:List Int)(H:List (List Int)):List (Nat×HO):=[(320,hpKB H),(9700,.blk (bkK a H))]
/-- What is asked. -/
def okM (m:Int)(n:Nat):Prop:=0≤m∧m<2 ^ n∧n≤8
def okH (k:List Int)(n:Nat)(H:List (List Int)):Prop:=H.length+2 ^ (k.length-n)≤1000
def chK (a k:List Int)(q:Nat)(h:List (Nat×HO))(cv:AV)(args:List AV):Option Cx:=
 match cv,args,aget h 9700 with
 |.fn f [] [],[.int .i64 m,.int .i64 n,.ptr c 0,.ptr g 0,.ptr u 0],some (.blk ⟨.vals vs,_,_,_,_,_,_⟩)=>cond (Nat.beq f 39&&(Nat.beq c 64&&(Nat.beq g 384&&Nat.beq u 320)))
   (some ⟨.tup [],wsK a (kndO a k m n.toNat (unK vs)),some (h=hpK a k (unK vs)∧0≤n∧n.toNat=q∧q≤k.length∧okM m q∧okH k q (unK vs))⟩) none
 |_,_,_=>none
def tK:List (Nat×CtE):=[(41,eCloneF .i64),(40,eClip .i64),(20,e14)]
def TK (a k:List Int)(q:Nat):Tab:=tabL tK (chK a k q)
structure LK where (i:Int)(H:List (List Int))
def lk39 (a k:List Int)(m:Int)(n:Nat)(H:List (List Int)):LpS LK where
 ov b:=[(18,.int .i64 b.i)]
 bk b:=[(320,hpKB b.H),(9700,.blk (bkK a b.H))]
 rd S:=match aget S.t 18,aget S.h 9700 with
  |some (.int _ i),some (.blk ⟨.vals vs,_,_,_,_,_,_⟩)=>some ⟨i,unK vs⟩
  |_,_=>none
 pre b:=∃i:Nat,b.i=i∧i≤2∧b.H=kndM a k m n H i
 mu b:=2-b.i.toNat
structure LKk where (i:Int)(h:List Int)
def mk39 (m:Int)(n:Nat):LpS LKk where
 ov b:=[(59,.int .i64 b.i)]
 bk b:=[(581,.blk ⟨.ints .u8 b.h,1,n,some n,some false,true,false⟩)]
 rd S:=match aget S.t 59,aget S.h 581 with
  |some (.int _ i),some (.blk ⟨.ints _ h,_,_,_,_,_,_⟩)=>some ⟨i,h⟩
  |_,_=>none
 pre b:=∃i:Nat,b.i=i∧i≤n∧b.h=(kdM m n).take i++List.replicate (n-i) 0
 mu b:=n-b.i.toNat
def e42:CtE
 |[.imm (.vals vs) n _]=>some ⟨.imm (.vals vs) n (some n),[],some (vs.length=n*2)⟩
 |_=>none
def chW19 (a k:List Int)(h:List (Nat×HO))(cv:AV)(args:List AV):Option Cx:=
 match cv,args,aget h 9700 with
 |.fn f [] [],[.int .i64 m,.int .i64 n,.ptr c 0,.ptr g 0,.ptr u 0],some (.blk ⟨.vals vs,_,_,_,_,_,_⟩)=>cond (Nat.beq f 39&&(Nat.beq c 64&&(Nat.beq g 384&&Nat.beq u 320)))
   (some ⟨.tup [],wsK a (kndO a k 0 0 []),some (h=hpK a k []∧m=0∧n=0∧chk a k=0)⟩) none
 |_,_,_=>none
def T19 (a k:List Int):Tab:=tabL [(30,e17),(42,e42)] (chW19 a k)
def j19 (a:List Int):LpS Unit where
 ov _:=[]
 bk _:=[(384,hpKC),(9700,.blk (bkK a []))]
 rd S:=some ()
 pre _:=True
 mu _:=0
def kdsV (a k:List Int):AV:=.imm (.vals (fnsV a (kndsL a k))) (kndsL a k).length (some (kndsL a k).length)
def e19c:CtE
 |[.agg [.imm (.ints .i64 a) n _,.imm (.ints .u8 k) m _]]=>some ⟨.tup [kdsV a k,.int .i64 (chk a k)],[],some (n=a.length∧m=k.length∧a.length<1000000∧k.length<1000000)⟩
 |_=>none
def T31:Tab:=tabL [(19,e19c)] noCh
def fldB (a k:List Int):Bool:=ltb 0 ((kndsL a k).length:Nat)
def e31c:CtE
 |[.agg [.imm (.ints .i64 a) n _,.imm (.ints .u8 k) m _]]=>some ⟨.tup [.bool (fldB a k),.int .i64 (chk a k)],[],some (n=a.length∧m=k.length∧a.length<1000000∧k.length<1000000)⟩
 |_=>none
end Go.Proofs.YthiammkiobbclaaGreatDoor.X

/-
 Cones: what the law of kinds computes.
-/
set_option maxRecDepth 1000000
set_option linter.unusedVariables false
namespace Go.Proofs.YthiammkiobbclaaGreatDoor.X
open Go Go.Ab

def t4:List (Nat×CtE):=[(10,e25),(19,e19c),(16,e16c),(20,e14),(21,e32),(11,e11)]
def T4k:Tab:=tabL t4 noCh
/-- All choices of kinds, in their order. -/
def allK:Nat→List (List Int)
 |0=>[[]]
 |n+1=>(allK n).map (fun h=>1::h)++(allK n).map (fun h=>2::h)
def hM (n:Nat)(m:Int):List Int:=(allK n)[m.toNat]?.getD []
def fitT (k h:List Int)(i:Nat):Bool:=(List.range i).all fun(j:Nat)=>gR k j==3||gR k j==gR h j
def isK (a k h:List Int):Bool:=fitT k h k.length&&foldB a h
def kN (a k:List Int)(m:Nat):List (List Int):=((allK k.length).take m).filter fun h=>isK a k h
def sumC (a:List Int)(L:List (List Int)):Int:=(L.map fun h=>((cwL a h).length:Int)).sum
structure L4 where (m t s:Int)
def l4 (a k:List Int):LpS L4 where
 ov b:=[(11,.int .i64 b.m),(9,.int .i64 b.t),(10,.int .i64 b.s)]
 bk b:=[]
 rd S:=match aget S.t 11,aget S.t 9,aget S.t 10 with
  |some (.int _ m),some (.int _ t),some (.int _ s)=>some ⟨m,t,s⟩
  |_,_,_=>none
 pre b:=∃m:Nat,b.m=m∧m≤2 ^ k.length∧b.t=((kN a k m).length:Nat)∧b.s=sumC a (kN a k m)
 mu b:=2 ^ k.length-b.m.toNat
structure I4 where (i:Int)(f:Bool)(h:List Int)
def i4 (a k:List Int)(m:Int):LpS I4 where
 ov b:=[(14,.int .i64 b.i),(13,.bool b.f)]
 bk b:=[(899,.blk ⟨.cells [.imm (.ints .i64 a) a.length none,.full 9001 b.h.length],2,1,none,some false,true,true⟩),(9001,.blk (blkOf .u8 b.h))]
 rd S:=match aget S.t 14,aget S.t 13,aget S.h 9001 with
  |some (.int _ i),some (.bool f),some (.blk ⟨.ints _ h,_,_,_,_,_,_⟩)=>some ⟨i,f,h⟩
  |_,_,_=>none
 pre b:=∃i:Nat,b.i=i∧i≤k.length∧b.f=fitT k (hM k.length m) i∧b.h=(hM k.length m).take i
 mu b:=k.length-b.i.toNat
/-- The choice that the list has at a place. -/
def kA (a k:List Int)(i:Int):List Int:=(kndsL a k)[i.toNat]?.getD []
end Go.Proofs.YthiammkiobbclaaGreatDoor.X
