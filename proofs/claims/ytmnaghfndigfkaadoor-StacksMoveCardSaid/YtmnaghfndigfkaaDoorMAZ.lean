/-
 Stacks that are moved: what the functions compute.
-/
import Derived.Test.YtmnaghfndigfkaaDoorPMZ
set_option maxRecDepth 1000000
set_option linter.unusedVariables false
namespace Go.Proofs.YtmnaghfndigfkaaDoor.X
open Go Go.Ab

/-! ### Cells of stacks -/
def vldT (l:List Sk):Prop:=∀s∈l,vldC s.1=true∧0≤s.1.2.2
/-- Stacks by value, whatever their layers' room. -/
def okTC (a:List AV)(n:Nat):Prop:=(a=flatT (unT a)∨a=flatC (unT a))∧n=(unT a).length∧(unT a).length<1000000∧∀s∈unT a,smK s.2
def e105:CtE
 |[.agg [.int .i64 x,.int .i64 y,.int .u8 q,.imm (.ints .i64 a) n _]]=>some ⟨.bool (!vldC (x,y,q)),[],some (n=a.length)⟩
 |_=>none
def tM105:List (Nat×CtE):=[(86,e86)]
def TM105:Tab:=tabL tM105 noCh
def e145:CtE
 |[.imm (.vals a) n _,.fn f [] []]=>cond (Nat.beq f 105) (some ⟨.int .i64 (-1),[],some (okTC a n∧vldT (unT a))⟩) none
 |_=>none
def TM145:Tab:=tabL [(105,e105)] noCh
def l145 (l:List Sk):LpS L1 where
 ov b:=[(8,.int .i64 b.i)]
 bk b:=[]
 rd S:=match aget S.t 8 with
  |some (.int _ i)=>some ⟨i⟩
  |_=>none
 pre b:=∃n:Nat,b.i=n∧n≤l.length
 mu b:=l.length-b.i.toNat
def e104:CtE
 |[.imm (.vals a) n _,.fn f [] []]=>cond (Nat.beq f 105) (some ⟨.bool false,[],some (okTC a n∧vldT (unT a))⟩) none
 |_=>none
def TM104:Tab:=tabL [(145,e145)] noCh
def e73:CtE
 |[.agg [.int .i64 x,.int .i64 y,.int .u8 q,.imm (.ints .i64 a) n _]]=>some ⟨.agg [.int .i64 x,.int .i64 y,.int .u8 q,layC a],[],some (n=a.length∧smK a)⟩
 |_=>none
def TM73:Tab:=tabL [(67,e67f),(66,e66f)] noCh
def e107:CtE
 |[.agg [.int .i64 x,.int .i64 y,.int .u8 q,.imm (.ints .i64 a) n _],.agg [.int .i64 u,.int .i64 v,.int .u8 p,.imm (.ints .i64 b) m _]]=>some ⟨.int .i64 (cmpC (x,y,q) (u,v,p)),[],some ((n=a.length∧m=b.length)∧0≤q∧q≤255∧0≤p∧p≤255)⟩
 |_=>none
def TM107:Tab:=tabL [(79,e79)] noCh
def okQT (l:List Sk):Prop:=∀s∈l,smK s.2∧0≤s.1.2.2∧s.1.2.2≤255
/-! ### Sorting -/
def blkS (o:List AV)(n:Nat):HO:=.blk ⟨.vals o,4,n,some n,some false,true,false⟩
def TM153:Tab:=tabL [(107,e107)] noCh
structure L153 where (i:Int)(o:List AV)
def l153 (l:List Sk):LpS L153 where
 ov b:=[(8,.int .i64 b.i)]
 bk b:=[(258,blkS b.o l.length)]
 rd S:=match aget S.t 8,aget S.h 258 with
  |some (.int _ i),some (.blk ⟨.vals o,_,_,_,_,_,_⟩)=>some ⟨i,o⟩
  |_,_=>none
 pre b:=∃n:Nat,b.i=n∧1≤n∧(n≤l.length∨n=1)∧b.o=flatC (stg l n)
 mu b:=l.length-b.i.toNat
def m153 (l:List Sk)(i:Int):LpS L153 where
 ov b:=[(9,.int .i64 b.i)]
 bk b:=[(258,blkS b.o l.length)]
 rd S:=match aget S.t 9,aget S.h 258 with
  |some (.int _ i),some (.blk ⟨.vals o,_,_,_,_,_,_⟩)=>some ⟨i,o⟩
  |_,_=>none
 pre b:=∃j:Nat,b.i=j∧b.o=flatC (unT b.o)∧Way l i.toNat j (unT b.o)
 mu b:=b.i.toNat
def ch153 (h:List (Nat×HO))(cv:AV)(args:List AV):Option Cx:=
 match cv,args,aget h 258 with
 |.fn f [] [],[.full i n,.int .i64 a,.int .i64 b,.fn g [] []],some (.blk ⟨.vals vs,_,_,_,_,_,_⟩)=>cond (Nat.beq f 153&&(Nat.beq i 258&&Nat.beq g 107)) (cond (a==0) (some ⟨.tup [],[(258,blkS (flatC (stT (unT vs))) n)],some (h=[(258,blkS (flatC (unT vs)) n)]∧n=(unT vs).length∧(leb b n=true∧leb n b=true)∧n<1000000∧okQT (unT vs))⟩) (some ⟨.tup [],[],some (h=[(258,blkS (flatC (unT vs)) n)]∧b≤a∧0≤a∧a≤1000∧n=(unT vs).length)⟩)) none
 |_,_,_=>none
def TM146:Tab:=tabL [] ch153
def ch146 (h:List (Nat×HO))(cv:AV)(args:List AV):Option Cx:=
 match cv,args,aget h 258 with
 |.fn f [] [],[.full i n,.int .i64 b,.fn g [] []],some (.blk ⟨.vals vs,_,_,_,_,_,_⟩)=>cond (Nat.beq f 146&&(Nat.beq i 258&&Nat.beq g 107)) (some ⟨.tup [],[(258,blkS (flatC (stT (unT vs))) n)],some (h=[(258,blkS (flatC (unT vs)) n)]∧n=(unT vs).length∧b=(n:Int)∧n≤20∧okQT (unT vs))⟩) none
 |_,_,_=>none
def TM106:Tab:=tabL [] ch146
def ch106 (h:List (Nat×HO))(cv:AV)(args:List AV):Option Cx:=
 match cv,args,aget h 258 with
 |.fn f [] [],[.full i n,.fn g [] []],some (.blk ⟨.vals vs,_,_,_,_,_,_⟩)=>cond (Nat.beq f 106&&(Nat.beq i 258&&Nat.beq g 107)) (some ⟨.tup [],[(258,blkS (flatC (stT (unT vs))) n)],some (h=[(258,blkS (flatC (unT vs)) n)]∧n=(unT vs).length∧n≤20∧okQT (unT vs))⟩) none
 |_,_,_=>none
/-! ### Move -/
def tM54:List (Nat×CtE):=[(55,e55),(104,e104),(93,e93),(73,e73)]
def TM54:Tab:=tabL tM54 ch106
/-- All lie in the plane. -/
def allM (t a b:Int)(l:List Sk):Bool:=l.all fun s=>vldC (mvC t a b s.1)
def zr4:List AV:=[.int .i64 0,.int .i64 0,.int .u8 0,.nils]
structure L54 where (i:Int)(o:List AV)
def l54 (t a b_:Int)(l:List Sk):LpS L54 where
 ov b:=[(23,.int .i64 b.i)]
 bk b:=[(258,blkS b.o l.length)]
 rd S:=match aget S.t 23,aget S.h 258 with
  |some (.int _ i),some (.blk ⟨.vals o,_,_,_,_,_,_⟩)=>some ⟨i,o⟩
  |_,_=>none
 pre b:=∃n:Nat,b.i=n∧n≤l.length∧allM t a b_ (l.take n)=true∧b.o=flatC (mvS t a b_ (l.take n))++repL zr4 (l.length-n)
 mu b:=l.length-b.i.toNat
def e54b:CtE
 |[.imm (.vals l) n _,.agg [.int .u8 t,.int .i64 a,.int .i64 b]]=>some ⟨.tup [.nils,.int .i64 1],[],some ((0≤t∧t≤255)∧mvV t a b=false)⟩
 |_=>none
def e54o:CtE
 |[.imm (.vals l) n _,.agg [.int .u8 t,.int .i64 a,.int .i64 b]]=>some ⟨.tup [.nils,.int .i64 3],[],some (mvO t a b∧okTC l n∧vldT (unT l)∧n≤20∧allM t a b (unT l)=false)⟩
 |_=>none
def e54k:CtE
 |[.imm (.vals l) n _,.agg [.int .u8 t,.int .i64 a,.int .i64 b]]=>some ⟨.tup [.imm (.vals (flatC (stT (mvS t a b (unT l))))) (unT l).length (some (unT l).length),.int .i64 0],[],some (mvO t a b∧okTC l n∧vldT (unT l)∧n≤20∧allM t a b (unT l)=true)⟩
 |_=>none
/-! ### The reference -/
def e111:CtE
 |[.agg [.int .i64 x,.int .i64 y,.int .u8 q],.agg [.int .i64 u,.int .i64 v,.int .u8 p]]=>some ⟨.int .i64 (bI (ltC (u,v,p) (x,y,q)) 1 0),[],none⟩
 |_=>none
def TM57:Tab:=tabL [(111,e111)] noCh
def blkR4 (o:List AV)(n:Nat):HO:=.blk ⟨.vals o,4,n,none,some false,true,false⟩
def l57 (l:List Sk):LpS L153 where
 ov b:=[(4,.int .i64 b.i)]
 bk b:=[(128,blkR4 b.o l.length)]
 rd S:=match aget S.t 4,aget S.h 128 with
  |some (.int _ i),some (.blk ⟨.vals o,_,_,_,_,_,_⟩)=>some ⟨i,o⟩
  |_,_=>none
 pre b:=∃n:Nat,b.i=n∧1≤n∧(n≤l.length∨n=1)∧b.o=flatT (stg l n)
 mu b:=l.length-b.i.toNat
def m57 (l:List Sk)(i:Int):LpS L153 where
 ov b:=[(5,.int .i64 b.i)]
 bk b:=[(128,blkR4 b.o l.length)]
 rd S:=match aget S.t 5,aget S.h 128 with
  |some (.int _ i),some (.blk ⟨.vals o,_,_,_,_,_,_⟩)=>some ⟨i,o⟩
  |_,_=>none
 pre b:=∃j:Nat,b.i=j∧b.o=flatT (unT b.o)∧Way l i.toNat j (unT b.o)
 mu b:=b.i.toNat
def e57:CtE
 |[.imm (.vals a) n _]=>some ⟨lsk (stT (unT a)),[],some (okT a n)⟩
 |_=>none
/-! ### Inverse -/
def numM (a b c d:Int):Int:=if a=1 then(if d=1 then 0 else 6)else if a= -1 then(if d= -1 then 2 else 4)else if b= -1 then(if c=1 then 1 else 5)else if c= -1 then 3 else 7
def isMx (a b c d:Int):Prop:=(a,b,c,d)∈[((1:Int),(0:Int),(0:Int),(1:Int)),(0,-1,1,0),(-1,0,0,-1),(0,1,-1,0),(-1,0,0,1),(0,-1,-1,0),(1,0,0,-1),(0,1,1,0)]
def e114:CtE
 |[.agg [.int .i64 a,.int .i64 b,.int .i64 c,.int .i64 d]]=>some ⟨.int .u8 (numM a b c d),[],some (isMx a b c d)⟩
 |_=>none
def e113:CtE
 |[.agg [.int .u8 t,.int .i64 a,.int .i64 b]]=>some ⟨.tup [.agg [.int .u8 t,.int .i64 a,.int .i64 b],.int .i64 0],[],some (mvO t a b)⟩
 |_=>none
def TM113:Tab:=tabL [(55,e55)] noCh
def tM58:List (Nat×CtE):=[(55,e55),(112,e112),(114,e114),(113,e113)]
def TM58:Tab:=tabL tM58 noCh
def e58:CtE
 |[.agg [.int .u8 t,.int .i64 a,.int .i64 b]]=>some ⟨.tup [.agg [.int .u8 (ivT t),.int .i64 (ivX t a b),.int .i64 (ivY t a b)],.int .i64 0],[],some (mvO t a b)⟩
 |_=>none
/-! ### Image -/
def ckX (k:Nat)(x q:Int):Int:=if q=0 then(if k=1 then 6*x else 6*x+6)else if q=1 then 6*x+6 else if q=2 then(if k=1 then 6*x+6 else 6*x)else 6*x
def ckY (k:Nat)(y q:Int):Int:=if q=0 then 6*y else if q=1 then(if k=1 then 6*y else 6*y+6)else if q=2 then 6*y+6 else(if k=1 then 6*y+6 else 6*y)
def e123:CtE
 |[.agg [.int .i64 x,.int .i64 y,.int .u8 q]]=>some ⟨.agg [.int .i64 (6*x+3),.int .i64 (6*y+3),.int .i64 (ckX 1 x q),.int .i64 (ckY 1 y q),.int .i64 (ckX 2 x q),.int .i64 (ckY 2 y q)],[],some (s10k x y)⟩
 |_=>none
def TM75:Tab:=tabL [(123,e123)] noCh
def inX (q:Int):Int:=if q=0 then 3 else if q=1 then 5 else if q=2 then 3 else 1
def inY (q:Int):Int:=if q=0 then 1 else if q=1 then 3 else if q=2 then 5 else 3
def e75:CtE
 |[.agg [.int .i64 x,.int .i64 y,.int .u8 q]]=>some ⟨.agg [.int .i64 (6*x+inX q),.int .i64 (6*y+inY q)],[],some (s10k x y)⟩
 |_=>none
def s70k (x y:Int):Prop:= -70000≤x∧x≤70000∧ -70000≤y∧y≤70000
def e110:CtE
 |[.agg [.int .u8 t,.int .i64 a,.int .i64 b],.agg [.int .i64 x,.int .i64 y]]=>some ⟨.agg [.int .i64 (mtX t x y+6*a),.int .i64 (mtY t x y+6*b)],[],some (mvO t a b∧s70k x y)⟩
 |_=>none
def e147:CtE
 |[.int .i64 a,.int .i64 b]=>some ⟨.int .i64 (a/6),[],some (b=6∧ -1000000≤a∧a≤1000000)⟩
 |_=>none
def qAt (x y:Int):Int:=if y<x then(if x+y<6 then 0 else 1)else if 6<x+y then 2 else 3
def TM109:Tab:=tabL [(147,e147)] noCh
def e109:CtE
 |[.agg [.int .i64 x,.int .i64 y]]=>some ⟨.agg [.int .i64 (x/6),.int .i64 (y/6),.int .u8 (qAt (x-6*(x/6)) (y-6*(y/6)))],[],some (-1000000≤x∧x≤1000000∧ -1000000≤y∧y≤1000000)⟩
 |_=>none
def TM56:Tab:=tabL [(75,e75),(110,e110),(109,e109)] noCh
def e56:CtE
 |[.agg [.int .u8 t,.int .i64 a,.int .i64 b],.agg [.int .i64 x,.int .i64 y,.int .u8 q]]=>some ⟨.agg [.int .i64 (mvX' t a x y),.int .i64 (mvY' t b x y),.int .u8 (mvQ t q)],[],some (mvO t a b∧vq x y q)⟩
 |_=>none
end Go.Proofs.YtmnaghfndigfkaaDoor.X
