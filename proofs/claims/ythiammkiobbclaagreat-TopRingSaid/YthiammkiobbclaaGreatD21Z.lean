/-
 Rings: what crosses in a pile.
-/
import Derived.Test.YthiammkiobbclaaGreatD20Z
set_option maxRecDepth 1000000
set_option linter.unusedVariables false
namespace Go.Proofs.YthiammkiobbclaaGreat.X
open Go Go.Ab

abbrev conF (a k r:List Int):Cont:=.vals [.imm (.ints .i64 a) a.length none,.imm (.ints .u8 k) k.length none,.imm (.ints .i64 r) r.length none]
/-- The visit of the creases beside one. -/
def besV (a k r:List Int)(c:Int):AV:=.fn 86 [] [.iptr (conF a k r),.iptr (.vals [.int .i64 c])]
def rg62:CtE
 |[.agg [.imm (.ints .i64 a) n _,.imm (.ints .u8 k) m _,.imm (.ints .i64 r) p _],.int .i64 c]=>some ⟨besV a k r c,[],some (cok a k r n m p)⟩
 |_=>none
def besB (r:List Int)(c x:Int):Bool:=(x !=c)&&((gR r (x+1)==gR r (c+1))&&(ltb (gR r (c+1)) (gR r x)==ltb (gR r (c+1)) (gR r c)))
def c2B (n:Int)(rk:List Int)(c x:Int):Bool:=leb 0 (mnI (gR rk x) (gR rk (bhI n x)))&&(btwB n rk (bhI n c) x !=btwB n rk (bhI n c) (bhI n x))
def c1B (n:Int)(r rk:List Int)(c x:Int):Bool:=insB r (gR r (c+1)) x&&btwB n rk (bhI n c) x
def cr1 (n:Nat)(r rk:List Int)(c:Int):Bool:=anyN n fun x=>c1B n r rk c x
def cr2 (n:Nat)(r rk:List Int)(c:Int):Bool:=anyN n fun x=>besB r c x&&c2B n rk c x
def hoC (a k r:List Int):HO:=.blk ⟨.cells [.imm (.ints .i64 a) a.length none,.imm (.ints .u8 k) k.length none,.imm (.ints .i64 r) r.length none],3,1,none,some false,true,true⟩
def hoR (x0 x1 x2 x3 x4 x5 x6 x7:Int):HO:=.blk ⟨.cells [.int .i64 x0,.int .i64 x1,.int .i64 x2,.int .i64 x3,.int .i64 x4,.int .i64 x5,.int .i64 x6,.int .i64 x7,.int .i64 (-1),.int .i64 (-1),.int .i64 (-1),.int .i64 (-1),.int .i64 (-1),.int .i64 (-1),.int .i64 (-1),.int .i64 (-1),.int .i64 (-1),.int .i64 (-1),.int .i64 (-1),.int .i64 (-1),.int .i64 (-1),.int .i64 (-1),.int .i64 (-1),.int .i64 (-1),.int .i64 (-1),.int .i64 (-1),.int .i64 (-1),.int .i64 (-1),.int .i64 (-1),.int .i64 (-1),.int .i64 (-1),.int .i64 (-1)],32,1,none,some false,true,true⟩
def hoB (b:Bool):HO:=.blk ⟨.cells [.bool b],1,1,none,some false,true,true⟩
def hoI (i:Int):HO:=.blk ⟨.cells [.int .i64 i],1,1,none,some false,true,true⟩
def rtm40 (a k r:List Int)(x0 x1 x2 x3 x4 x5 x6 x7 i:Int):List (Nat×AV):=[(2,.ptr 64 0),(3,.ptr 65 0),(4,.ptr 66 0),(12,.int .i64 a.length),(13,.int .i64 i),(5,.ptr 257 0),(27,.bool false),(51,besV a k r i)]
noncomputable def rL40 (a k r:List Int)(x0 x1 x2 x3 x4 x5 x6 x7 i:Int):LoopS:=rfLoop fe40 (rtm40 a k r x0 x1 x2 x3 x4 x5 x6 x7 i)
noncomputable def rH40 (id:Nat)(a k r:List Int)(x0 x1 x2 x3 x4 x5 x6 x7 i:Int):List (Nat×HO):=[(257,hoI i),(66,hoB false),(65,hoR x0 x1 x2 x3 x4 x5 x6 x7),(64,hoC a k r),(id,.loop (rL40 a k r x0 x1 x2 x3 x4 x5 x6 x7 i))]
noncomputable def rW40 (id:Nat)(a k r:List Int)(x0 x1 x2 x3 x4 x5 x6 x7 i:Int):List (Nat×HO):=[(66,hoB true),(id,.loop {rL40 a k r x0 x1 x2 x3 x4 x5 x6 x7 i with st:=2,pend:=some .ret})]
def tR3:List (Nat×CtE):=[(59,rg59 mnI),(60,rg59 mxI),(61,rg61),(62,rg62),(63,rg63)]
def TR3:Tab:=tabL tR3 noCh
/-- Rounds, by contracts. -/
noncomputable def chRn (a k r:List Int)(x0 x1 x2 x3 x4 x5 x6 x7 i:Int)(h:List (Nat×HO))(cv:AV)(args:List AV):Option Cx:=
 match cv,args with
 |.yld id,[.int .i64 x]=>cond (Nat.beq id 9002) (some ⟨.bool true,[],some (h=rH40 9002 a k r x0 x1 x2 x3 x4 x5 x6 x7 i∧0≤x∧x<a.length∧c2B a.length [x0,x1,x2,x3,x4,x5,x6,x7] i x=false)⟩) none
 |_,_=>none
noncomputable def TRn (a k r:List Int)(x0 x1 x2 x3 x4 x5 x6 x7 i:Int):Tab:=tabL [] (chRn a k r x0 x1 x2 x3 x4 x5 x6 x7 i)
noncomputable def wsY (a k r:List Int)(x0 x1 x2 x3 x4 x5 x6 x7 i:Int)(c:Bool):List (Nat×HO):=[(66,hoB c),(9003,.loop {rL40 a k r x0 x1 x2 x3 x4 x5 x6 x7 i with st:=cond c 2 0,pend:=cond c (some .ret) none})]
noncomputable def chRy (a k r:List Int)(x0 x1 x2 x3 x4 x5 x6 x7 i:Int)(h:List (Nat×HO))(cv:AV)(args:List AV):Option Cx:=
 match cv,args with
 |.yld id,[.int .i64 x]=>cond (Nat.beq id 9003) (some ⟨.bool (!c2B a.length [x0,x1,x2,x3,x4,x5,x6,x7] i x),wsY a k r x0 x1 x2 x3 x4 x5 x6 x7 i (c2B a.length [x0,x1,x2,x3,x4,x5,x6,x7] i x),some (h=rH40 9003 a k r x0 x1 x2 x3 x4 x5 x6 x7 i∧0≤x∧x<a.length)⟩) none
 |_,_=>none
noncomputable def TRy (a k r:List Int)(x0 x1 x2 x3 x4 x5 x6 x7 i:Int):Tab:=tabL [] (chRy a k r x0 x1 x2 x3 x4 x5 x6 x7 i)
noncomputable def l86n (a k r:List Int)(x0 x1 x2 x3 x4 x5 x6 x7 i:Int):LpS L83 where
 ov b:=[(16,.int .i64 b.i)]
 bk b:=[(66,hoB false),(9002,.loop (rL40 a k r x0 x1 x2 x3 x4 x5 x6 x7 i))]
 rd S:=match aget S.t 16 with
  |some (.int _ i)=>some ⟨i⟩
  |_=>none
 pre b:=∃m:Nat,b.i=m∧m≤a.length
 mu b:=a.length-b.i.toNat
noncomputable def l86y (a k r:List Int)(x0 x1 x2 x3 x4 x5 x6 x7 i:Int):LpS L83 where
 ov b:=[(16,.int .i64 b.i)]
 bk b:=wsY a k r x0 x1 x2 x3 x4 x5 x6 x7 i false
 rd S:=match aget S.t 16 with
  |some (.int _ i)=>some ⟨i⟩
  |_=>none
 pre b:=∃m:Nat,b.i=m∧m≤a.length∧∃q:Nat,m≤q∧q<a.length∧besB r i q=true∧c2B a.length [x0,x1,x2,x3,x4,x5,x6,x7] i q=true
 mu b:=a.length-b.i.toNat
/-- The visit, by contracts. -/
noncomputable def ch86 (a k r:List Int)(x0 x1 x2 x3 x4 x5 x6 x7:Int)(h:List (Nat×HO))(cv:AV)(args:List AV):Option Cx:=
 match cv,args with
 |.fn f [] [],[.yld id,.iptr (.vals [.imm (.ints .i64 a') n none,.imm (.ints .u8 k') m none,.imm (.ints .i64 r') p none]),.iptr (.vals [.int .i64 i])]=>
  cond (Nat.beq f 86&&Nat.beq id 9003) (some ⟨.tup [],rW40 9003 a k r x0 x1 x2 x3 x4 x5 x6 x7 i,some (h=rH40 9003 a k r x0 x1 x2 x3 x4 x5 x6 x7 i∧a'=a∧k'=k∧r'=r∧n=a.length∧m=k.length∧p=r.length∧0≤i∧i<a.length∧cr2 a.length r [x0,x1,x2,x3,x4,x5,x6,x7] i=true)⟩)
   (cond (Nat.beq f 86&&Nat.beq id 9002) (some ⟨.tup [],[],some (h=rH40 9002 a k r x0 x1 x2 x3 x4 x5 x6 x7 i∧a'=a∧k'=k∧r'=r∧n=a.length∧m=k.length∧p=r.length∧0≤i∧i<a.length∧cr2 a.length r [x0,x1,x2,x3,x4,x5,x6,x7] i=false)⟩) none)
 |_,_=>none
noncomputable def rT40 (a k r:List Int)(x0 x1 x2 x3 x4 x5 x6 x7:Int):Tab:=tabL tR3 (ch86 a k r x0 x1 x2 x3 x4 x5 x6 x7)
def rl40 (n:Nat)(r rk:List Int):LpS L83 where
 ov b:=[(13,.int .i64 b.i)]
 bk b:=[]
 rd S:=match aget S.t 13 with
  |some (.int _ i)=>some ⟨i⟩
  |_=>none
 pre b:=∃m:Nat,b.i=m∧m≤n∧∀j:Nat,j<m→(cr1 n r rk j||cr2 n r rk j)=false
 mu b:=n-b.i.toNat
def rm40 (n:Nat)(r rk:List Int)(i:Int):LpS L83 where
 ov b:=[(26,.int .i64 b.i)]
 bk b:=[]
 rd S:=match aget S.t 26 with
  |some (.int _ i)=>some ⟨i⟩
  |_=>none
 pre b:=∃m:Nat,b.i=m∧m≤n∧∀j:Nat,j<m→c1B n r rk i j=false
 mu b:=n-b.i.toNat
def crR (n:Nat)(r rk:List Int):Bool:=anyN n fun i=>cr1 n r rk i||cr2 n r rk i
def rg40:CtE
 |[.agg [.imm (.ints .i64 a) n _,.imm (.ints .u8 k) m _,.imm (.ints .i64 r) p _],.agg (.int .i64 x0:: .int .i64 x1:: .int .i64 x2:: .int .i64 x3:: .int .i64 x4:: .int .i64 x5:: .int .i64 x6:: .int .i64 x7::tl)]=>cond (isM 24 tl) (some ⟨.bool (crR n r [x0,x1,x2,x3,x4,x5,x6,x7]),[],some (cok a k r n m p∧0<n∧n≤8∧p=n+1)⟩) none
 |_=>none
end Go.Proofs.YthiammkiobbclaaGreat.X
