/-
 Rings: what the functions on a folded ring compute.
-/
import Derived.Test.YthiammkiobbclaaGreatD9Z
import Derived.Test.YthiammkiobbclaaGreatP4Z
set_option maxRecDepth 1000000
set_option linter.unusedVariables false
namespace Go.Proofs.YthiammkiobbclaaGreat.X
open Go Go.Ab

/-- The ranks of the segments: those that are there, and -1. -/
def m24:List AV:=[.int .i64 (-1),.int .i64 (-1),.int .i64 (-1),.int .i64 (-1),.int .i64 (-1),.int .i64 (-1),.int .i64 (-1),.int .i64 (-1),.int .i64 (-1),.int .i64 (-1),.int .i64 (-1),.int .i64 (-1),.int .i64 (-1),.int .i64 (-1),.int .i64 (-1),.int .i64 (-1),.int .i64 (-1),.int .i64 (-1),.int .i64 (-1),.int .i64 (-1),.int .i64 (-1),.int .i64 (-1),.int .i64 (-1),.int .i64 (-1)]
def r32V (x0 x1 x2 x3 x4 x5 x6 x7:Int):AV:=.agg [.int .i64 x0,.int .i64 x1,.int .i64 x2,.int .i64 x3,.int .i64 x4,.int .i64 x5,.int .i64 x6,.int .i64 x7,.int .i64 (-1),.int .i64 (-1),.int .i64 (-1),.int .i64 (-1),.int .i64 (-1),.int .i64 (-1),.int .i64 (-1),.int .i64 (-1),.int .i64 (-1),.int .i64 (-1),.int .i64 (-1),.int .i64 (-1),.int .i64 (-1),.int .i64 (-1),.int .i64 (-1),.int .i64 (-1),.int .i64 (-1),.int .i64 (-1),.int .i64 (-1),.int .i64 (-1),.int .i64 (-1),.int .i64 (-1),.int .i64 (-1),.int .i64 (-1)]
def isM:Nat→List AV→Bool
 |0,[]=>true
 |n+1,.int .i64 (.negSucc 0)::l=>isM n l
 |_,_=>false
def rk32 (o:List Int):AV:=r32V (rkO o 0) (rkO o 1) (rkO o 2) (rkO o 3) (rkO o 4) (rkO o 5) (rkO o 6) (rkO o 7)
/-- The segment behind a crease. -/
def bhI (n c:Int):Int:=(c+1).tmod n
/-- The kinds, from the crease that the fan has first. -/
def rotR (k:List Int):List Int:=k.drop (k.length-1)++k.take (k.length-1)
def rg59 (f:Int→Int→Int):CtE
 |[.agg [.imm (.ints .i64 a) n _,.imm (.ints .u8 k) m _,.imm (.ints .i64 r) p _],.int .i64 i]=>some ⟨.int .i64 (f (gR r i) (gR r (i+1))),[],some (cok a k r n m p∧0≤i∧i+1<p∧p≤9)⟩
 |_=>none
def rg63:CtE
 |[.agg [.imm (.ints .i64 a) n _,.imm (.ints .u8 k) m _,.imm (.ints .i64 r) p _],.int .i64 c]=>some ⟨.int .i64 (bhI n c),[],some (cok a k r n m p∧0<n∧n≤8∧0≤c∧c<n)⟩
 |_=>none
def tR1:List (Nat×CtE):=[(63,rg63)]
def TR1:Tab:=tabL tR1 noCh
def rg61:CtE
 |[.agg [.imm (.ints .i64 a) n _,.imm (.ints .u8 k) m _,.imm (.ints .i64 r) p _],.agg (.int .i64 x0:: .int .i64 x1:: .int .i64 x2:: .int .i64 x3:: .int .i64 x4:: .int .i64 x5:: .int .i64 x6:: .int .i64 x7::tl),.int .i64 c,.int .i64 s]=>cond (isM 24 tl) (some ⟨.bool (btwB n [x0,x1,x2,x3,x4,x5,x6,x7] (bhI n c) s),[],some (cok a k r n m p∧0<n∧n≤8∧0≤c∧c<n∧0≤s∧s<n)⟩) none
 |_=>none
def rg64:CtE
 |[.agg [.imm (.ints .i64 a) n _,.imm (.ints .u8 k) m _,.imm (.ints .i64 r) p _],.agg (.int .i64 x0:: .int .i64 x1:: .int .i64 x2:: .int .i64 x3:: .int .i64 x4:: .int .i64 x5:: .int .i64 x6:: .int .i64 x7::tl),.int .i64 c]=>cond (isM 24 tl) (some ⟨.int .u8 (kdI n [x0,x1,x2,x3,x4,x5,x6,x7] (bhI n c)),[],some (cok a k r n m p∧n%2=0∧0<n∧n≤8∧0≤c∧c<n)⟩) none
 |_=>none
def rg39:CtE
 |[.imm (.ints .i64 o) n _]=>some ⟨rk32 o,[],some (n=o.length∧okO o)⟩
 |_=>none
def rg39z:CtE
 |[.nils]=>some ⟨rk32 [],[],none⟩
 |_=>none
structure L39 where (i:Int)(rk:List Int)
def rkG (o:List Int):List Int:=rkA (List.replicate 32 (-1)) 0 o
def l39 (o:List Int):LpS L39 where
 ov b:=[(15,.int .i64 b.i)]
 bk b:=[(128,.blk ⟨.ints .i64 b.rk,1,32,none,some false,true,true⟩)]
 rd S:=match aget S.t 15,aget S.h 128 with
  |some (.int _ i),some (.blk ⟨.ints _ rk,_,_,_,_,_,_⟩)=>some ⟨i,rk⟩
  |_,_=>none
 pre b:=∃m:Nat,b.i=m∧m≤o.length∧b.rk.length=32∧rkA b.rk m (o.drop m)=rkG o
 mu b:=o.length-b.i.toNat
def tR2:List (Nat×CtE):=(64,rg64)::tR1
def TR2:Tab:=tabL tR2 noCh
def l41 (k rk:List Int):LpS L83 where
 ov b:=[(11,.int .i64 b.i)]
 bk b:=[]
 rd S:=match aget S.t 11 with
  |some (.int _ i)=>some ⟨i⟩
  |_=>none
 pre b:=∃m:Nat,b.i=m∧m≤k.length∧∀j:Nat,j<m→wrg1 (rotR k) rk (bhI k.length j)=false
 mu b:=k.length-b.i.toNat
def rg41:CtE
 |[.agg [.imm (.ints .i64 a) n _,.imm (.ints .u8 k) m _,.imm (.ints .i64 r) p _],.agg (.int .i64 x0:: .int .i64 x1:: .int .i64 x2:: .int .i64 x3:: .int .i64 x4:: .int .i64 x5:: .int .i64 x6:: .int .i64 x7::tl)]=>cond (isM 24 tl) (some ⟨.bool (wrgB (rotR k) [x0,x1,x2,x3,x4,x5,x6,x7]),[],some (cok a k r n m p∧0<n∧n%2=0∧n≤8∧m=n)⟩) none
 |_=>none
end Go.Proofs.YthiammkiobbclaaGreat.X
