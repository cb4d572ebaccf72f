/-
 Stacks: lists of a cell and its layers; what the functions on them compute.
-/
import Derived.Test.YtmnaghfndigfkaaDoorDDZ
set_option maxRecDepth 1000000
set_option linter.unusedVariables false
namespace Go.Proofs.YtmnaghfndigfkaaDoor.X
open Go Go.Ab

abbrev Sk:=Cl×List Int
def layV (ks:List Int):AV:=.imm (.ints .i64 ks) ks.length none
def skV (s:Sk):List AV:=[.int .i64 s.1.1,.int .i64 s.1.2.1,.int .u8 s.1.2.2,layV s.2]
def flatT (l:List Sk):List AV:=l.flatMap skV
def lsk (l:List Sk):AV:=.imm (.vals (flatT l)) l.length none
def unT:List AV→List Sk
 |.int _ x:: .int _ y:: .int _ q:: .imm (.ints _ ks) _ _::r=>((x,y,q),ks)::unT r
 |_=>[]
/-- At most 1000000 stacks, each with at most 1000000 layers. -/
def smK (ks:List Int):Prop:=ks.length<1000000
def okT (a:List AV)(n:Nat):Prop:=a=flatT (unT a)∧n=(unT a).length∧(unT a).length<1000000∧∀s∈unT a,smK s.2
def gT (l:List Sk)(i:Int):Sk:=l[i.toNat]?.getD ((0,0,0),[])
def tX (l:List Sk)(i:Int):Int:=(gT l i).1.1
def tY (l:List Sk)(i:Int):Int:=(gT l i).1.2.1
def tQ (l:List Sk)(i:Int):Int:=(gT l i).1.2.2
def tKh (l:List Sk)(i:Int):List Int:=(gT l i).2
def tV (l:List Sk)(i:Int):List AV:=[.int .i64 (tX l i),.int .i64 (tY l i),.int .u8 (tQ l i),layV (tKh l i)]
/-! ### Lists of numbers -/
def eqK:List Int→List Int→Bool
 |[],[]=>true
 |a::r,b::s=>cond (a==b) (eqK r s) false
 |_,_=>false
def ixI:List Int→Int→Int→Int
 |[],_,_=> -1
 |a::r,c,i=>cond (c==a) i (ixI r c (i+1))
def e64:CtE
 |[.int .i64 x,.int .i64 y,.int .u8 q]=>some ⟨.agg [.int .i64 x,.int .i64 y,.int .u8 q],[],none⟩
 |_=>none
def e67f:CtE
 |[.imm (.ints .i64 ks) n _]=>some ⟨layV ks,[],some (n=ks.length∧smK ks)⟩
 |_=>none
def layC (ks:List Int):AV:=.imm (.ints .i64 ks) ks.length (some ks.length)
def e66f:CtE
 |[.imm (.ints .i64 ks) n _]=>some ⟨layC ks,[],some (n=ks.length∧smK ks)⟩
 |_=>none
/-! ### Find, Height, At, Same -/
def fdS:List Sk→Int→Cl×Int×Int
 |[],_=>((0,0,0),0,7)
 |s::r,c=>cond (leb 0 (ixI s.2 c 0)) (s.1,ixI s.2 c 0,0) (fdS r c)
def hgt:List Sk→Nat
 |[]=>0
 |s::r=>Nat.max s.2.length (hgt r)
structure L17 where (i m:Int)
def atL:List Sk→Cl→List Int
 |[],_=>[]
 |s::r,c=>cond (eqCl s.1 c) s.2 (atL r c)
/-- same, of a list with the capacity c; of an own row. -/
def e19:CtE
 |[.imm (.ints .i64 a) n (some c),.imm (.ints .i64 b) m _]=>some ⟨.int .i64 (bI (Nat.beq c n&&eqK a b) 1 0),[],some (n=a.length∧m=b.length∧smK a∧smK b)⟩
 |_=>none
def l19 (a b:List Int):LpS L1 where
 ov c:=[(5,.int .i64 c.i)]
 bk c:=[]
 rd S:=match aget S.t 5 with
  |some (.int _ i)=>some ⟨i⟩
  |_=>none
 pre c:=∃n:Nat,c.i=n∧n≤a.length∧eqK (a.drop n) (b.drop n)=eqK a b
 mu c:=a.length-c.i.toNat
/-! ### The stacks of plain data -/
def ptV (s:Sk):List AV:=[.int .i8 s.1.1,.int .i8 s.1.2.1,.int .u8 s.1.2.2,.imm (.ints .u8 s.2) s.2.length none]
def flatR (l:List Sk):List AV:=l.flatMap ptV
def rawT (l:List Sk):Prop:=∀s∈l,(i8P s.1.1∧i8P s.1.2.1∧0≤s.1.2.2∧s.1.2.2≤255)∧∀k∈s.2,0≤k∧k≤255
def stk (s:Sk):Sk:=(cel s.1,s.2.take 8)
def stO (l:List Sk):List Sk:=(l.take 20).map stk
def e15:CtE
 |[.imm (.vals a) n _]=>some ⟨lsk (stO (unT a)),[],some (a=flatR (unT a)∧n=(unT a).length∧rawT (unT a))⟩
 |_=>none
def pV (l:List Sk)(i:Int):AV:=.imm (.ints .u8 (tKh l i)) (tKh l i).length none
structure L15 where (i:Int)(o:List AV)(n:Nat)
def l15 (l:List Sk):LpS L15 where
 ov b:=[(4,.int .i64 b.i),(3,.full 9001 b.n)]
 bk b:=[(9001,.blk ⟨.vals b.o,4,b.n,none,some true,true,false⟩)]
 rd S:=match aget S.t 4,aget S.h 9001 with
  |some (.int _ i),some (.blk ⟨.vals o,_,n,_,_,_,_⟩)=>some ⟨i,o,n⟩
  |_,_=>none
 pre b:=∃n:Nat,b.i=n∧n≤l.length∧n≤20∧b.o=flatT ((l.take n).map stk)∧b.n=n
 mu b:=l.length-b.i.toNat
structure M15 where (k:Int)(o:List Int)(n:Nat)
def bx15 (x y q:Int)(n:Nat):HO:=.blk ⟨.cells [.int .i64 x,.int .i64 y,.int .u8 q,.full 9002 n],4,1,none,some false,true,true⟩
def m15 (l:List Sk)(i:Int):LpS M15 where
 ov b:=[(6,.int .i64 b.k)]
 bk b:=[(404,bx15 (tX l i) (tY l i) ((tQ l i).tmod 4) b.n),(9002,.blk ⟨.ints .i64 b.o,1,b.n,none,some true,true,false⟩)]
 rd S:=match aget S.t 6,aget S.h 9002 with
  |some (.int _ k),some (.blk ⟨.ints _ o,_,n,_,_,_,_⟩)=>some ⟨k,o,n⟩
  |_,_=>none
 pre b:=∃n:Nat,b.k=n∧n≤(tKh l i).length∧n≤8∧b.o=(tKh l i).take n∧b.n=n
 mu b:=(tKh l i).length-b.k.toNat
def tH15:List (Nat×CtE):=[(64,e64)]
def TH15:Tab:=tabL tH15 noCh
end Go.Proofs.YtmnaghfndigfkaaDoor.X
