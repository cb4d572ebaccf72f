/-
 Cones: what counting by definition computes.
-/
import Derived.Test.YthiammkiobbclaaGreatDoorD9Z
import Derived.Test.YthiammkiobbclaaGreatDoorO11Z
set_option maxRecDepth 1000000
set_option linter.unusedVariables false
namespace Go.Proofs.YthiammkiobbclaaGreatDoor.X
open Go Go.Ab
def B7Y (r:List Int)(u v:Int):Bool:=ltb (mnI (gR r u) (gR r (u+1))) (mxI (gR r v) (gR r (v+1)))&&ltb (mnI (gR r v) (gR r (v+1))) (mxI (gR r u) (gR r (u+1)))
def frO (r:List Int)(i:Int):List Int->Bool
 |[]=>true
 |x::l=>bif x==i then true else(!B7Y r x i&&frO r i l)
def okI (r o:List Int)(m:Nat)(i:Int):Bool:=A1q (o.take m) i|| !frO r i (o.drop m)
def B9W (r o:List Int)(m:Nat):Bool:=(List.range (gR o (m:Int)).toNat).all fun(i:Nat)=>okI r o m (i:Int)
def B5m (r o:List Int):Bool:=(List.range o.length).all fun(m:Nat)=>B9W r o m
def upI (f x:Int):Int:=if f<=x then x+1 else x
def dnI (f x:Int):Int:=if f<x then x-1 else x
def A5G (f:Int)(L:List (List Int)):List (List Int):=L.map fun o=>f::o.map (upI f)
def A0V:Nat->List (List Int)
 |0=>[[]]
 |n+1=>(List.range (n+1)).flatMap fun(f:Nat)=>A5G f (A0V n)
def D1R:CtE
 |[.agg [.imm (.ints .i64 a) n _,.imm (.ints .u8 k) m _],.int .i64 u,.int .i64 v]=>some ⟨.bool (B7Y (A0b a) u v),[],some (n=a.length/\m=k.length/\okA a/\0<=u/\u<a.length/\0<=v/\v<a.length)⟩
 |_=>none
def t36:List (Nat×CtE):=[(28,C39)]
def T36:Tab:=A2t t36 A3E
def D1S:CtE
 |[.agg [.imm (.ints .i64 a) n _,.imm (.ints .u8 k) m _],.imm (.ints .i64 o) p _]=>
  some ⟨.bool (B5m (A0b a) o),[],some (n=a.length/\m=k.length/\p=o.length/\okA a/\o.Perm ((List.range a.length).map fun(i:Nat)=>(i:Int)))⟩
 |_=>none
def t15:List (Nat×CtE):=[(36,D1R)]
def T15:Tab:=A2t t15 A3E
def tkL (o:List Int)(m:Nat):List Bool:=(List.range 8).map fun(i:Nat)=>A1q (o.take m) (i:Int)
structure L15 where (i:Int)(t:List Bool)
def D7H (t:List Bool):List (Nat×HO):=[(192,.blk ⟨.bools t,1,8,none,some false,true,true⟩)]
def l15 (r o:List Int):LpS L15 where
 ov b:=[(7,.int .i64 b.i)]
 bk b:=D7H b.t
 rd S:=match aget S.t 7,aget S.h 192 with
  |some (.int _ i),some (.blk ⟨.bools t,_,_,_,_,_,_⟩)=>some ⟨i,t⟩
  |_,_=>none
 pre b:=∃m:Nat,b.i=m/\m<=o.length/\b.t=tkL o m/\∀j:Nat,j<m->B9W r o j=true
 mu b:=o.length-b.i.toNat
def m15 (r o:List Int)(m:Nat):LpS L83 where
 ov b:=[(8,.int .i64 b.i)]
 bk b:=[]
 rd S:=match aget S.t 8 with
  |some (.int _ i)=>some ⟨i⟩
  |_=>none
 pre b:=∃p:Nat,b.i=p/\(p:Int)<=gR o (m:Int)/\∀j:Nat,j<p->okI r o m j=true
 mu b:=(gR o (m:Int)).toNat-b.i.toNat
structure N15 where (k:Int)(f:Bool)
def n15 (r o:List Int)(m:Nat)(i:Int):LpS N15 where
 ov b:=[(10,.int .i64 b.k),(9,.bool b.f)]
 bk b:=[]
 rd S:=match aget S.t 10,aget S.t 9 with
  |some (.int _ k),some (.bool f)=>some ⟨k,f⟩
  |_,_=>none
 pre b:=∃t:Nat,b.k=t/\m<=t/\t<=o.length/\frO r i (o.drop m)=(b.f&&frO r i (o.drop t))
 mu b:=o.length-b.k.toNat
def oV (L:List (List Int)):List AV:=L.map (A3X .i64)
def unN:List AV->List (List Int)
 |.imm (.ints _ l) _ _::r=>l::unN r
 |_=>[]
def D5q (q:Nat):CtE
 |[.int .i64 n]=>some ⟨.imm (.vals (oV (A0V q))) (A0V q).length none,[],some (n=q)⟩
 |_=>none
def T12 (q:Nat):Tab:=A2t [(12,D5q q)] A3E
def bkN (L:List (List Int)):List (Nat×HO):=[(9700,.blk ⟨.vals (oV L),1,L.length,none,some true,true,false⟩)]
structure L12 where (i:Int)(L:List (List Int))
def l12 (q:Nat):LpS L12 where
 ov b:=[(5,.int .i64 b.i),(4,.full 9700 b.L.length)]
 bk b:=bkN b.L
 rd S:=match aget S.t 5,aget S.h 9700 with
  |some (.int _ i),some (.blk ⟨.vals vs,_,_,_,_,_,_⟩)=>some ⟨i,unN vs⟩
  |_,_=>none
 pre b:=∃m:Nat,b.i=m/\m<=q+1/\b.L=(List.range m).flatMap fun(f:Nat)=>A5G f (A0V q)
 mu b:=q+1-b.i.toNat
def m12 (q:Nat)(f:Nat):LpS L12 where
 ov b:=[(6,.int .i64 b.i),(4,.full 9700 b.L.length)]
 bk b:=bkN b.L
 rd S:=match aget S.t 6,aget S.h 9700 with
  |some (.int _ i),some (.blk ⟨.vals vs,_,_,_,_,_,_⟩)=>some ⟨i,unN vs⟩
  |_,_=>none
 pre b:=∃m:Nat,b.i=m/\m<=(A0V q).length/\b.L=((List.range f).flatMap fun(f:Nat)=>A5G f (A0V q))++A5G f ((A0V q).take m)
 mu b:=(A0V q).length-b.i.toNat
def bk7 (o:List Int):List (Nat×HO):=[(769,.blk ⟨.ints .i64 o,1,o.length,none,some false,true,false⟩)]
def j12 (f:Int):LpS Unit where
 ov _:=[(7,.full 769 1),(8,.int .i64 0)]
 bk _:=bk7 [f]
 rd S:=some ()
 pre _:=True
 mu _:=0
def oN (q:Nat)(i:Int):List Int:=(A0V q)[i.toNat]?.getD []
structure N12 where (k:Int)(o:List Int)
def n12 (q:Nat)(f i:Int):LpS N12 where
 ov b:=[(8,.int .i64 b.k),(7,.full 769 b.o.length)]
 bk b:=bk7 b.o
 rd S:=match aget S.t 8,aget S.h 769 with
  |some (.int _ k),some (.blk ⟨.ints _ o,_,_,_,_,_,_⟩)=>some ⟨k,o⟩
  |_,_=>none
 pre b:=∃m:Nat,b.k=m/\m<=(oN q i).length/\b.o=f::((oN q i).take m).map (upI f)
 mu b:=(oN q i).length-b.k.toNat
def D1T:CtE
 |[.int .i64 n]=>some ⟨.imm (.vals (oV (A0V n.toNat))) (A0V n.toNat).length none,[],some (0<=n/\n<=6)⟩
 |_=>none
def t3:List (Nat×CtE):=[(10,e25),(12,D1T),(13,C47),(14,C49),(15,D1S),(16,C1X),(17,C8v),(18,e24),(11,e11)]
def T3:Tab:=A2t t3 A3E
def B9X (a k o:List Int):Bool:=A3d a k o==0&&B5m (A0b a) o
def A8A (a k:List Int)(m:Nat):List (List Int):=((A0V a.length).take m).filter fun o=>B9X a k o
def A7R (a k:List Int):List (List Int):=cond (A0l a k) ((A0V a.length).filter fun o=>B9X a k o) []
def hdL (L:List (List Int)):List Int:=L[0]?.getD []
def oA (a:List Int)(i:Int):List Int:=(A0V a.length)[i.toNat]?.getD []
structure L3 where (i n:Int)(w:List Int)
def l3 (a k:List Int):LpS L3 where
 ov b:=[(7,.int .i64 b.i),(4,.int .i64 b.n),(5,.imm (.ints .i64 b.w) b.w.length none)]
 bk b:=[]
 rd S:=match aget S.t 7,aget S.t 4,aget S.t 5 with
  |some (.int _ i),some (.int _ n),some (.imm (.ints _ w) _ _)=>some ⟨i,n,w⟩
  |_,_,_=>none
 pre b:=∃m:Nat,b.i=m/\m<=(A0V a.length).length/\b.n=((A8A a k m).length:Nat)/\b.w=hdL (A8A a k m)/\(A0l a k=false->m=0)
 mu b:=(A0V a.length).length-b.i.toNat
def j3a:LpS Unit where
 ov _:=[(5,.imm (.ints .i64 []) 0 none)]
 bk _:=[]
 rd S:=some ()
 pre _:=True
 mu _:=0
structure J3 where (n:Int)(w:List Int)
def j3b (a k:List Int):LpS J3 where
 ov b:=[(4,.int .i64 b.n),(5,.imm (.ints .i64 b.w) b.w.length none)]
 bk b:=[]
 rd S:=match aget S.t 4,aget S.t 5 with
  |some (.int _ n),some (.imm (.ints _ w) _ _)=>some ⟨n,w⟩
  |_,_=>none
 pre b:=b.n=((A7R a k).length:Nat)/\b.w=hdL (A7R a k)
 mu b:=0
end Go.Proofs.YthiammkiobbclaaGreatDoor.X
