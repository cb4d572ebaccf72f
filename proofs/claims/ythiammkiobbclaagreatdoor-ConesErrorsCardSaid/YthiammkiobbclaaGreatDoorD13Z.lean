/-
 Cones: what the laws compute (errors).
-/
import Derived.Test.YthiammkiobbclaaGreatDoorD12Z
import Derived.Test.YthiammkiobbclaaGreatDoorD10Z
set_option maxRecDepth 1000000
set_option linter.unusedVariables false
namespace Go.Proofs.YthiammkiobbclaaGreatDoor.X
open Go Go.Ab

/-! ### Errors -/
def cntO (o:List Int)(i:Int):Int:=((o.filter fun x=>x==i).length:Nat)
def onceN (o:List Int)(m:Nat):Bool:=(List.range m).all fun(i:Nat)=>cntO o (i:Int)==1
def ls8 (a k o:List Int)(m:Nat):Int:=if ofE a k=0 then(if onceN o m=true then 0 else 1)else ofE a k
def t8:List (Nat×CtE):=[(30,e17),(13,ec13),(26,ec26),(29,ec29),(31,e31c),(19,e19c),(27,ec27),(14,e14c),(16,e16c),(17,e17c),(11,e11)]
def T8:Tab:=tabL t8 noCh
structure L8 where (i w:Int)
def l8 (a k o:List Int):LpS L8 where
 ov b:=[(8,.int .i64 b.i),(7,.int .i64 b.w)]
 bk b:=[]
 rd S:=match aget S.t 8,aget S.t 7 with
  |some (.int _ i),some (.int _ w)=>some ⟨i,w⟩
  |_,_=>none
 pre b:=∃m:Nat,b.i=m∧m≤a.length∧b.w=ls8 a k o m∧(ofE a k≠0→m=0)
 mu b:=a.length-b.i.toNat
structure M8 where (k n:Int)
def m8 (o:List Int)(i:Int):LpS M8 where
 ov b:=[(10,.int .i64 b.k),(9,.int .i64 b.n)]
 bk b:=[]
 rd S:=match aget S.t 10,aget S.t 9 with
  |some (.int _ k),some (.int _ n)=>some ⟨k,n⟩
  |_,_=>none
 pre b:=∃m:Nat,b.k=m∧m≤o.length∧b.n=cntO (o.take m) i
 mu b:=o.length-b.k.toNat
end Go.Proofs.YthiammkiobbclaaGreatDoor.X
