/-
 Cones: what the laws compute (valid orders).
-/
import Derived.Test.YthiammkiobbclaaGreatDoorD11Z

set_option maxRecDepth 1000000
set_option linter.unusedVariables false
namespace Go.Proofs.YthiammkiobbclaaGreatDoor.X
open Go Go.Ab

end Go.Proofs.YthiammkiobbclaaGreatDoor.X

/-
 Cones: what the law of deciding computes.
-/
set_option maxRecDepth 1000000
set_option linter.unusedVariables false
namespace Go.Proofs.YthiammkiobbclaaGreatDoor.X
open Go Go.Ab

def t7:List (Nat×CtE):=[(10,e25),(25,e25c),(13,ec13),(14,e14c),(29,ec29),(18,e24),(27,ec27),(11,e11)]
def T7:Tab:=tabL t7 noCh
def dsm (h:List Int):Int:=(h.map fun x=>3-2*x).sum
structure L7 where (i d:Int)
def l7 (h:List Int):LpS L7 where
 ov b:=[(13,.int .i64 b.i),(12,.int .i64 b.d)]
 bk b:=[]
 rd S:=match aget S.t 13,aget S.t 12 with
  |some (.int _ i),some (.int _ d)=>some ⟨i,d⟩
  |_,_=>none
 pre b:=∃m:Nat,b.i=m∧m≤h.length∧b.d=dsm (h.take m)
 mu b:=h.length-b.i.toNat
end Go.Proofs.YthiammkiobbclaaGreatDoor.X
