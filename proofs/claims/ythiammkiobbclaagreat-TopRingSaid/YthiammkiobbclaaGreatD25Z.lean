/-
 Rings: what the law computes.
-/
import Derived.Test.YthiammkiobbclaaGreatD22Z
set_option maxRecDepth 1000000
set_option linter.unusedVariables false
namespace Go.Proofs.YthiammkiobbclaaGreat.X
open Go Go.Ab

def eTrue:CtE
 |[]=>some ⟨.bool true,[],none⟩
 |_=>none
def t3:List (Nat×CtE):=[(4,e25),(5,ec34),(6,eTrue),(7,e16c),(8,rg8),(9,e17c),(10,rg10)]
def T3:Tab:=tabL t3 noCh
def l3 (a:List Int)(u v:List Int):LpS L83 where
 ov b:=[(16,.int .i64 b.i)]
 bk b:=[]
 rd S:=match aget S.t 16 with
  |some (.int _ i)=>some ⟨i⟩
  |_=>none
 pre b:=∃m:Nat,b.i=m∧m≤u.length
 mu b:=u.length-b.i.toNat
end Go.Proofs.YthiammkiobbclaaGreat.X
