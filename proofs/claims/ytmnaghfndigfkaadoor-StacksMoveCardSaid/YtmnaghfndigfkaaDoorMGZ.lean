/-
 The law on stacks that are moved: its contracts and loops.
-/
import Derived.Test.YtmnaghfndigfkaaDoorMFZ
import Derived.Test.YtmnaghfndigfkaaDoorHBZ
set_option maxRecDepth 1000000
set_option linter.unusedVariables false
namespace Go.Proofs.YtmnaghfndigfkaaDoor.X
open Go Go.Ab

def TMa:Tab:=tabL [(15,e15),(54,e54b),(55,e55),(21,e21)] noCh
def TMb:Tab:=tabL [(15,e15),(54,e54o),(55,e55),(56,e56),(57,e57),(21,e21)] noCh
def TMc:Tab:=tabL [(15,e15),(54,e54k),(55,e55),(56,e56),(57,e57),(19,e19),(58,e58),(21,e21)] noCh
structure L13M where (i:Int)(o:List AV)(n:Nat)
def l13M (t a b_:Int)(l:List Sk):LpS L13M where
 ov b:=[(9,.int .i64 b.i),(8,.full 9001 b.n)]
 bk b:=[(9001,.blk ⟨.vals b.o,4,b.n,none,some true,true,false⟩)]
 rd S:=match aget S.t 9,aget S.h 9001 with
  |some (.int _ i),some (.blk ⟨.vals o,_,n,_,_,_,_⟩)=>some ⟨i,o,n⟩
  |_,_=>none
 pre b:=∃n:Nat,b.i=n∧n≤l.length∧allM t a b_ (l.take n)=true∧b.o=flatT (mvS t a b_ (l.take n))∧b.n=n
 mu b:=l.length-b.i.toNat
def m13M (k:Nat)(l:List Sk):LpS L1 where
 ov b:=[(k,.int .i64 b.i)]
 bk b:=[]
 rd S:=match aget S.t k with
  |some (.int _ i)=>some ⟨i⟩
  |_=>none
 pre b:=∃n:Nat,b.i=n∧n≤l.length
 mu b:=l.length-b.i.toNat
def clT (l:List Sk)(i:Int):List AV:=[.int .i64 (tX l i),.int .i64 (tY l i),.int .u8 (tQ l i)]
end Go.Proofs.YtmnaghfndigfkaaDoor.X
