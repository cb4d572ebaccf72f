/-
 Cones: Contains, on the heap.
-/
import Derived.Test.YthiammkiobbclaaGreatD8Z
set_option maxRecDepth 1000000
set_option linter.unusedVariables false
namespace Go.Proofs.YthiammkiobbclaaGreat.X
open Go Go.Ab

def ch90 (q:Nat)(h:List (Nat×HO))(cv:AV)(args:List AV):Option Cx:=
 match cv,args,aget h 194 with
 |.fn f [] [],[.full i n,.int .i64 x],some (.blk ⟨.ints _ l,_,_,_,_,_,_⟩)=>cond (Nat.beq f 74&&Nat.beq i 194) (some ⟨.int .i64 (idxL x l 0),[],some (h=[(194,.blk (bk60 l q))]∧n=l.length∧l.length<1000000)⟩) none
 |_,_,_=>none
def T72 (q:Nat):Tab:=tabL [] (ch90 q)
end Go.Proofs.YthiammkiobbclaaGreat.X
