/-
 Cones: what the law's functions compute.
-/
import Derived.Test.YthiammkiobbclaaGreatD7Z
set_option maxRecDepth 1000000
set_option linter.unusedVariables false
namespace Go.Proofs.YthiammkiobbclaaGreat.X
open Go Go.Ab

/-! ### What the law's functions compute -/
/-- Does a sector not lie beside a ray, on one of its sides? -/
def skG (r:List Int)(g:Bool)(y k:Int):Bool:=
 bif g then(ltb y (mnI (gR r k) (gR r (k+1)))||leb (mxI (gR r k) (gR r (k+1))) y)else(leb y (mnI (gR r k) (gR r (k+1)))||ltb (mxI (gR r k) (gR r (k+1))) y)
/-- The crease of a sector at a ray. -/
def crI (n:Int)(r:List Int)(y k:Int):Int:=if gR r (k+1)=y then(k+1).tmod n else(if gR r k=y then k else -1)
def lastB (S:List Int)(c:Int):Bool:=ltb 0 (S.length:Int)&&gR S ((S.length:Int)-1)==c
/-- A scan for brackets. -/
def fitG (sk:Int→Bool)(cr:Int→Int):List Int→List Int→Bool
 |_,[]=>true
 |S,k::o=>bif sk k then fitG sk cr S o else bif ltb (cr k) 0 then(bif ltb 0 (S.length:Int)then false else fitG sk cr S o)
   else bif lastB S (cr k)then fitG sk cr S.dropLast o else bif memB S (cr k)then false else fitG sk cr (S++[cr k]) o
def fitL (n:Nat)(r o:List Int)(y:Int)(g:Bool):Bool:=fitG (skG r g y) (crI n r y) [] o
def badF (n:Nat)(r o:List Int)(i:Int):Bool:= !fitL n r o (gR r i) true|| !fitL n r o (gR r i) false
def odI (n i:Int):Int:=if i.tmod 2=0 then bfI n i else i
def evI (n i:Int):Int:=if i.tmod 2=0 then i else bfI n i
def wrC1 (n:Nat)(k p:List Int)(i:Int):Bool:=(gR k i==2&&ltb (gR p (odI n i)) (gR p (evI n i)))||(gR k i==1&&ltb (gR p (evI n i)) (gR p (odI n i)))
def posL (o:List Int):List Int:=rkA (List.replicate o.length 0) 0 o
def chkE (a k o:List Int):Int:=if anyN a.length (badF a.length (raysL a) o)=true then 12 else if anyN a.length (wrC1 a.length k (posL o))=true then 13 else 0
/-! ### Contracts -/
structure L28 where (i:Int)(r:List Int)
structure L35 where (i:Int)(c:List Int)(n l:Nat)
structure L14 where (i:Int)(p:List Int)
structure LX where (i:Int)(l:List Int)
structure LY where (i:Int)(l p:List Int)
/-- The examples hold. -/
def e11:CtE
 |[]=>some ⟨.bool true,[],none⟩
 |_=>none
end Go.Proofs.YthiammkiobbclaaGreat.X
