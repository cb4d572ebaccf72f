/-
 What the functions of the reductions compute.
-/
import Derived.Test.YthiammkiobbclaaDZ

set_option maxRecDepth 1000000
set_option linter.unusedVariables false
namespace Go.Proofs.Ythiammkiobbclaa.X
open Go Go.Ab

structure L38 where (i:Int)(l:List Int)
def immL (k:IntKind)(l:List Int):AV:=.imm (.ints k l) l.length (some l.length)
def immN (k:IntKind)(l:List Int):AV:=.imm (.ints k l) l.length none
structure L40 where (i:Int)(a k:List Int)
end Go.Proofs.Ythiammkiobbclaa.X

/-
 Plain facts: it does not matter which angles are folded away.
-/
set_option maxRecDepth 1000000
set_option linter.unusedVariables false
namespace Go.Proofs.Ythiammkiobbclaa.X
open Go Go.Ab

end Go.Proofs.Ythiammkiobbclaa.X
/-
 Plain facts: fans turned, mirrored, turned over fold if they did.
-/
set_option maxRecDepth 1000000
set_option linter.unusedVariables false
namespace Go.Proofs.Ythiammkiobbclaa.X
open Go Go.Ab

end Go.Proofs.Ythiammkiobbclaa.X
/-
 What the functions on fans compute: fans turned, mirrored, turned over.
-/
set_option maxRecDepth 1000000
set_option linter.unusedVariables false
namespace Go.Proofs.Ythiammkiobbclaa.X
open Go Go.Ab

/-- A block that is not nil. -/
def blkN (k:IntKind)(a:List Int):Blk:=⟨.ints k a,1,a.length,none,some false,true,false⟩
/-- slices.Clone of a list that is not empty; of an empty one. -/
def eCloneP (k:IntKind):CtE
 |[.imm (.ints k1 a) n _]=>cond (beqK k1 k) (some ⟨.full 0 a.length,[blkN k a],some (n=a.length∧0<a.length∧a.length<100000000000)⟩) none
 |_=>none
structure L68 where (i j:Int)(l:List Int)
structure L21 where (i:Int)(l:List Int)
end Go.Proofs.Ythiammkiobbclaa.X
/-
 What the functions of the reductions compute: a fan reduced; folded; a fan behind an angle, by definition.
-/
set_option maxRecDepth 1000000
set_option linter.unusedVariables false
namespace Go.Proofs.Ythiammkiobbclaa.X
open Go Go.Ab

structure L13 where (i:Int)(k:List Int)
structure L18 where (o a k:List Int)
structure L22 where (f kk:Int)(a k:List Int)
structure M22 where (kk:Int)(a k:List Int)
end Go.Proofs.Ythiammkiobbclaa.X
/-
 Cones: what the functions on a folded fan compute.
-/
set_option maxRecDepth 1000000
set_option linter.unusedVariables false
namespace Go.Proofs.Ythiammkiobbclaa.X
open Go Go.Ab

/-- A folded fan, by value. -/
def conV (a k r:List Int):AV:=.agg [.imm (.ints .i64 a) a.length none,.imm (.ints .u8 k) k.length none,.imm (.ints .i64 r) r.length none]
def gR (r:List Int)(i:Int):Int:=r[i.toNat]?.getD 0
def mnI (x y:Int):Int:=if y<x then y else x
def mxI (x y:Int):Int:=if y>x then y else x
/-- The sector before a crease. -/
def bfI (n c:Int):Int:=(c+n-1).tmod n
def insB (r:List Int)(ray s:Int):Bool:=ltb (mnI (gR r s) (gR r (s+1))) ray&&ltb ray (mxI (gR r s) (gR r (s+1)))
def ovlB (r:List Int)(a b:Int):Bool:=ltb (mxI (mnI (gR r a) (gR r (a+1))) (mnI (gR r b) (gR r (b+1)))) (mnI (mxI (gR r a) (gR r (a+1))) (mxI (gR r b) (gR r (b+1))))
def sidB (r:List Int)(c:Int):Bool:=ltb (gR r c) (gR r (c+1))
def btwB (n:Int)(rk:List Int)(c s:Int):Bool:=leb 0 (mnI (gR rk (bfI n c)) (gR rk c))&&(ltb (mnI (gR rk (bfI n c)) (gR rk c)) (gR rk s)&&ltb (gR rk s) (mxI (gR rk (bfI n c)) (gR rk c)))
def crs1 (n:Int)(r rk:List Int)(i k:Int):Bool:=
 (insB r (gR r i) k&&btwB n rk i k)||((k !=i)&&((gR r k==gR r i)&&((sidB r k==sidB r i)&&(leb 0 (mnI (gR rk (bfI n k)) (gR rk k))&&(btwB n rk i (bfI n k) !=btwB n rk i k)))))
def anyN (n:Nat)(f:Int→Bool):Bool:=(List.range n).any fun i=>f i
def crsB (n:Nat)(r rk:List Int):Bool:=anyN n fun i=>anyN n fun k=>crs1 n r rk i k
def kdI (n:Int)(rk:List Int)(c:Int):Int:=
 if(bfI n c).tmod 2=0 then(if gR rk (bfI n c)<gR rk c then 2 else 1)else(if gR rk c<gR rk (bfI n c)then 2 else 1)
def wrg1 (k rk:List Int)(i:Int):Bool:=(gR k i !=3)&&(leb 0 (mnI (gR rk (bfI k.length i)) (gR rk i))&&(gR k i !=kdI k.length rk i))
def wrgB (k rk:List Int):Bool:=anyN k.length fun i=>wrg1 k rk i
/-- The ranks of an order. -/
def rkA (rk:List Int)(i:Int):List Int→List Int
 |[]=>rk
 |x::r=>rkA (rk.set x.toNat i) (i+1) r
def rkF (o:List Int):List Int:=rkA (List.replicate 8 (-1)) 0 o
def rkO (o:List Int)(i:Int):Int:=gR (rkF o) i
def rkL (o:List Int):List Int:=[rkO o 0,rkO o 1,rkO o 2,rkO o 3,rkO o 4,rkO o 5,rkO o 6,rkO o 7]
/-- Orders: numbers below 8. -/
def okO (o:List Int):Prop:=o.length≤8∧∀x∈o,0≤x∧x<8
def cok (a k r:List Int)(n m p:Nat):Prop:=n=a.length∧m=k.length∧p=r.length
structure L51 where (i:Int)(rk:List Int)
end Go.Proofs.Ythiammkiobbclaa.X
/-
 Cones: what folding, checking and ordering compute.
-/
set_option maxRecDepth 1000000
set_option linter.unusedVariables false
namespace Go.Proofs.Ythiammkiobbclaa.X
open Go Go.Ab

structure L79 where (i e o:Int)
/-- The rays. -/
def rayL (x:Int):Bool→List Int→List Int
 |_,[]=>[x]
 |p,a::r=>x::rayL (bif p then x+a else x-a) (!p) r
def raysL (a:List Int):List Int:=rayL 0 true a
structure L37 where (i:Int)(r:List Int)
structure L29 where (i:Int)(k:List Int)
end Go.Proofs.Ythiammkiobbclaa.X
