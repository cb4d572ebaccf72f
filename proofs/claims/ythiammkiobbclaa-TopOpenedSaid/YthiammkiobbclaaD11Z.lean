/-
 Cones: comparing lists; the first of the orders that are the same; all orders.
-/
import Derived.Test.YthiammkiobbclaaD7Z
import Derived.Test.YthiammkiobbclaaAb8
import Derived.Test.YthiammkiobbclaaAb9

set_option maxRecDepth 1000000
set_option linter.unusedVariables false
namespace Go.Proofs.Ythiammkiobbclaa.X
open Go Go.Ab

/-- What says of the whole world what it does. -/
noncomputable def Gs:GL:={g:=fun _=>none,cm:=cmOf Try.prog,strong:=True}
theorem hcmS:Gs.cm=cmOf Try.prog:=rfl
def cmI (a b:Int):Int:=if a<b then -1 else if b<a then 1 else 0
def cmpL:List Int→List Int→Int
 |[],[]=>0
 |[],_::_=> -1
 |_::_,[]=>1
 |a::r,b::s=>if cmI a b=0 then cmpL r s else cmI a b
def e104:CtE
 |[.int .i64 x]=>some ⟨.bool false,[],none⟩
 |_=>none
def e85c:CtE
 |[.int .i64 x,.int .i64 y]=>some ⟨.int .i64 (cmI x y),[],none⟩
 |_=>none
def tS1:List (Nat×CtE):=[(69,e104)]
def TS1:Tab:=tabL tS1 noCh
def tS2:List (Nat×CtE):=[(49,e85c)]
def TS2:Tab:=tabL tS2 noCh
def l62 (a b:List Int):LpS L83 where
 ov c:=[(11,.int .i64 c.i)]
 bk c:=[]
 rd S:=match aget S.t 11 with
  |some (.int _ i)=>some ⟨i⟩
  |_=>none
 pre c:=∃m:Nat,c.i=m∧m≤a.length∧m≤b.length∧cmpL (a.drop m) (b.drop m)=cmpL a b
 mu c:=a.length-c.i.toNat
/-! ### The first of the orders that are the same -/
def frC (r rk out:List Int)(i k:Int):Bool:=memB out k||(leb (gR rk i) (gR rk k)|| !ovlB r i k)
def frK (r rk out:List Int)(i:Int)(m:Nat):Bool:= !memB out i&&(List.range m).all fun(k:Nat)=>frC r rk out i (k:Int)
def fr1 (r rk:List Int)(n:Nat)(out:List Int):Int:=(((List.range n).find? fun(i:Nat)=>frK r rk out (i:Int) n).getD 0:Nat)
def lstN (r rk:List Int)(n:Nat):Nat→List Int
 |0=>[]
 |m+1=>lstN r rk n m++[fr1 r rk n (lstN r rk n m)]
def leastL (r o:List Int):List Int:=lstN r (rkF o) o.length o.length
structure L60 where (o:List Int)
def bk60 (l:List Int)(n:Nat):Blk:=⟨.ints .i64 l,1,l.length,some n,some false,true,false⟩
structure N60 where (k:Int)(f:Bool)
end Go.Proofs.Ythiammkiobbclaa.X

/-
 Cones: the ways.
-/
set_option maxRecDepth 1000000
set_option linter.unusedVariables false
namespace Go.Proofs.Ythiammkiobbclaa.X
open Go Go.Ab

/-- What lies in the list of ways. -/
def outV (L:List (List Int)):List AV:=L.map (immL .i64)
def unO:List AV→List (List Int)
 |.imm (.ints _ l) _ _::r=>l::unO r
 |_=>[]
def bkO (L:List (List Int)):Blk:=⟨.vals (outV L),1,L.length,none,some true,true,false⟩
def kkM:MV:=⟨true,[some .i64,some .i64,some .i64,some .i64,some .i64,some .i64,some .i64,some .i64]⟩
def vkM:MV:=⟨false,[none]⟩
/-- Orders that grow: what comes of one. -/
def cwB (n:Nat)(r k o:List Int):Bool:=crsB n r (rkL o)||wrgB k (rkL o)
def grwL (n:Nat)(r k:List Int):Nat→List Int→List (List Int)
 |0,o=>cond (cwB n r k o) [] [leastL r o]
 |f+1,o=>cond (cwB n r k o) [] ((List.range (o.length+1)).flatMap fun i=>grwL n r k f (insA o i (o.length:Int)))
def addU (L:List (List Int))(l:List Int):List (List Int):=cond (L.contains l) L (L++[l])
def grwO (n:Nat)(r k:List Int)(L:List (List Int))(o:List Int):List (List Int):=(grwL n r k (n-o.length) o).foldl addU L
def grwM (n:Nat)(r k:List Int)(L:List (List Int))(o:List Int)(m:Nat):List (List Int):=((List.range m).flatMap fun i=>grwL n r k (n-(o.length+1)) (insA o i (o.length:Int))).foldl addU L
def insS (x:List Int):List (List Int)→List (List Int)
 |[]=>[x]
 |y::r=>cond (ltb (cmpL x y) 0) (x::y::r) (y::insS x r)
def srtL:List (List Int)→List (List Int)
 |[]=>[]
 |x::r=>insS x (srtL r)
def waysL (n:Nat)(r k:List Int):List (List Int):=srtL (grwO n r k [] [])
def hpB (L:List (List Int)):HO:=.blk ⟨.cells [.full 9700 L.length],1,1,none,some false,true,true⟩
def okL (a:List Int)(L:List (List Int)):Prop:=L.Nodup∧∀l∈L,l.Perm (((List.range a.length).map fun(i:Nat)=>(i:Int)))
def okG (o:List Int):Prop:=o.Perm ((List.range o.length).map fun(i:Nat)=>(i:Int))
def eCloneN:CtE
 |[.nils]=>some ⟨.nils,[],none⟩
 |_=>none
structure L58 where (i:Int)(L:List (List Int))
end Go.Proofs.Ythiammkiobbclaa.X
/-
 Cones: what the law's functions compute.
-/
set_option maxRecDepth 1000000
set_option linter.unusedVariables false
namespace Go.Proofs.Ythiammkiobbclaa.X
open Go Go.Ab

/-! ### What the law's functions compute -/
/-- Does a sector not lie beside a ray, on one of its sides? -/
def skG (r:List Int)(g:Bool)(y k:Int):Bool:=
 bif g then(ltb y (mnI (gR r k) (gR r (k+1)))||leb (mxI (gR r k) (gR r (k+1))) y)else(leb y (mnI (gR r k) (gR r (k+1)))||ltb (mxI (gR r k) (gR r (k+1))) y)
/-- The crease of a sector at a ray. -/
def crI (n:Int)(r:List Int)(y k:Int):Int:=if gR r (k+1)=y then(k+1).tmod n else(if gR r k=y then k else -1)
/-! ### Contracts -/
structure L28 where (i:Int)(r:List Int)
structure L35 where (i:Int)(c:List Int)(n l:Nat)
structure L14 where (i:Int)(p:List Int)
structure LX where (i:Int)(l:List Int)
structure LY where (i:Int)(l p:List Int)
end Go.Proofs.Ythiammkiobbclaa.X
