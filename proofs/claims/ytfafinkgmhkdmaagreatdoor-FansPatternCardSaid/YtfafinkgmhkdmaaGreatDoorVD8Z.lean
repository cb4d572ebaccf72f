/-
 What the functions on fans compute: fans turned, mirrored, turned over.
-/
import Derived.Test.YtfafinkgmhkdmaaGreatDoorVDZ
import Derived.Test.YtfafinkgmhkdmaaGreatDoorAb9
import Derived.Test.YtfafinkgmhkdmaaGreatDoorAb6
import Derived.Lib.Join

set_option maxRecDepth 1000000
set_option linter.unusedVariables false
namespace Go.Proofs.YtfafinkgmhkdmaaGreatDoor.X
open Go Go.Ab

def immL (k:IntKind)(l:List Int):AV:=.imm (.ints k l) l.length (some l.length)
def rotL' (l:List Int)(n:Nat):List Int:=l.drop n++l.take n
def mirK' (k:List Int):List Int:=rotL' k.reverse (k.length-1)
def ovK' (k:List Int):List Int:=k.map fun x=>if x=1∨x=2 then 3-x else x
/-- A block that is not nil. -/
def blkN (k:IntKind)(a:List Int):Blk:=⟨.ints k a,1,a.length,none,some false,true,false⟩
/-- slices.Grow of a nil slice. -/
def eGrow (k:IntKind)(by_:Int):CtE
 |[.nils,.int .i64 n]=>some ⟨.full 0 0,[blkN k []],some (0<n∧n<1000000000000)⟩
 |_=>none
/-- slices.Concat of two lists. -/
def eCat (k:IntKind):CtE
 |[.imm (.vals [.imm (.ints k1 x) n none,.imm (.ints k2 y) m none]) 2 _]=>cond (beqK k1 k&&beqK k2 k) (some ⟨.full 0 (x++y).length,[blkN k (x++y)],some (n=x.length∧m=y.length∧0<x.length+y.length∧x.length+y.length<100000000000)⟩) none
 |_=>none
/-- Contracts on a heap of one block: Clip; Reverse. -/
def chT (k:IntKind)(id f1 f2:Nat)(h:List (Nat×HO))(cv:AV)(args:List AV):Option Cx:=
 match cv,args,aget h id with
 |.fn f [] [],[.full i n],some (.blk ⟨.ints _ l,_,_,_,_,_,_⟩)=>cond (Nat.beq i id&&Nat.beq f f1) (some ⟨.fullc id n n,[],some (h=[(id,.blk (blkN k l))]∧n=l.length)⟩) none
 |.fn f [] [],[.fullc i n c],some (.blk ⟨.ints _ l,_,_,_,_,_,_⟩)=>cond (Nat.beq i id&&Nat.beq f f2) (some ⟨.tup [],[(id,.blk (blkN k l.reverse))],some (h=[(id,.blk (blkN k l))]∧n=l.length∧c=l.length∧l.length<1000000000000)⟩) none
 |_,_,_=>none
def chT1 (k:IntKind)(id f1:Nat)(h:List (Nat×HO))(cv:AV)(args:List AV):Option Cx:=
 match cv,args,aget h id with
 |.fn f [] [],[.full i n],some (.blk ⟨.ints _ l,_,_,_,_,_,_⟩)=>cond (Nat.beq i id&&Nat.beq f f1) (some ⟨.fullc id n n,[],some (h=[(id,.blk (blkN k l))]∧n=l.length)⟩) none
 |_,_,_=>none
def eBegun (k:IntKind):CtE
 |[.imm (.ints k1 a) n _,.int .i64 i]=>cond (beqK k1 k) (some ⟨.fullc 0 (rotL' a i.toNat).length (rotL' a i.toNat).length,[blkN k (rotL' a i.toNat)],some (n=a.length∧0<a.length∧a.length<100000000000∧0≤i∧i≤a.length)⟩) none
 |_=>none
/-- slices.Clone of a list that is not empty; of an empty one. -/
def eCloneP (k:IntKind):CtE
 |[.imm (.ints k1 a) n _]=>cond (beqK k1 k) (some ⟨.full 0 a.length,[blkN k a],some (n=a.length∧0<a.length∧a.length<100000000000)⟩) none
 |_=>none
def eCloneZ (k:IntKind):CtE
 |[.imm (.ints k1 a) n _]=>cond (beqK k1 k) (some ⟨.imm (.ints k []) 0 none,[],some (n=0∧a=[])⟩) none
 |_=>none
def eRevZ (k:IntKind):CtE
 |[.imm (.ints k1 a) n _]=>cond (beqK k1 k) (some ⟨.tup [],[],some (n=0∧a=[])⟩) none
 |_=>none
def eTurned (k:IntKind):CtE
 |[.imm (.ints k1 a) n _]=>cond (beqK k1 k) (some ⟨.imm (.ints k a.reverse) a.length (some a.length),[],some (n=a.length∧a.length<100000000000)⟩) none
 |_=>none
structure L68 where (i j:Int)(l:List Int)
def l68 (k:IntKind)(a:List Int):LpS L68 where
 ov b:=[(2,.int .i64 b.i),(3,.int .i64 b.j)]
 bk b:=[(8256,.blk (blkN k b.l))]
 rd S:=match aget S.t 2,aget S.t 3,aget S.h 8256 with
  |some (.int _ i),some (.int _ j),some (.blk ⟨.ints _ l,_,_,_,_,_,_⟩)=>some ⟨i,j,l⟩
  |_,_,_=>none
 pre b:=∃n:Nat,b.i=n∧b.j=(a.length:Int)-1-n∧2*n≤a.length+1∧b.l.length=a.length∧∀m,m<a.length→b.l[m]?.getD 0=if m<n∨a.length≤m+n then a[a.length-1-m]?.getD 0 else a[m]?.getD 0
 mu b:=a.length-b.i.toNat
def uA:List (Nat×CtE):=(106,eGrow .i64 8)::(107,eGrow .u8 1)::tlA
def UA:Tab:=tabL uA noCh
def uB:List (Nat×CtE):=(66,eCat .i64)::(67,eCat .u8)::uA
def UB42:Tab:=tabL uB (chT1 .i64 8640 38)
def UB43:Tab:=tabL uB (chT1 .u8 8640 39)
def uP:List (Nat×CtE):=(102,eCloneP .i64)::(104,eCloneP .u8)::uB
def UP44:Tab:=tabL uP (chT .i64 8256 38 103)
def UP45:Tab:=tabL uP (chT .u8 8256 39 105)
def uZ:List (Nat×CtE):=(102,eCloneZ .i64)::(104,eCloneZ .u8)::(103,eRevZ .i64)::(105,eRevZ .u8)::uB
def UZ44:Tab:=tabL uZ noCh
def uC:List (Nat×CtE):=(42,eBegun .i64)::(43,eBegun .u8)::(64,eTurned .i64)::(65,eTurned .u8)::uB
def UC:Tab:=tabL uC noCh
/-- A fan with capacities. -/
def fanC (a k:List Int):AV:=.agg [immL .i64 a,immL .u8 k]
def e20:CtE
 |[.agg [.imm (.ints .i64 a) n _,.imm (.ints .u8 k) m _]]=>some ⟨fanC a.reverse (mirK' k),[],some (n=a.length∧m=k.length∧a.length<100000000000∧k.length<100000000000)⟩
 |_=>none
def e21:CtE
 |[.agg [.imm (.ints .i64 a) n _,.imm (.ints .u8 k) m _]]=>some ⟨fanC a.reverse (ovK' (mirK' k)),[],some (n=a.length∧m=k.length∧a.length<100000000000∧k.length<100000000000)⟩
 |_=>none
structure L21 where (i:Int)(l:List Int)
end Go.Proofs.YtfafinkgmhkdmaaGreatDoor.X

/-
 What the law on mirrored fans computes; the variables of the fans' laws.
-/
set_option maxRecDepth 1000000
set_option linter.unusedVariables false
namespace Go.Proofs.YtfafinkgmhkdmaaGreatDoor.X
open Go Go.Ab

def e12:CtE
 |[]=>some ⟨.bool true,[],none⟩
 |_=>none
/-- Comparison of two fans, the first one's capacities known. -/
def e26:CtE
 |[.agg [.imm (.ints .i64 a) n (some c),.imm (.ints .u8 k) m (some d)],.agg [.imm (.ints .i64 b) n' _,.imm (.ints .u8 j) m' _]]=>some ⟨.bool (eqB a b&&eqB k j),[],some (n=a.length∧m=k.length∧n'=b.length∧m'=j.length∧c=n∧d=m∧a.length=b.length∧k.length=j.length∧a.length<1000000000000∧k.length<1000000000000)⟩
 |_=>none
structure L26 where (i:Int)
def l26 (a b:List Int):LpS L26 where
 ov c:=[(5,.int .i64 c.i)]
 bk c:=[]
 rd S:=match aget S.t 5 with
  |some (.int _ i)=>some ⟨i⟩
  |_=>none
 pre c:=∃n:Nat,c.i=n∧n≤a.length∧eqB (a.drop n) (b.drop n)=eqB a b
 mu c:=a.length-c.i.toNat
def m26 (a b k j:List Int):LpS L26 where
 ov c:=[(6,.int .i64 c.i)]
 bk c:=[]
 rd S:=match aget S.t 6 with
  |some (.int _ i)=>some ⟨i⟩
  |_=>none
 pre c:=∃n:Nat,c.i=n∧n≤k.length∧eqB a b=true∧eqB (k.drop n) (j.drop n)=eqB k j
 mu c:=k.length-c.i.toNat

structure L8 where (i:Int)
def l8 (a:List Int):LpS L8 where
 ov c:=[(7,.int .i64 c.i)]
 bk c:=[]
 rd S:=match aget S.t 7 with
  |some (.int _ i)=>some ⟨i⟩
  |_=>none
 pre c:=∃n:Nat,c.i=n∧n≤a.length
 mu c:=a.length-c.i.toNat
/-- Tables of the fans' laws. -/
def vL:List (Nat×CtE):=(11,e12)::(10,e26)::(41,e20)::(46,e21)::uC
def VL:Tab:=tabL vL noCh
end Go.Proofs.YtfafinkgmhkdmaaGreatDoor.X
/-
 What the law on texts computes: texts split and joined; the texts of fans.
-/
set_option maxRecDepth 1000000
set_option linter.unusedVariables false
namespace Go.Proofs.YtfafinkgmhkdmaaGreatDoor.X
open Go Go.Ab

structure L81 where (i:Int)(s:List UInt8)(l:List (List UInt8))
structure L33 where (i:Int)(l:List (List UInt8))
end Go.Proofs.YtfafinkgmhkdmaaGreatDoor.X
/-
 Plain facts: lists in order; the least of some; turns of a list.
-/
set_option maxRecDepth 1000000
set_option linter.unusedVariables false
namespace Go.Proofs.YtfafinkgmhkdmaaGreatDoor.X
open Go Go.Ab

def cmpL:List Int→List Int→Int
 |[],[]=>0
 |[],_::_=> -1
 |_::_,[]=>1
 |x::a,y::b=>if x<y then -1 else if y<x then 1 else cmpL a b
end Go.Proofs.YtfafinkgmhkdmaaGreatDoor.X
/-
 What the law on turned fans computes: comparisons, the least turn.
-/
set_option maxRecDepth 1000000
set_option linter.unusedVariables false
namespace Go.Proofs.YtfafinkgmhkdmaaGreatDoor.X
open Go Go.Ab

def cmpI (x y:Int):Int:=if x<y then -1 else if y<x then 1 else 0
def orI (x y:Int):Int:=if x=0 then y else x
def eCmpI (k:IntKind):CtE
 |[.int k1 x,.int k2 y]=>cond (beqK k1 k&&beqK k2 k) (some ⟨.int .i64 (cmpI x y),[],none⟩) none
 |_=>none
def eNaN (k:IntKind):CtE
 |[.int k1 x]=>cond (beqK k1 k) (some ⟨.bool false,[],none⟩) none
 |_=>none
def e47:CtE
 |[.imm (.ints .i64 [x,y]) 2 _]=>some ⟨.int .i64 (orI x y),[],none⟩
 |_=>none
def eCmp (k:IntKind):CtE
 |[.imm (.ints k1 a) n _,.imm (.ints k2 b) m _]=>cond (beqK k1 k&&beqK k2 k) (some ⟨.int .i64 (cmpL a b),[],some (n=a.length∧m=b.length∧a.length<1000000000000∧b.length<1000000000000)⟩) none
 |_=>none
structure L48 where (i:Int)
def l48 (a b:List Int):LpS L48 where
 ov c:=[(11,.int .i64 c.i)]
 bk c:=[]
 rd S:=match aget S.t 11 with
  |some (.int _ i)=>some ⟨i⟩
  |_=>none
 pre c:=∃n:Nat,c.i=n∧n≤a.length∧n≤b.length∧cmpL (a.drop n) (b.drop n)=cmpL a b
 mu c:=a.length-c.i.toNat
/-- A list that begins at another place, by value. -/
def eBegI (k:IntKind):CtE
 |[.imm (.ints k1 a) n _,.int .i64 i]=>cond (beqK k1 k) (some ⟨immL k (rotL' a i.toNat),[],some (n=a.length∧a.length<100000000000∧0≤i∧i≤a.length)⟩) none
 |_=>none
def wA:List (Nat×CtE):=(22,eCmpI .i64)::(109,eCmpI .u8)::(51,eNaN .i64)::(128,eNaN .u8)::(21,e47)::uC
def WA:Tab:=tabL wA noCh
def wN:List (Nat×CtE):=[(51,eNaN .i64),(128,eNaN .u8)]
def WN:Tab:=tabL wN noCh
def wB:List (Nat×CtE):=(42,eBegI .i64)::(43,eBegI .u8)::(69,eCmp .i64)::(70,eCmp .u8)::wA
def WB:Tab:=tabL wB noCh
/-- Turn. -/
def tOk (a:List Int)(i:Int):Bool:=decide (0≤i∧(i<a.length∨i=0))
def bLt (b:Bool)(l:List Int):List Int:=cond b l []
def e19f:CtE
 |[.agg [.imm (.ints .i64 a) n _,.imm (.ints .u8 k) m _],.int .i64 i]=>some ⟨.tup [.agg [immL .i64 (bLt (tOk a i) (rotL' a i.toNat)),immL .u8 (bLt (tOk a i) (rotL' k i.toNat))],.int .i64 (bI (tOk a i) 0 1)],[],some (n=a.length∧m=k.length∧a.length<100000000000∧chk a k=0)⟩
 |_=>none
end Go.Proofs.YtfafinkgmhkdmaaGreatDoor.X
/-
 What the least turn of a fan computes: the range over its turns.
-/
set_option maxRecDepth 1000000
set_option linter.unusedVariables false
namespace Go.Proofs.YtfafinkgmhkdmaaGreatDoor.X
open Go Go.Ab

structure L71 where (i:Int)(a k:List Int)
structure L9 where (k:Int)(f:Bool)
end Go.Proofs.YtfafinkgmhkdmaaGreatDoor.X
