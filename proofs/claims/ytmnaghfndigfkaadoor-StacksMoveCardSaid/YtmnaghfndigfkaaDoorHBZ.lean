/-
 The law on At: its tables and loops.
-/
import Derived.Test.YtmnaghfndigfkaaDoorHAZ
import Derived.Test.YtmnaghfndigfkaaDoorLSZ
set_option maxRecDepth 1000000
set_option linter.unusedVariables false
namespace Go.Proofs.YtmnaghfndigfkaaDoor.X
open Go Go.Ab

def bxC (x y q:Int):HO:=.blk ⟨.cells [.int .i64 x,.int .i64 y,.int .u8 q],3,1,none,some false,true,true⟩
def hasT:List Sk→Cl→Bool
 |[],_=>false
 |s::r,c=>cond (eqCl s.1 c) true (hasT r c)
structure L3 where (i h n:Int)(a:List Int)(f s:Bool)(x y q:Int)
def l3 (l:List Sk)(c:Cl)(id:Int):LpS L3 where
 ov b:=[(14,.int .i64 b.i),(8,.int .i64 b.h),(9,.imm (.ints .i64 b.a) b.a.length none),(11,.int .i64 b.n),(12,.bool b.f),(13,.bool b.s)]
 bk b:=[(320,bxC b.x b.y b.q)]
 rd S:=match aget S.t 14,aget S.t 8,aget S.t 11,aget S.t 12,aget S.t 13,aget S.h 320 with
  |some (.int _ i),some (.int _ h),some (.int _ n),some (.bool f),some (.bool s),some (.blk ⟨.cells [.int _ x,.int _ y,.int _ q],_,_,_,_,_,_⟩)=>match aget S.t 9 with
   |some (.imm (.ints _ a) _ _)=>some ⟨i,h,n,a,f,s,x,y,q⟩
   |some .nils=>some ⟨i,h,n,[],f,s,x,y,q⟩
   |_=>none
  |_,_,_,_,_,_=>none
 pre b:=∃n:Nat,b.i=n∧n≤l.length∧b.h=(hgt (l.take n):Nat)∧b.a=atL (l.take n) c∧b.s=hasT (l.take n) c∧((b.x,b.y,b.q),b.n)=((fdS (l.take n) id).1,(fdS (l.take n) id).2.1)∧b.f=((fdS (l.take n) id).2.2==0)
 mu b:=l.length-b.i.toNat
structure M3 where (k n:Int)(f:Bool)(x y q:Int)
def sofar (l:List Sk)(i:Int)(k:Nat):List Sk:=l.take i.toNat++[((gT l i).1,(gT l i).2.take k)]
def m3 (l:List Sk)(id i:Int):LpS M3 where
 ov b:=[(15,.int .i64 b.k),(11,.int .i64 b.n),(12,.bool b.f)]
 bk b:=[(320,bxC b.x b.y b.q)]
 rd S:=match aget S.t 15,aget S.t 11,aget S.t 12,aget S.h 320 with
  |some (.int _ k),some (.int _ n),some (.bool f),some (.blk ⟨.cells [.int _ x,.int _ y,.int _ q],_,_,_,_,_,_⟩)=>some ⟨k,n,f,x,y,q⟩
  |_,_,_,_=>none
 pre b:=∃k:Nat,b.k=k∧k≤(tKh l i).length∧((b.x,b.y,b.q),b.n)=((fdS (sofar l i k) id).1,(fdS (sofar l i k) id).2.1)∧b.f=((fdS (sofar l i k) id).2.2==0)
 mu b:=(tKh l i).length-b.k.toNat
structure L26 where (i:Int)(o:List Int)
end Go.Proofs.YtmnaghfndigfkaaDoor.X
