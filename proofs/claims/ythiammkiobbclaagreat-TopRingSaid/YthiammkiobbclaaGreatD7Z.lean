/-
 Cones: what folding, checking and ordering compute.
-/
import Derived.Test.YthiammkiobbclaaGreatD6Z
set_option maxRecDepth 1000000
set_option linter.unusedVariables false
namespace Go.Proofs.YthiammkiobbclaaGreat.X
open Go Go.Ab

/-- Does a fan alternate? -/
def altB (a:List Int):Bool:= !((a.length:Int).tmod 2==1)&& !(sumP true a !=sumP false a)
def altS (a k:List Int):Bool:=chk a k==0&&altB a
def ec79:CtE
 |[.agg [.imm (.ints .i64 a) n _,.imm (.ints .u8 k) m _]]=>some ⟨.tup [.int .i64 (sumP true a),.int .i64 (sumP false a)],[],some (n=a.length∧m=k.length∧chk a k=0)⟩
 |_=>none
structure L79 where (i e o:Int)
def lc79 (a:List Int):LpS L79 where
 ov b:=[(9,.int .i64 b.i),(2,.int .i64 b.e),(3,.int .i64 b.o)]
 bk b:=[]
 rd S:=match aget S.t 9,aget S.t 2,aget S.t 3 with
  |some (.int _ i),some (.int _ e),some (.int _ o)=>some ⟨i,e,o⟩
  |_,_,_=>none
 pre b:=∃m:Nat,b.i=m∧m≤a.length∧b.e=sumP true (a.take m)∧b.o=sumP false (a.take m)
 mu b:=a.length-b.i.toNat
def ec56:CtE
 |[.agg [.imm (.ints .i64 a) n _,.imm (.ints .u8 k) m _]]=>some ⟨.bool ((n:Int).tmod 2==1),[],some (n=a.length∧m=k.length)⟩
 |_=>none
def ec57:CtE
 |[.agg [.imm (.ints .i64 a) n _,.imm (.ints .u8 k) m _]]=>some ⟨.bool (sumP true a !=sumP false a),[],some (n=a.length∧m=k.length∧chk a k=0)⟩
 |_=>none
def ec34:CtE
 |[.agg [.imm (.ints .i64 a) n _,.imm (.ints .u8 k) m _]]=>some ⟨.tup [.bool (altS a k),.int .i64 (chk a k)],[],some (n=a.length∧m=k.length∧a.length<1000000)⟩
 |_=>none
def tB1:List (Nat×CtE):=[(20,ec79)]
def TB1c:Tab:=tabL tB1 noCh
def tB2:List (Nat×CtE):=[(11,e17),(12,ec56),(13,ec57)]
def TB2:Tab:=tabL tB2 noCh
def tB3:List (Nat×CtE):=[(5,ec34)]
def TB3:Tab:=tabL tB3 noCh
/-- The rays. -/
def rayL (x:Int):Bool→List Int→List Int
 |_,[]=>[x]
 |p,a::r=>x::rayL (bif p then x+a else x-a) (!p) r
def raysL (a:List Int):List Int:=rayL 0 true a
def ofE (a k:List Int):Int:=if chk a k=0 then(if altB a=true then 0 else 14)else chk a k
def conX (a k:List Int):AV:=.agg [immN .i64 (bLs (altS a k) a),immN .u8 (bLs (altS a k) k),immN .i64 (bLs (altS a k) (raysL a))]
def ec37:CtE
 |[.agg [.imm (.ints .i64 a) n _,.imm (.ints .u8 k) m _]]=>some ⟨.tup [conX a k,.int .i64 (ofE a k)],[],some (n=a.length∧m=k.length∧a.length<1000000)⟩
 |_=>none
structure L37 where (i:Int)(r:List Int)
def lc37 (a:List Int)(fv:List AV):LpS L37 where
 ov b:=[(29,.int .i64 b.i)]
 bk b:=[(451,.blk ⟨.cells (fv++[.full 449 b.r.length]),3,1,none,some false,true,true⟩),(449,.blk ⟨.ints .i64 b.r,1,b.r.length,none,some false,true,false⟩)]
 rd S:=match aget S.t 29,aget S.h 449 with
  |some (.int _ i),some (.blk ⟨.ints _ r,_,_,_,_,_,_⟩)=>some ⟨i,r⟩
  |_,_=>none
 pre b:=∃m:Nat,b.i=m∧m≤a.length∧b.r=(raysL a).take (m+1)
 mu b:=a.length-b.i.toNat
structure L29 where (i:Int)(k:List Int)
end Go.Proofs.YthiammkiobbclaaGreat.X
