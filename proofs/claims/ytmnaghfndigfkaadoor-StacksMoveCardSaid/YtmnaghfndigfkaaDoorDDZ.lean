/-
 What the functions on cells and lists of cells compute.
-/
import Derived.Test.YtmnaghfndigfkaaDoorDZ
import Derived.Test.YtmnaghfndigfkaaDoorAb7
import Derived.Test.YtmnaghfndigfkaaDoorAb6
import Derived.Test.YtmnaghfndigfkaaDoorAb8
import Derived.KernelRfl
import Derived.Shelf.Strings.Repeat

set_option maxRecDepth 1000000
set_option linter.unusedVariables false
namespace Go.Proofs.YtmnaghfndigfkaaDoor.X
open Go Go.Ab

def bI (b:Bool)(x y:Int):Int:=cond b x y
def RCl:RowS Cl where
 k:=3
 row x:=[(.i64,x.1),(.i64,x.2.1),(.u8,x.2.2)]
 len _:=rfl
def flatK (l:List Cl):List AV:=l.flatMap RCl.av
def gK (l:List Cl)(i:Int):Cl:=l[i.toNat]?.getD (0,0,0)
def kX (l:List Cl)(i:Int):Int:=(gK l i).1
def kY (l:List Cl)(i:Int):Int:=(gK l i).2.1
def kQ (l:List Cl)(i:Int):Int:=(gK l i).2.2
def ltC (a b:Cl):Bool:=decide (a.2.1<b.2.1∨(a.2.1=b.2.1∧(a.1<b.1∨(a.1=b.1∧a.2.2<b.2.2))))
def eqCl (a b:Cl):Bool:=a.1==b.1&&(a.2.1==b.2.1&&a.2.2==b.2.2)
def vldC (c:Cl):Bool:=decide (-4096≤c.1∧c.1≤4096∧ -4096≤c.2.1∧c.2.1≤4096∧c.2.2≤3)
def cmpI (a b:Int):Int:=if a<b then -1 else if b<a then 1 else 0
def ord3 (a b c d e f:Int):Int:=if cmpI a b≠0 then cmpI a b else if cmpI c d≠0 then cmpI c d else cmpI e f
def cmpC (a b:Cl):Int:=ord3 a.2.1 b.2.1 a.1 b.1 a.2.2 b.2.2
def i8P (x:Int):Prop:= -128≤x∧x≤127
def e86:CtE
 |[.agg [.int .i64 x,.int .i64 y,.int .u8 q]]=>some ⟨.int .i64 (bI (vldC (x,y,q)) 0 1),[],none⟩
 |_=>none
def e202:CtE
 |[.int .i64 x]=>some ⟨.bool false,[],none⟩
 |_=>none
def e163:CtE
 |[.int .i64 x,.int .i64 y]=>some ⟨.int .i64 (cmpI x y),[],none⟩
 |_=>none
def e127:CtE
 |[.imm (.vals [.int .i64 a,.int .i64 b,.int .i64 c,.int .i64 d,.int .i64 e,.int .i64 f]) n _]=>some ⟨.int .i64 (ord3 a b c d e f),[],some (n=3)⟩
 |_=>none
def e79:CtE
 |[.agg [.int .i64 x,.int .i64 y,.int .u8 q],.agg [.int .i64 x',.int .i64 y',.int .u8 q']]=>some ⟨.int .i64 (cmpC (x,y,q) (x',y',q')),[],some (0≤q∧q≤255∧0≤q'∧q'≤255)⟩
 |_=>none
def tB1:List (Nat×CtE):=[(202,e202)]
def TB1:Tab:=tabL tB1 noCh
def tB2:List (Nat×CtE):=(163,e163)::tB1
def TB2:Tab:=tabL tB2 noCh
def tB3:List (Nat×CtE):=(127,e127)::tB2
def TB3:Tab:=tabL tB3 noCh
/-! ### Lists -/
structure L1 where (i:Int)
/-! ### Add, Of -/
structure L92 where (i d:Int)(o:List AV)(n:Nat)
structure L62 where (i:Int)(o:List AV)(n:Nat)
/-! ### The set of plain data -/
def cel (x:Cl):Cl:=(x.1,x.2.1,x.2.2.tmod 4)
structure L31 where (i:Int)(o:List AV)(n:Nat)
def p3 (a b c:Int)(i:Int):Int:=if i=0 then a else if i=1 then b else c
def l127 (a b c d e f:Int):LpS L1 where
 ov q:=[(8,.int .i64 q.i)]
 bk q:=[]
 rd S:=match aget S.t 8 with
  |some (.int _ i)=>some ⟨i⟩
  |_=>none
 pre q:=(0≤q.i∧q.i≤3)∧(1≤q.i→cmpI a b=0)∧(2≤q.i→cmpI c d=0)∧(3≤q.i→cmpI e f=0)
 mu q:=3-q.i.toNat
end Go.Proofs.YtmnaghfndigfkaaDoor.X

/-
 What the check of sets computes.
-/
set_option maxRecDepth 1000000
set_option linter.unusedVariables false
namespace Go.Proofs.YtmnaghfndigfkaaDoor.X
open Go Go.Ab

def badL:List Cl→Bool
 |[]=>false
 |c::r=>cond (vldC c) (badL r) true
def srtB:List Cl→Bool
 |a::b::r=>cond (ltC a b) (srtB (b::r)) false
 |_=>true
def chkI (l:List Cl):Int:=cond (decide (1024<l.length)) 3 (bI (badL l) 1 (bI (srtB l) 0 6))
end Go.Proofs.YtmnaghfndigfkaaDoor.X
/-
 What union, common cells and difference compute.
-/
set_option maxRecDepth 1000000
set_option linter.unusedVariables false
namespace Go.Proofs.YtmnaghfndigfkaaDoor.X
open Go Go.Ab

/-! ### The heap of the range -/
structure L164 where (a b o:List AV)(n m k:Nat)
end Go.Proofs.YtmnaghfndigfkaaDoor.X
/-
 strings.Repeat by the shelf's contract (laid by the kit's own command).
-/
set_option maxRecDepth 1000000
set_option linter.unusedVariables false
namespace Go.Proofs.YtmnaghfndigfkaaDoor.X
open Go Go.Ab
open Go.Shelf Go.Proofs
end Go.Proofs.YtmnaghfndigfkaaDoor.X
/-
 A stand-in: no contract is given for the sets' examples here (the true text, with the examples, needs an older framework: commit 7facb66).
-/
set_option maxRecDepth 1000000
set_option linter.unusedVariables false
namespace Go.Proofs.YtmnaghfndigfkaaDoor.X
open Go Go.Ab
end Go.Proofs.YtmnaghfndigfkaaDoor.X
/-
 The law on union and common cells in other orders: its contracts.
-/
set_option maxRecDepth 1000000
set_option linter.unusedVariables false
namespace Go.Proofs.YtmnaghfndigfkaaDoor.X
open Go Go.Ab

end Go.Proofs.YtmnaghfndigfkaaDoor.X
