/-
 Sorting cells: where nothing is listed and draws are counted.
-/
import Derived.Test.YtmnaghfndigfkaaDoorDDZ
import Derived.Test.YtmnaghfndigfkaaDoorAb7

set_option maxRecDepth 1000000
set_option linter.unusedVariables false
namespace Go.Proofs.YtmnaghfndigfkaaDoor.X
open Go Go.Ab

/-- What is known of memory where nothing is listed, draws counted. -/
noncomputable def Gs:GL:={g:=fun _=>none,cm:=cmOf Tryd.prog,strong:=True}
end Go.Proofs.YtmnaghfndigfkaaDoor.X

/-
 What neighbours, squares, outlines compute.
-/
set_option maxRecDepth 1000000
set_option linter.unusedVariables false
namespace Go.Proofs.YtmnaghfndigfkaaDoor.X
open Go Go.Ab

/-! ### The map of a set -/
abbrev ME:Type:=List (List Int×List Int×Nat)
def kyC (c:Cl):List Int:=[c.1,c.2.1,c.2.2]
def kM:MV:=⟨true,[some .i64,some .i64,some .u8]⟩
def vM:MV:=⟨false,[none]⟩
def memS:List Cl→ME×Nat→ME×Nat
 |[],s=>s
 |c::r,s=>memS r (mput s.1 (kyC c) [1] s.2,mck s.1 (kyC c) s.2)
structure L96 where (i:Int)(es:ME)(k:Nat)
def repM (es:ME)(L:List Cl):Prop:=(es.map fun e=>(e.1,e.2.1))=(L.map fun c=>(kyC c,[1]))∧L.Nodup
/-! ### Squares -/
structure L44 where (i:Int)(o:List AV)(n:Nat)
/-! ### The outline -/
structure M43 where (i:Int)(o:List AV)(n:Nat)
end Go.Proofs.YtmnaghfndigfkaaDoor.X
/-
 The move that moves nothing: what the functions on moves compute of it.
-/
set_option maxRecDepth 1000000
set_option linter.unusedVariables false
namespace Go.Proofs.YtmnaghfndigfkaaDoor.X
open Go Go.Ab

def ptB (x y:Int):Bool:=decide (-65536≤x∧x≤65536∧ -65536≤y∧y≤65536)
def e151:CtE
 |[.agg [.int .i64 x,.int .i64 y]]=>some ⟨.int .i64 (bI (ptB x y) 0 1),[],none⟩
 |_=>none
def smP (x y:Int):Prop:= -65536≤x∧x≤65536∧ -65536≤y∧y≤65536
def e165:CtE
 |[.agg [.int .i64 x,.int .i64 y,.int .u8 q]]=>some ⟨.agg [.int .i64 (2*x+1),.int .i64 (2*y+1)],[],some (smP x y)⟩
 |_=>none
/-! ### The quarters, one after the other -/
/-- The quarter that has been found. -/
def kAft (q:Int)(n:Nat):Int:=if q<n then q else 0
structure L132 where (i k:Int)
def l132 (q X Y:Int):LpS L132 where
 ov b:=[(47,.int .i64 b.i)]
 bk b:=[(399,.blk ⟨.cells [.int .i64 X,.int .i64 Y,.int .u8 b.k],3,1,none,some false,true,true⟩)]
 rd S:=match aget S.t 47,aget S.h 399 with
  |some (.int _ i),some (.blk ⟨.cells [_,_,.int _ k],_,_,_,_,_,_⟩)=>some ⟨i,k⟩
  |_,_=>none
 pre b:=∃n:Nat,b.i=n∧n≤4∧b.k=kAft q n
 mu b:=4-b.i.toNat
/-! ### Sorting -/
/-! ### Move -/
structure L38 where (i:Int)(o:List AV)
end Go.Proofs.YtmnaghfndigfkaaDoor.X
/-
 What the reference's functions on cells compute: corners, lines, mirror images, the cell with three corners, neighbours.
-/
set_option maxRecDepth 1000000
set_option linter.unusedVariables false
namespace Go.Proofs.YtmnaghfndigfkaaDoor.X
open Go Go.Ab

structure L137 where (k a b:Int)
structure L136 where (i:Int)
end Go.Proofs.YtmnaghfndigfkaaDoor.X
/-
 What Connected computes.
-/
set_option maxRecDepth 1000000
set_option linter.unusedVariables false
namespace Go.Proofs.YtmnaghfndigfkaaDoor.X
open Go Go.Ab

structure L42 where (es:ME)(k:Nat)(o:List AV)(n w:Nat)
structure M42 where (e:Int)(es:ME)(k:Nat)(o:List AV)(n w:Nat)
end Go.Proofs.YtmnaghfndigfkaaDoor.X
