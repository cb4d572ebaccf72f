/-
 What the functions on cells, sheets and patterns compute.
-/
import Derived.Test.YtfpcbimohikhmaaDoorXpZ
import Derived.Test.YtfpcbimohikhmaaDoorAb5
import Derived.KernelRfl
set_option maxRecDepth 1000000
set_option linter.unusedVariables false
namespace Go.Proofs.YtfpcbimohikhmaaDoor.X
open Go Go.Ab

/-- A quarter: 17 cells. -/
def qrt (a:Int)(b:Int)(k c:Int)(n:List (Int×Int×Int))(o1 o2 t1 t2:Int):List AV:=
 [.int .i64 a,.int .i64 b,.int .u8 k,.int .i64 c]++n.flatMap (fun x=>[.int .i64 x.1,.int .i64 x.2.1,.int .u8 x.2.2])++[.int .i64 o1,.int .i64 o2,.int .i64 t1,.int .i64 t2]
def quarC:Cont:=.vals (qrt 0 (-1) 2 0 [(0,-1,2),(0,0,1),(0,0,3)] 0 0 2 0++qrt 1 0 1 1 [(1,0,3),(0,0,0),(0,0,2)] 2 2 2 0++
 qrt 0 1 2 1 [(0,1,0),(0,0,3),(0,0,1)] 2 2 0 2++qrt (-1) 0 1 0 [(-1,0,1),(0,0,2),(0,0,0)] 0 0 0 2)
/-- Package-level tables. -/
def gl:Nat→Option Cont
 |1=>some quarC
 |_=>none
noncomputable def G:GL:={g:=gl,cm:=cmOf Tryd.prog}
theorem hcm:G.cm=cmOf Tryd.prog:=rfl
theorem hmx:Tryd.prog.follows .mixedOrders=true:=by kernel_rfl
def bI (b:Bool)(x y:Int):Int:=cond b x y
def T0:Tab:=tabL [] noCh
theorem T0ok:TabOk Tryd.prog G T0:=tabL_ok noCh_ok trivial
/-! ### Cells, by their corners -/
/-- The normal of the lines of a kind. -/
def acA (k:Int):Int:=if k=1 then 1 else if k=2 then 0 else if k=3 then 1 else -1
def acB (k:Int):Int:=if k=1 then 0 else 1
def e77:CtE
 |[.int .u8 k]=>some ⟨.tup [.int .i64 (acA k),.int .i64 (acB k)],[],none⟩
 |_=>none
def sml (x:Int):Prop:= -1000000≤x∧x≤1000000
def farI (k c x y:Int):Int:=acA k*x+acB k*y-2*c
def e102:CtE
 |[.agg [.int .u8 k,.int .i64 c],.agg [.int .i64 x,.int .i64 y]]=>some ⟨.int .i64 (farI k c x y),[],some (sml c∧sml x∧sml y)⟩
 |_=>none
def rfD (k c x y:Int):Int:=(2*farI k c x y).tdiv (acA k*acA k+acB k*acB k)
def e88:CtE
 |[.agg [.int .u8 k,.int .i64 c],.agg [.int .i64 x,.int .i64 y]]=>some ⟨.agg [.int .i64 (x-rfD k c x y*acA k),.int .i64 (y-rfD k c x y*acB k)],[],some (sml c∧sml x∧sml y)⟩
 |_=>none
/-- The corners of a cell behind its middle. -/
def hQ (q:Int):Int:=if q=1∨q=2 then 2 else 0
def gQ (q:Int):Int:=if q≤1 then 2 else 0
def corV (x y q:Int):List AV:=[.int .i64 (2*x+1),.int .i64 (2*y+1),.int .i64 (2*x+hQ q),.int .i64 (2*y+hQ q),.int .i64 (2*x+gQ q),.int .i64 (2*y+(2-gQ q))]
def e76:CtE
 |[.agg [.int .i64 x,.int .i64 y,.int .u8 q]]=>some ⟨.agg (corV x y q),[],some (sml x∧sml y∧0≤q∧q≤3)⟩
 |_=>none
def cA':List (Nat×CtE):=[(77,e77)]
def CA:Tab:=tabL cA' noCh
def cB':List (Nat×CtE):=(102,e102)::(76,e76)::cA'
def CB:Tab:=tabL cB' noCh
/-- The line through two points: the last kind that fits. -/
def onB (a b c d k:Int):Bool:=acA k*a+acB k*b==acA k*c+acB k*d
def lnK (a b c d:Int):Nat→Int
 |0=>0
 |n+1=>cond (onB a b c d (n+1:Nat)) (n+1:Nat) (lnK a b c d n)
def lnC (a b c d:Int):Nat→Int
 |0=>0
 |n+1=>cond (onB a b c d (n+1:Nat)) ((acA (n+1:Nat)*a+acB (n+1:Nat)*b).tdiv 2) (lnC a b c d n)
structure L42 where (k o c:Int)
def l42 (x1 y1 x2 y2:Int):LpS L42 where
 ov b:=[(9,.int .u8 b.k)]
 bk b:=[(256,.blk ⟨.cells [.int .u8 b.o,.int .i64 b.c],2,1,none,some false,true,true⟩)]
 rd S:=match aget S.t 9,aget S.h 256 with
  |some (.int _ k),some (.blk ⟨.cells [.int _ o,.int _ c],_,_,_,_,_,_⟩)=>some ⟨k,o,c⟩
  |_,_=>none
 pre b:=∃n:Nat,b.k=((n+1:Nat):Int)∧n≤4∧b.o=lnK x1 y1 x2 y2 n∧b.c=lnC x1 y1 x2 y2 n
 mu b:=5-b.k.toNat
/-- A corner of a cell, by its number. -/
def crX (x q j:Int):Int:=if j=0 then 2*x+1 else if j=1 then 2*x+hQ q else 2*x+gQ q
def crY (y q j:Int):Int:=if j=0 then 2*y+1 else if j=1 then 2*y+hQ q else 2*y+(2-gQ q)
def liK (x y q e:Int):Int:=lnK (crX x q ((e+1).tmod 3)) (crY y q ((e+1).tmod 3)) (crX x q ((e+2).tmod 3)) (crY y q ((e+2).tmod 3)) 4
def liC (x y q e:Int):Int:=lnC (crX x q ((e+1).tmod 3)) (crY y q ((e+1).tmod 3)) (crX x q ((e+2).tmod 3)) (crY y q ((e+2).tmod 3)) 4
def e42:CtE
 |[.agg [.int .i64 x,.int .i64 y,.int .u8 q],.int .i64 e]=>some ⟨.agg [.int .u8 (liK x y q e),.int .i64 (liC x y q e)],[],some (-100000≤x∧x≤100000∧ -100000≤y∧y≤100000∧0≤q∧q≤3∧0≤e∧e≤2)⟩
 |_=>none
abbrev rd (K:IntKind)(L:List Int)(X:Int)(p:Prop):Prop:=leb 0 X=true∧ltb X (↑(List.length L):Int)=true∧ltn 0 (Cont.size (Cont.ints K L))=true∧ltn 0 (Cont.size (Cont.ints K (List.drop (Int.toNat X) L)))=true∧p
abbrev rdw (K:IntKind)(L:List Int)(X:Int)(p:Prop):Prop:=leb 0 X=true∧ltb X (↑(List.length L):Int)=true∧ltn (Int.toNat X) (Cont.size (Cont.ints K L))=true∧p
abbrev qs (K:IntKind)(L:List Int)(p:Prop):Prop:=Cont.ints K L=Cont.ints K L∧List.length L=List.length L∧p
abbrev ql {α:Type}(L:List α)(p:Prop):Prop:=(↑(List.length L):Int)=(↑(List.length L):Int)∧p
abbrev qx {α:Type}(x:α)(p:Prop):Prop:=x=x∧p
end Go.Proofs.YtfpcbimohikhmaaDoor.X
