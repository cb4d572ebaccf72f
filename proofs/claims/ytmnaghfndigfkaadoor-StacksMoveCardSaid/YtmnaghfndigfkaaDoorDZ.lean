/-
 The package-level tables; what the functions on cells and sets compute.
-/
import Derived.Test.YtmnaghfndigfkaaDoorXpZ
import Derived.Test.YtmnaghfndigfkaaDoorAb6
import Derived.KernelRfl
set_option maxRecDepth 1000000
set_option linter.unusedVariables false
namespace Go.Proofs.YtmnaghfndigfkaaDoor.X
open Go Go.Ab

/-- A quarter: 17 cells. -/
def qrt (a:Int)(b:Int)(k c:Int)(n:List (Int×Int×Int))(o1 o2 t1 t2:Int):List AV:=
 [.int .i64 a,.int .i64 b,.int .u8 k,.int .i64 c]++n.flatMap (fun x=>[.int .i64 x.1,.int .i64 x.2.1,.int .u8 x.2.2])++[.int .i64 o1,.int .i64 o2,.int .i64 t1,.int .i64 t2]
def quarC:Cont:=.vals (qrt 0 (-1) 2 0 [(0,-1,2),(0,0,1),(0,0,3)] 0 0 2 0++qrt 1 0 1 1 [(1,0,3),(0,0,0),(0,0,2)] 2 2 2 0++
 qrt 0 1 2 1 [(0,1,0),(0,0,3),(0,0,1)] 2 2 0 2++qrt (-1) 0 1 0 [(-1,0,1),(0,0,2),(0,0,0)] 0 0 0 2)
/-- Package-level tables. -/
def gl:Nat→Option Cont
 |0=>some (.ints .i64 [1,0,0,1,0,-1,1,0,-1,0,0,-1,0,1,-1,0,-1,0,0,1,0,-1,-1,0,1,0,0,-1,0,1,1,0])
 |1=>some quarC
 |_=>none
noncomputable def G:GL:={g:=gl,cm:=cmOf Tryd.prog}
theorem hcm:G.cm=cmOf Tryd.prog:=rfl
theorem hmx:Tryd.prog.follows .mixedOrders=true:=by kernel_rfl
theorem natNo:NatOk Tryd.prog (fun _ _=>none):=fun _ _ _ h=>by cases h
def T0:Tab:=tabL [] noCh
theorem T0ok:TabOk Tryd.prog G T0:=tabL_ok noCh_ok trivial
/-- Cells: X, Y, Q. -/
abbrev Cl:Type:=Int×Int×Int
end Go.Proofs.YtmnaghfndigfkaaDoor.X
