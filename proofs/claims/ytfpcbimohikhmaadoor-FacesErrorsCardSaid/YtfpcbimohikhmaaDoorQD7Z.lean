/-
 The laws on patterns: contracts of valid patterns, the laws' loops.
-/
import Derived.Test.YtfpcbimohikhmaaDoorQPFZ
import Derived.Test.YtfpcbimohikhmaaDoorQLZ
set_option maxRecDepth 1000000
set_option linter.unusedVariables false
set_option linter.unusedSimpArgs false
namespace Go.Proofs.YtfpcbimohikhmaaDoor.X
open Go Go.Ab

def s4 (w h:Int):Prop:=(1≤w∧w≤4)∧(1≤h∧h≤4)
def okV (w h:Int)(a:List AV)(n:Nat):Prop:=okA a n∧vP w h (unC a)
def e27v:CtE
 |[.agg [.int .i64 w,.int .i64 h,.imm (.vals a) n _]]=>some ⟨.int .i64 0,[],some (s5 w h∧okV w h a n)⟩
 |_=>none
/-! ### Set -/
structure L2w where (v a:Int)
def l3 (us:List Int):LpS L1 where
 ov c:=[(17,.int .i64 c.i)]
 bk c:=[]
 rd S:=match aget S.t 17 with
  |some (.int _ i)=>some ⟨i⟩
  |_=>none
 pre c:=∃n:Nat,c.i=n∧n≤us.length
 mu c:=us.length-c.i.toNat
/-! ### Order -/
end Go.Proofs.YtfpcbimohikhmaaDoor.X
