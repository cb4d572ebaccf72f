/-
 Moves: what the functions on moves compute.
-/
import Derived.Test.YtmnaghfndigfkaaDoorDIZ
set_option maxRecDepth 1000000
set_option linter.unusedVariables false
namespace Go.Proofs.YtmnaghfndigfkaaDoor.X
open Go Go.Ab

/-- Turned coordinates. -/
def mtX (t x y:Int):Int:=if t=0 then x else if t=1 then -y else if t=2 then -x else if t=3 then y else if t=4 then -x else if t=5 then -y else if t=6 then x else y
def mtY (t x y:Int):Int:=if t=0 then y else if t=1 then x else if t=2 then -y else if t=3 then -x else if t=4 then y else if t=5 then -x else if t=6 then -y else x
/-- The side of a quarter; the quarter of a side. -/
def sdX (q:Int):Int:=if q=1 then 1 else if q=3 then -1 else 0
def sdY (q:Int):Int:=if q=0 then -1 else if q=2 then 1 else 0
def qOf (x y:Int):Int:=if y= -1 then 0 else if x=1 then 1 else if y=1 then 2 else 3
def mvQ (t q:Int):Int:=qOf (mtX t (sdX q) (sdY q)) (mtY t (sdX q) (sdY q))
def mvX' (t X x y:Int):Int:=(mtX t (2*x+1) (2*y+1)+2*X-1)/2
def mvY' (t Y x y:Int):Int:=(mtY t (2*x+1) (2*y+1)+2*Y-1)/2
def mvC (t X Y:Int)(c:Cl):Cl:=(mvX' t X c.1 c.2.1,mvY' t Y c.1 c.2.1,mvQ t c.2.2)
def beyB (n:Int):Bool:=decide (n< -16384∨16384<n)
def mvV (t X Y:Int):Bool:=decide (t≤7∧ -16384≤X∧X≤16384∧ -16384≤Y∧Y≤16384∧(X+Y)%2=0)
def e108:CtE
 |[.int .i64 a]=>some ⟨.bool (beyB a),[],none⟩
 |_=>none
def e55:CtE
 |[.agg [.int .u8 t,.int .i64 a,.int .i64 b]]=>some ⟨.int .i64 (bI (mvV t a b) 0 1),[],some (0≤t∧t≤255)⟩
 |_=>none
def isT (t:Int):Prop:=0≤t∧t≤7
def mvO (t X Y:Int):Prop:=isT t∧ -16384≤X∧X≤16384∧ -16384≤Y∧Y≤16384∧(X+Y)%2=0
def e112:CtE
 |[.agg [.int .i64 a,.int .i64 b,.int .i64 c,.int .i64 d],.int .i64 x,.int .i64 y]=>some ⟨.tup [.int .i64 (a*x+b*y),.int .i64 (c*x+d*y)],[],some ((-1≤a∧a≤1)∧(-1≤b∧b≤1)∧(-1≤c∧c≤1)∧(-1≤d∧d≤1)∧smP x y)⟩
 |_=>none
def s10k (x y:Int):Prop:= -10000≤x∧x≤10000∧ -10000≤y∧y≤10000
def e166:CtE
 |[.agg [.int .u8 t,.int .i64 a,.int .i64 b],.agg [.int .i64 x,.int .i64 y]]=>some ⟨.tup [.agg [.int .i64 (mtX t x y+2*a),.int .i64 (mtY t x y+2*b)],.int .i64 0],[],some (mvO t a b∧s10k x y)⟩
 |_=>none
def vq (x y q:Int):Prop:=vldC (x,y,q)=true∧0≤q
def e132:CtE
 |[.agg [.int .u8 t,.int .i64 a,.int .i64 b],.agg [.int .i64 x,.int .i64 y,.int .u8 q]]=>some ⟨.agg [.int .i64 (mvX' t a x y),.int .i64 (mvY' t b x y),.int .u8 (mvQ t q)],[],some (mvO t a b∧vq x y q)⟩
 |_=>none
def mvB (t a b x y q:Int):Bool:=vldC (mvX' t a x y,mvY' t b x y,mvQ t q)
def e93:CtE
 |[.agg [.int .u8 t,.int .i64 a,.int .i64 b],.agg [.int .i64 x,.int .i64 y,.int .u8 q]]=>some ⟨.tup [.agg [.int .i64 (bI (mvB t a b x y q) (mvX' t a x y) 0),.int .i64 (bI (mvB t a b x y q) (mvY' t b x y) 0),.int .u8 (bI (mvB t a b x y q) (mvQ t q) 0)],.int .i64 (bI (mvB t a b x y q) 0 3)],[],some (mvO t a b∧vq x y q)⟩
 |_=>none
def hlf (p:Int):Int:=(p-bitI .and .i64 p 1).tdiv 2
def jD (x:Int)(c:Bool):LpS Unit where
 ov _:=[(47,.int .i64 x),(48,.bool c)]
 bk _:=[]
 rd S:=some ()
 pre _:=True
 mu _:=0
def tV55:List (Nat×CtE):=[(108,e108)]
def TV55:Tab:=tabL tV55 noCh
def tV166:List (Nat×CtE):=[(55,e55),(151,e151),(112,e112)]
def TV166:Tab:=tabL tV166 noCh
def tV132:List (Nat×CtE):=[(165,e165),(166,e166)]
def TV132:Tab:=tabL tV132 noCh
def tV93:List (Nat×CtE):=[(55,e55),(86,e86),(132,e132)]
def TV93:Tab:=tabL tV93 noCh
/-! ### A set that is moved -/
/-! ### The reference -/
end Go.Proofs.YtmnaghfndigfkaaDoor.X
