/-
 Cones: comparing lists; the first of the orders that are the same; all orders.
-/
import Derived.Test.YthiammkiobbclaaGreatD7Z
import Derived.Test.YthiammkiobbclaaGreatAb8
import Derived.Test.YthiammkiobbclaaGreatAb9
set_option maxRecDepth 1000000
set_option linter.unusedVariables false
namespace Go.Proofs.YthiammkiobbclaaGreat.X
open Go Go.Ab

/-- What says of the whole world what it does. -/
noncomputable def Gs:GL:={g:=fun _=>none,cm:=cmOf Tryz.prog,strong:=True}
theorem hcmS:Gs.cm=cmOf Tryz.prog:=rfl
def cmI (a b:Int):Int:=if a<b then -1 else if b<a then 1 else 0
def cmpL:List Int→List Int→Int
 |[],[]=>0
 |[],_::_=> -1
 |_::_,[]=>1
 |a::r,b::s=>if cmI a b=0 then cmpL r s else cmI a b
def e104:CtE
 |[.int .i64 x]=>some ⟨.bool false,[],none⟩
 |_=>none
def e85c:CtE
 |[.int .i64 x,.int .i64 y]=>some ⟨.int .i64 (cmI x y),[],none⟩
 |_=>none
def tS1:List (Nat×CtE):=[(85,e104)]
def TS1:Tab:=tabL tS1 noCh
def tS2:List (Nat×CtE):=[(58,e85c)]
def TS2:Tab:=tabL tS2 noCh
def l62 (a b:List Int):LpS L83 where
 ov c:=[(11,.int .i64 c.i)]
 bk c:=[]
 rd S:=match aget S.t 11 with
  |some (.int _ i)=>some ⟨i⟩
  |_=>none
 pre c:=∃m:Nat,c.i=m∧m≤a.length∧m≤b.length∧cmpL (a.drop m) (b.drop m)=cmpL a b
 mu c:=a.length-c.i.toNat
/-! ### The first of the orders that are the same -/
def frC (r rk out:List Int)(i k:Int):Bool:=memB out k||(leb (gR rk i) (gR rk k)|| !ovlB r i k)
def frK (r rk out:List Int)(i:Int)(m:Nat):Bool:= !memB out i&&(List.range m).all fun(k:Nat)=>frC r rk out i (k:Int)
def fr1 (r rk:List Int)(n:Nat)(out:List Int):Int:=(((List.range n).find? fun(i:Nat)=>frK r rk out (i:Int) n).getD 0:Nat)
def lstN (r rk:List Int)(n:Nat):Nat→List Int
 |0=>[]
 |m+1=>lstN r rk n m++[fr1 r rk n (lstN r rk n m)]
def leastL (r o:List Int):List Int:=lstN r (rkF o) o.length o.length
def e60:CtE
 |[.agg [.imm (.ints .i64 a) n _,.imm (.ints .u8 k) m _,.imm (.ints .i64 r) p _],.imm (.ints .i64 o) q _]=>some ⟨immL .i64 (leastL r o),[],some (cok a k r n m p∧q=o.length∧okO o∧o.length<p∧p≤9)⟩
 |_=>none
def e60z:CtE
 |[.agg [.imm (.ints .i64 a) n _,.imm (.ints .u8 k) m _,.imm (.ints .i64 r) p _],.nils]=>some ⟨immL .i64 [],[],some (cok a k r n m p)⟩
 |_=>none
structure L60 where (o:List Int)
def bk60 (l:List Int)(n:Nat):Blk:=⟨.ints .i64 l,1,l.length,some n,some false,true,false⟩
def l60 (r o:List Int):LpS L60 where
 ov b:=[(6,.full 194 b.o.length)]
 bk b:=[(194,.blk (bk60 b.o o.length))]
 rd S:=match aget S.h 194 with
  |some (.blk ⟨.ints _ o,_,_,_,_,_,_⟩)=>some ⟨o⟩
  |_=>none
 pre b:=∃m:Nat,m≤o.length∧b.o=lstN r (rkF o) o.length m
 mu b:=o.length-b.o.length
def m60 (r o out:List Int):LpS L83 where
 ov b:=[(22,.int .i64 b.i),(6,.full 194 out.length)]
 bk b:=[(194,.blk (bk60 out o.length))]
 rd S:=match aget S.t 22 with
  |some (.int _ i)=>some ⟨i⟩
  |_=>none
 pre b:=∃m:Nat,b.i=m∧m≤o.length∧∀j:Nat,j<m→frK r (rkF o) out j o.length=false
 mu b:=o.length-b.i.toNat
structure N60 where (k:Int)(f:Bool)
def n60 (r o out:List Int)(i:Int):LpS N60 where
 ov b:=[(31,.int .i64 b.k),(8,.bool b.f)]
 bk b:=[]
 rd S:=match aget S.t 31,aget S.t 8 with
  |some (.int _ k),some (.bool f)=>some ⟨k,f⟩
  |_,_=>none
 pre b:=∃m:Nat,b.k=m∧m≤o.length∧b.f=frK r (rkF o) out i m
 mu b:=o.length-b.k.toNat
/-- Contains, on the heap. -/
def ch60 (q:Nat)(h:List (Nat×HO))(cv:AV)(args:List AV):Option Cx:=
 match cv,args,aget h 194 with
 |.fn f [] [],[.full i n,.int .i64 x],some (.blk ⟨.ints _ l,_,_,_,_,_,_⟩)=>cond (Nat.beq f 54&&Nat.beq i 194) (some ⟨.bool (memB l x),[],some (h=[(194,.blk (bk60 l q))]∧n=l.length∧l.length<1000000)⟩) none
 |_,_,_=>none
def t60:List (Nat×CtE):=[(28,e51),(55,e82)]
def T60 (q:Nat):Tab:=tabL t60 (ch60 q)
def j60 (o:List Int):LpS Unit where
 ov _:=[(5,.ptr 130 0)]
 bk _:=[(130,.blk ⟨.ints .i64 (rkF o),1,8,none,some false,true,true⟩)]
 rd S:=some ()
 pre _:=True
 mu _:=0
end Go.Proofs.YthiammkiobbclaaGreat.X
