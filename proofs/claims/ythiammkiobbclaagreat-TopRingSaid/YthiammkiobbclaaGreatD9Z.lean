/-
 Cones: the ways.
-/
import Derived.Test.YthiammkiobbclaaGreatD8Z
set_option maxRecDepth 1000000
set_option linter.unusedVariables false
namespace Go.Proofs.YthiammkiobbclaaGreat.X
open Go Go.Ab

/-- What lies in the list of ways. -/
def outV (L:List (List Int)):List AV:=L.map (immL .i64)
def unO:List AV→List (List Int)
 |.imm (.ints _ l) _ _::r=>l::unO r
 |_=>[]
def bkO (L:List (List Int)):Blk:=⟨.vals (outV L),1,L.length,none,some true,true,false⟩
def kkM:MV:=⟨true,[some .i64,some .i64,some .i64,some .i64,some .i64,some .i64,some .i64,some .i64]⟩
def vkM:MV:=⟨false,[none]⟩
def fndS (L:List (List Int)):List (List Int×List Int×Nat)×Nat:=L.foldl (fun s l=>(mput s.1 (rkL l) [1] s.2,mck s.1 (rkL l) s.2)) ([],0)
def fnE (L:List (List Int)):List (List Int×List Int×Nat):=(fndS L).1
def fnK (L:List (List Int)):Nat:=(fndS L).2
/-- Orders that grow: what comes of one. -/
def cwB (n:Nat)(r k o:List Int):Bool:=crsB n r (rkL o)||wrgB k (rkL o)
def grwL (n:Nat)(r k:List Int):Nat→List Int→List (List Int)
 |0,o=>cond (cwB n r k o) [] [leastL r o]
 |f+1,o=>cond (cwB n r k o) [] ((List.range (o.length+1)).flatMap fun i=>grwL n r k f (insA o i (o.length:Int)))
def addU (L:List (List Int))(l:List Int):List (List Int):=cond (L.contains l) L (L++[l])
def grwO (n:Nat)(r k:List Int)(L:List (List Int))(o:List Int):List (List Int):=(grwL n r k (n-o.length) o).foldl addU L
def grwM (n:Nat)(r k:List Int)(L:List (List Int))(o:List Int)(m:Nat):List (List Int):=((List.range m).flatMap fun i=>grwL n r k (n-(o.length+1)) (insA o i (o.length:Int))).foldl addU L
def insS (x:List Int):List (List Int)→List (List Int)
 |[]=>[x]
 |y::r=>cond (ltb (cmpL x y) 0) (x::y::r) (y::insS x r)
def srtL:List (List Int)→List (List Int)
 |[]=>[]
 |x::r=>insS x (srtL r)
def waysL (n:Nat)(r k:List Int):List (List Int):=srtL (grwO n r k [] [])
/-- The heap at a call of grow. -/
def hpM (L:List (List Int)):HO:=.blk ⟨.maps kkM vkM (fnE L) (fnK L),1,0,none,some false,true,true⟩
def hpB (L:List (List Int)):HO:=.blk ⟨.cells [.full 9700 L.length],1,1,none,some false,true,true⟩
def hpG (a k r:List Int)(L:List (List Int)):List (Nat×HO):=
 [(9700,.blk (bkO L)),(192,hpB L),(128,hpM L),(129,.blk ⟨.cells [.mp 128],1,1,none,some false,true,true⟩),(256,.blk ⟨.cells [.fn 27 [] [.ptr 64 0,.ptr 256 0,.ptr 129 0,.ptr 192 0]],1,1,none,some false,true,true⟩),
  (64,.blk ⟨.cells [.imm (.ints .i64 a) a.length none,.imm (.ints .u8 k) k.length none,.imm (.ints .i64 r) r.length none],3,1,none,some false,true,true⟩)]
def wsG (L:List (List Int)):List (Nat×HO):=[(128,hpM L),(192,hpB L),(9700,.blk (bkO L))]
/-- What is asked of the fan, the order, the list so far. -/
def okN (a k r:List Int):Prop:=a.length≤8∧k.length=a.length∧r.length=a.length+1
def okL (a:List Int)(L:List (List Int)):Prop:=L.Nodup∧∀l∈L,l.Perm (((List.range a.length).map fun(i:Nat)=>(i:Int)))
def okG (o:List Int):Prop:=o.Perm ((List.range o.length).map fun(i:Nat)=>(i:Int))
/-- Insert, grow, on heaps. `q`: how long the orders are. -/
def chG (a k r:List Int)(q:Nat)(h:List (Nat×HO))(cv:AV)(args:List AV):Option Cx:=
 match cv,args with
 |.fn f [] [],[.full i n,.int .i64 p,.full j m]=>match aget h i,aget h j with
  |some (.blk ⟨.ints _ o,_,_,_,_,_,_⟩),some (.blk ⟨.ints _ [x],_,_,_,_,_,_⟩)=>cond (Nat.beq f 31&&(Nat.beq i 32896&&Nat.beq j 517)) (some ⟨.imm (.ints .i64 (insA o p.toNat x)) (insA o p.toNat x).length none,[(32896,.blk ⟨.ints .i64 (insA o p.toNat x),1,(insA o p.toNat x).length,none,some false,false,false⟩)],
    some (h=[(517,.blk ⟨.ints .i64 [x],1,1,some 1,some false,true,false⟩),(32896,.blk ⟨.ints .i64 o,1,o.length,none,some false,true,false⟩)]∧n=o.length∧m=1∧0<o.length∧o.length<1000000∧0≤p∧p≤o.length)⟩) none
  |_,_=>none
 |.fn f [] [],[.nils,.int .i64 p,.full j m]=>match aget h j with
  |some (.blk ⟨.ints _ [x],_,_,_,_,_,_⟩)=>cond (Nat.beq f 31&&Nat.beq j 517) (some ⟨.imm (.ints .i64 [x]) 1 none,[],some (h=[(517,.blk ⟨.ints .i64 [x],1,1,some 1,some false,true,false⟩)]∧m=1∧p=0)⟩) none
  |_=>none
 |.fn f [] [],[.imm (.ints .i64 o) m _,.ptr c 0,.ptr g 0,.ptr u 0,.ptr v 0]=>match aget h 9700 with
  |some (.blk ⟨.vals vs,_,_,_,_,_,_⟩)=>cond (Nat.beq f 27&&(Nat.beq c 64&&(Nat.beq g 256&&(Nat.beq u 129&&Nat.beq v 192)))) (some ⟨.tup [],wsG (grwO a.length r k (unO vs) o),some (h=hpG a k r (unO vs)∧m=o.length∧o.length=q∧q≤a.length∧0<q∧okG o∧okL a (unO vs))⟩) none
  |_=>none
 |_,_=>none
def eCloneN:CtE
 |[.nils]=>some ⟨.nils,[],none⟩
 |_=>none
def tG:List (Nat×CtE):=[(28,e51),(29,e52),(30,e53),(33,e60),(32,eCloneP .i64)]
def TG (a k r:List Int)(q:Nat):Tab:=tabL tG (chG a k r q)
def e51b:CtE
 |[.nils]=>some ⟨rkV [],[],none⟩
 |args=>e51 args
def T60z:Tab:=tabL [(28,e51b)] noCh
def tGn:List (Nat×CtE):=[(28,e51b),(29,e52),(30,e53),(33,e60z),(32,eCloneN)]
def TGn (a k r:List Int):Tab:=tabL tGn (chG a k r 1)
structure L58 where (i:Int)(L:List (List Int))
def l58 (a k r o:List Int)(L:List (List Int)):LpS L58 where
 ov b:=[(30,.int .i64 b.i)]
 bk b:=[(128,hpM b.L),(192,hpB b.L),(9700,.blk (bkO b.L))]
 rd S:=match aget S.t 30,aget S.h 9700 with
  |some (.int _ i),some (.blk ⟨.vals vs,_,_,_,_,_,_⟩)=>some ⟨i,unO vs⟩
  |_,_=>none
 pre b:=∃m:Nat,b.i=m∧m≤o.length+1∧b.L=grwM a.length r k L o m∧okL a b.L
 mu b:=o.length+1-b.i.toNat
/-- Sorting; the first call of grow. -/
def chW (a k r:List Int)(h:List (Nat×HO))(cv:AV)(args:List AV):Option Cx:=
 match cv,args,aget h 9700 with
 |.fn f [] [],[.nils,.ptr c 0,.ptr g 0,.ptr u 0,.ptr v 0],some (.blk ⟨.vals vs,_,_,_,_,_,_⟩)=>cond (Nat.beq f 27&&(Nat.beq c 64&&(Nat.beq g 256&&(Nat.beq u 129&&Nat.beq v 192)))) (some ⟨.tup [],wsG (grwO a.length r k [] []),some (h=hpG a k r []∧okN a k r)⟩) none
 |.fn f [] [],[.full i n,.fn g [] []],some (.blk ⟨.vals vs,_,_,_,_,_,_⟩)=>cond (Nat.beq f 34&&(Nat.beq i 9700&&Nat.beq g 35)) (some ⟨.tup [],[(9700,.blk ⟨.vals (outV (srtL (unO vs))),1,(unO vs).length,none,some true,true,false⟩)],some (h=[(9700,.blk (bkO (unO vs)))]∧n=(unO vs).length∧okL a (unO vs))⟩) none
 |_,_,_=>none
def TW (a k r:List Int):Tab:=tabL [] (chW a k r)
def j38:LpS Unit where
 ov _:=[]
 bk _:=[(256,.blk ⟨.cells [.fn 27 [] [.ptr 64 0,.ptr 256 0,.ptr 129 0,.ptr 192 0]],1,1,none,some false,true,true⟩),(9700,.blk (bkO []))]
 rd S:=some ()
 pre _:=True
 mu _:=0
def e38c:CtE
 |[.agg [.imm (.ints .i64 a) n _,.imm (.ints .u8 k) m _,.imm (.ints .i64 r) p _]]=>some ⟨.imm (.vals (outV (waysL n r k))) (waysL n r k).length none,[],some (cok a k r n m p∧okN a k r)⟩
 |_=>none
/-- Count, First. -/
def cwL (a k:List Int):List (List Int):=cond (altS a k) (waysL a.length (raysL a) k) []
def tC:List (Nat×CtE):=[(16,ec37),(17,e38c)]
def TC:Tab:=tabL tC noCh
def cntE (a k:List Int):Int:=if ofE a k=14 then 0 else ofE a k
def e16c:CtE
 |[.agg [.imm (.ints .i64 a) n _,.imm (.ints .u8 k) m _]]=>some ⟨.tup [.int .i64 ((cwL a k).length:Nat),.int .i64 (cntE a k)],[],some (n=a.length∧m=k.length∧a.length<1000000)⟩
 |_=>none
def fstE (a k:List Int):Int:=if ofE a k=0∨ofE a k=14 then(if cwL a k=[]then 7 else 0)else ofE a k
def fstL (a k:List Int):List Int:=(cwL a k)[0]?.getD []
def e17c:CtE
 |[.agg [.imm (.ints .i64 a) n _,.imm (.ints .u8 k) m _]]=>some ⟨.tup [immL .i64 (fstL a k),.int .i64 (fstE a k)],[],some (n=a.length∧m=k.length∧a.length<1000000)⟩
 |_=>none
end Go.Proofs.YthiammkiobbclaaGreat.X
