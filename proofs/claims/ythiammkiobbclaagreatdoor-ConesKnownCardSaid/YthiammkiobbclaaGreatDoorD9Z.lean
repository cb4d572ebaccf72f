/-
 What is to be shown of the functions (made by a program).
-/
import Derived.Test.YthiammkiobbclaaGreatDoorD20Z
import Derived.Test.YthiammkiobbclaaGreatDoorAb6
set_option maxRecDepth 1000000
set_option linter.unusedVariables false
namespace Go.Proofs.YthiammkiobbclaaGreatDoor.X
open Go Go.Ab
open List IntKind
theorem C9T:fnP (T9) G 10000 fe9 (.r [] 0 (.r [] 54 (.r [] 54 (.r [] 63 (.lit (.r [] 0 (.r [] 0 (.lp (l9) [] [] (fun b=>(.r [] 0 (.cnd (.r [(642,.auto,Dr.wrap),(645,.auto,Dr.wrap),(647,.auto,Dr.wrap),(650,.auto,Dr.wrap),(653,.auto,Dr.wrap),(656,.auto,Dr.wrap),(658,.auto,Dr.wrap),(661,.auto,Dr.wrap)] 3412 (.r [(705,.auto,Dr.wrap),(708,.auto,Dr.wrap),(710,.auto,Dr.wrap),(713,.auto,Dr.wrap)] 10 (.r [(796,.auto,Dr.wrap)] 935262135 (.lit (.r [] 4 (.r [] 0 .nil)))))) (.r [] 1 .nil)))))))))))) ([]) ([.bool true]) ([])=(
 uL [97,49,32,97,49,32,97,49,32,97,49,32,97,49,32,97,49,32,97,49,32,97,49]=[97,49,32,97,49,32,97,49,32,97,49,32,97,49,32,97,49,32,97,49,32,97,49]/\(iL [1,
 1,1,1,1,1,1,1]=[1,1,1,1,1,1,1,1]/\iL [3,3,3,3,3,3,3,3]=[3,3,3,3,3,3,3,3]/\8=8/\8=8)/\uL [97,49,32,97,49,32,97,49,32,97,49,32,97,49,32,97,49]=
 [97,49,32,97,49,32,97,49,32,97,49,32,97,49,32,97,49]/\(iL [1,1,1,1,1,1]=[1,1,1,1,1,1]/\iL [3,3,3,3,3,3]=[3,3,3,3,3,3]/\6=6/\6=6)/\8=8/\iL [3,3,3,
 3,3,3,3,3]=[3,3,3,3,3,3,3,3]/\8=8/\iL [1,1,1,1,1,1,1,1]=[1,1,1,1,1,1,1,1]/\6=6/\iL [3,3,3,3,3,3]=[3,3,3,3,3,3]/\6=6/\iL [1,1,1,1,1,1]=[1,1,
 1,1,1,1]/\iI 1=1/\iI 0=0/\(∃(m:Nat),0=(↑m:Int)/\m<=40/\iI 0<=iI 1/\iI 1<=iI 100003)/\∀(b:L9),(∃(m:Nat),b.n=(↑m:Int)/\m<=40/\0<=b.k/\b.k<=100003)->(ltb b.n
 40=true->inR i64 (b.n*37)=true/\inR i64 (Int.tdiv b.k 2)=true/\inR i64 (Int.tdiv b.k 3)=true/\inR i64 (Int.tdiv b.k 7)=true/\inR i64 (Int.tdiv b.k 11)=true/\inR i64 (Int.tdiv b.k
 13)=true/\inR i64 (Int.tdiv b.k 5)=true/\inR i64 (Int.tdiv b.k 17)=true/\(8=8/\okK [wrap u8 b.k,wrap u8 (Int.tdiv b.k 3),wrap u8 (Int.tdiv b.k 7),wrap u8 (Int.tdiv b.k 11),wrap u8 b.n,
 0,1,wrap u8 (Int.tdiv b.k 13)]/\4=4/\okY [wrap u8 b.k,wrap u8 (Int.tdiv b.k 5),wrap u8 b.n,wrap u8 (Int.tdiv b.k 17)])/\(8=8/\okK [wrap u8 b.k,wrap u8 (Int.tdiv b.k 3),wrap u8 (Int.tdiv
 b.k 7),wrap u8 (Int.tdiv b.k 11),wrap u8 b.n,0,1,wrap u8 (Int.tdiv b.k 13)])/\(8=8/\okK [wrap u8 b.k,wrap u8 (Int.tdiv b.k 3),wrap u8 (Int.tdiv b.k 7),wrap u8 (Int.tdiv b.k 11),wrap u8
 b.n,0,1,wrap u8 (Int.tdiv b.k 13)])/\(8=8/\okK [wrap u8 b.k,wrap u8 (Int.tdiv b.k 3),wrap u8 (Int.tdiv b.k 7),wrap u8 (Int.tdiv b.k 11),wrap u8 b.n,0,1,wrap u8 (Int.tdiv b.k 13)])/\(8=
 8/\okK [wrap u8 b.k,wrap u8 (Int.tdiv b.k 3),wrap u8 (Int.tdiv b.k 7),wrap u8 (Int.tdiv b.k 11),wrap u8 b.n,0,1,wrap u8 (Int.tdiv b.k 13)]/\4=4/\okY [wrap u8 b.k,wrap u8 (Int.tdiv b.k 5),
 wrap u8 b.n,wrap u8 (Int.tdiv b.k 17)])/\(8=8/\okK [wrap u8 b.k,wrap u8 (Int.tdiv b.k 3),wrap u8 (Int.tdiv b.k 7),wrap u8 (Int.tdiv b.k 11),wrap u8 b.n,0,1,wrap u8 (Int.tdiv b.k 13)]/\0<=
 wrap u8 b.n/\wrap u8 b.n<=255)/\inR i64 (b.k*31)=true/\inR i64 (b.k*31+11)=true/\inR i64 (b.n+1)=true/\8=8/\iL [3,3,3,3,3,3,3,3]=[3,3,3,3,3,3,3,3]/\8=8/\iL
 [1,1,1,1,1,1,1,1]=[1,1,1,1,1,1,1,1]/\6=6/\iL [3,3,3,3,3,3]=[3,3,3,3,3,3]/\6=6/\iL [1,1,1,1,1,1]=[1,1,1,1,1,1]/\Int.tmod (b.k*31+11) 100003=
 Int.tmod (b.k*31+11) 100003/\b.n+1=b.n+1/\(∃(m:Nat),b.n+1=(↑m:Int)/\m<=40/\0<=Int.tmod (b.k*31+11) 100003/\Int.tmod (b.k*31+11) 100003<=100003)/\40-Int.toNat
 (b.n+1)<40-Int.toNat b.n/\True)/\(ltb b.n 40=false->true=true/\True)):=by kernel_rfl
noncomputable def Gs:GL:={g:=fun _=>none,cm:=A2V Tryz.prog,strong:=True}
theorem C9U:Gs.cm=A2V Tryz.prog:=rfl
def cmI (a b:Int):Int:=if a<b then -1 else if b<a then 1 else 0
def A2l:List Int->List Int->Int
 |[],[]=>0
 |[],_::_=> -1
 |_::_,[]=>1
 |a::r,b::s=>if cmI a b=0 then A2l r s else cmI a b
def C9V:CtE
 |[.int .i64 x]=>some ⟨.bool false,[],none⟩
 |_=>none
def C9W:CtE
 |[.int .i64 x,.int .i64 y]=>some ⟨.int .i64 (cmI x y),[],none⟩
 |_=>none
def tS1:List (Nat×CtE):=[(104,C9V)]
def TS1:Tab:=A2t tS1 A3E
def tS2:List (Nat×CtE):=[(85,C9W)]
def TS2:Tab:=A2t tS2 A3E
def l62 (a b:List Int):LpS L83 where
 ov c:=[(11,.int .i64 c.i)]
 bk c:=[]
 rd S:=match aget S.t 11 with
  |some (.int _ i)=>some ⟨i⟩
  |_=>none
 pre c:=∃m:Nat,c.i=m/\m<=a.length/\m<=b.length/\A2l (a.drop m) (b.drop m)=A2l a b
 mu c:=a.length-c.i.toNat
def frC (r rk out:List Int)(i k:Int):Bool:=A1q out k||(leb (gR rk i) (gR rk k)|| !ovlB r i k)
def frK (r rk out:List Int)(i:Int)(m:Nat):Bool:= !A1q out i&&(List.range m).all fun(k:Nat)=>frC r rk out i (k:Int)
def fr1 (r rk:List Int)(n:Nat)(out:List Int):Int:=(((List.range n).find? fun(i:Nat)=>frK r rk out (i:Int) n).getD 0:Nat)
def A3H (r rk:List Int)(n:Nat):Nat->List Int
 |0=>[]
 |m+1=>A3H r rk n m++[fr1 r rk n (A3H r rk n m)]
def A0I (r o:List Int):List Int:=A3H r (rkF o) o.length o.length
def e60:CtE
 |[.agg [.imm (.ints .i64 a) n _,.imm (.ints .u8 k) m _,.imm (.ints .i64 r) p _],.imm (.ints .i64 o) q _]=>some ⟨A10 .i64 (A0I r o),[],some (cok a k r n m p/\q=o.length/\okO o/\o.length<p/\p<=9)⟩
 |_=>none
def C9X:CtE
 |[.agg [.imm (.ints .i64 a) n _,.imm (.ints .u8 k) m _,.imm (.ints .i64 r) p _],.nils]=>some ⟨A10 .i64 [],[],some (cok a k r n m p)⟩
 |_=>none
structure L60 where (o:List Int)
def C0v (l:List Int)(n:Nat):Blk:=⟨.ints .i64 l,1,l.length,some n,some false,true,false⟩
def l60 (r o:List Int):LpS L60 where
 ov b:=[(6,.full 194 b.o.length)]
 bk b:=[(194,.blk (C0v b.o o.length))]
 rd S:=match aget S.h 194 with
  |some (.blk ⟨.ints _ o,_,_,_,_,_,_⟩)=>some ⟨o⟩
  |_=>none
 pre b:=∃m:Nat,m<=o.length/\b.o=A3H r (rkF o) o.length m
 mu b:=o.length-b.o.length
def m60 (r o out:List Int):LpS L83 where
 ov b:=[(22,.int .i64 b.i),(6,.full 194 out.length)]
 bk b:=[(194,.blk (C0v out o.length))]
 rd S:=match aget S.t 22 with
  |some (.int _ i)=>some ⟨i⟩
  |_=>none
 pre b:=∃m:Nat,b.i=m/\m<=o.length/\∀j:Nat,j<m->frK r (rkF o) out j o.length=false
 mu b:=o.length-b.i.toNat
structure N60 where (k:Int)(f:Bool)
def n60 (r o out:List Int)(i:Int):LpS N60 where
 ov b:=[(31,.int .i64 b.k),(8,.bool b.f)]
 bk b:=[]
 rd S:=match aget S.t 31,aget S.t 8 with
  |some (.int _ k),some (.bool f)=>some ⟨k,f⟩
  |_,_=>none
 pre b:=∃m:Nat,b.k=m/\m<=o.length/\b.f=frK r (rkF o) out i m
 mu b:=o.length-b.k.toNat
def C9Y (q:Nat)(h:List (Nat×HO))(cv:AV)(args:List AV):Option Cx:=
 match cv,args,aget h 194 with
 |.fn f [] [],[.full i n,.int .i64 x],some (.blk ⟨.ints _ l,_,_,_,_,_,_⟩)=>cond (Nat.beq f 72&&Nat.beq i 194) (some ⟨.bool (A1q l x),[],some (h=[(194,.blk (C0v l q))]/\n=l.length/\l.length<1000000)⟩) none
 |_,_,_=>none
def t60:List (Nat×CtE):=[(51,e51),(82,e82)]
def T60 (q:Nat):Tab:=A2t t60 (C9Y q)
def j60 (o:List Int):LpS Unit where
 ov _:=[(5,.ptr 130 0)]
 bk _:=[(130,.blk ⟨.ints .i64 (rkF o),1,8,none,some false,true,true⟩)]
 rd S:=some ()
 pre _:=True
 mu _:=0
def A1w (L:List (List Int)):List AV:=L.map (A10 .i64)
def unO:List AV->List (List Int)
 |.imm (.ints _ l) _ _::r=>l::unO r
 |_=>[]
def bkO (L:List (List Int)):Blk:=⟨.vals (A1w L),1,L.length,none,some true,true,false⟩
def kkM:MV:=⟨true,[some .i64,some .i64,some .i64,some .i64,some .i64,some .i64,some .i64,some .i64]⟩
def vkM:MV:=⟨false,[none]⟩
def C1W (L:List (List Int)):List (List Int×List Int×Nat)×Nat:=L.foldl (fun s l=>(mput s.1 (rkL l) [1] s.2,mck s.1 (rkL l) s.2)) ([],0)
def fnE (L:List (List Int)):List (List Int×List Int×Nat):=(C1W L).1
def fnK (L:List (List Int)):Nat:=(C1W L).2
def cwB (n:Nat)(r k o:List Int):Bool:=A4y n r (rkL o)||A7h k (rkL o)
def A1E (n:Nat)(r k:List Int):Nat->List Int->List (List Int)
 |0,o=>cond (cwB n r k o) [] [A0I r o]
 |f+1,o=>cond (cwB n r k o) [] ((List.range (o.length+1)).flatMap fun i=>A1E n r k f (A2u o i (o.length:Int)))
def B5f (L:List (List Int))(l:List Int):List (List Int):=cond (L.contains l) L (L++[l])
def A05 (n:Nat)(r k:List Int)(L:List (List Int))(o:List Int):List (List Int):=(A1E n r k (n-o.length) o).foldl B5f L
def B9j (n:Nat)(r k:List Int)(L:List (List Int))(o:List Int)(m:Nat):List (List Int):=((List.range m).flatMap fun i=>A1E n r k (n-(o.length+1)) (A2u o i (o.length:Int))).foldl B5f L
def C0w (x:List Int):List (List Int)->List (List Int)
 |[]=>[x]
 |y::r=>cond (ltb (A2l x y) 0) (x::y::r) (y::C0w x r)
def B8j:List (List Int)->List (List Int)
 |[]=>[]
 |x::r=>C0w x (B8j r)
def A2s (n:Nat)(r k:List Int):List (List Int):=B8j (A05 n r k [] [])
def hpM (L:List (List Int)):HO:=.blk ⟨.maps kkM vkM (fnE L) (fnK L),1,0,none,some false,true,true⟩
def hpB (L:List (List Int)):HO:=.blk ⟨.cells [.full 9700 L.length],1,1,none,some false,true,true⟩
def hpG (a k r:List Int)(L:List (List Int)):List (Nat×HO):=
 [(9700,.blk (bkO L)),(192,hpB L),(128,hpM L),(129,.blk ⟨.cells [.mp 128],1,1,none,some false,true,true⟩),(256,.blk ⟨.cells [.fn 58 [] [.ptr 64 0,.ptr 256 0,.ptr 129 0,.ptr 192 0]],1,1,none,some false,true,true⟩),
  (64,.blk ⟨.cells [.imm (.ints .i64 a) a.length none,.imm (.ints .u8 k) k.length none,.imm (.ints .i64 r) r.length none],3,1,none,some false,true,true⟩)]
def wsG (L:List (List Int)):List (Nat×HO):=[(128,hpM L),(192,hpB L),(9700,.blk (bkO L))]
def okN (a k r:List Int):Prop:=a.length<=8/\k.length=a.length/\r.length=a.length+1
def okL (a:List Int)(L:List (List Int)):Prop:=L.Nodup/\∀l∈L,l.Perm (((List.range a.length).map fun(i:Nat)=>(i:Int)))
def okG (o:List Int):Prop:=o.Perm ((List.range o.length).map fun(i:Nat)=>(i:Int))
def chG (a k r:List Int)(q:Nat)(h:List (Nat×HO))(cv:AV)(args:List AV):Option Cx:=
 match cv,args with
 |.fn f [] [],[.full i n,.int .i64 p,.full j m]=>match aget h i,aget h j with
  |some (.blk ⟨.ints _ o,_,_,_,_,_,_⟩),some (.blk ⟨.ints _ [x],_,_,_,_,_,_⟩)=>cond (Nat.beq f 59&&(Nat.beq i 32896&&Nat.beq j 517)) (some ⟨.imm (.ints .i64 (A2u o p.toNat x)) (A2u o p.toNat x).length none,[(32896,.blk ⟨.ints .i64 (A2u o p.toNat x),1,(A2u o p.toNat x).length,none,some false,false,false⟩)],
    some (h=[(517,.blk ⟨.ints .i64 [x],1,1,some 1,some false,true,false⟩),(32896,.blk ⟨.ints .i64 o,1,o.length,none,some false,true,false⟩)]/\n=o.length/\m=1/\0<o.length/\o.length<1000000/\0<=p/\p<=o.length)⟩) none
  |_,_=>none
 |.fn f [] [],[.nils,.int .i64 p,.full j m]=>match aget h j with
  |some (.blk ⟨.ints _ [x],_,_,_,_,_,_⟩)=>cond (Nat.beq f 59&&Nat.beq j 517) (some ⟨.imm (.ints .i64 [x]) 1 none,[],some (h=[(517,.blk ⟨.ints .i64 [x],1,1,some 1,some false,true,false⟩)]/\m=1/\p=0)⟩) none
  |_=>none
 |.fn f [] [],[.imm (.ints .i64 o) m _,.ptr c 0,.ptr g 0,.ptr u 0,.ptr v 0]=>match aget h 9700 with
  |some (.blk ⟨.vals vs,_,_,_,_,_,_⟩)=>cond (Nat.beq f 58&&(Nat.beq c 64&&(Nat.beq g 256&&(Nat.beq u 129&&Nat.beq v 192)))) (some ⟨.tup [],wsG (A05 a.length r k (unO vs) o),some (h=hpG a k r (unO vs)/\m=o.length/\o.length=q/\q<=a.length/\0<q/\okG o/\okL a (unO vs))⟩) none
  |_=>none
 |_,_=>none
def B2u:CtE
 |[.nils]=>some ⟨.nils,[],none⟩
 |_=>none
def tG:List (Nat×CtE):=[(51,e51),(52,e52),(53,e53),(60,e60),(41,A4u .i64)]
def TG (a k r:List Int)(q:Nat):Tab:=A2t tG (chG a k r q)
def C8u:CtE
 |[.nils]=>some ⟨rkV [],[],none⟩
 |args=>e51 args
def D4H:Tab:=A2t [(51,C8u)] A3E
def tGn:List (Nat×CtE):=[(51,C8u),(52,e52),(53,e53),(60,C9X),(41,B2u)]
def TGn (a k r:List Int):Tab:=A2t tGn (chG a k r 1)
structure L58 where (i:Int)(L:List (List Int))
def l58 (a k r o:List Int)(L:List (List Int)):LpS L58 where
 ov b:=[(30,.int .i64 b.i)]
 bk b:=[(128,hpM b.L),(192,hpB b.L),(9700,.blk (bkO b.L))]
 rd S:=match aget S.t 30,aget S.h 9700 with
  |some (.int _ i),some (.blk ⟨.vals vs,_,_,_,_,_,_⟩)=>some ⟨i,unO vs⟩
  |_,_=>none
 pre b:=∃m:Nat,b.i=m/\m<=o.length+1/\b.L=B9j a.length r k L o m/\okL a b.L
 mu b:=o.length+1-b.i.toNat
def chW (a k r:List Int)(h:List (Nat×HO))(cv:AV)(args:List AV):Option Cx:=
 match cv,args,aget h 9700 with
 |.fn f [] [],[.nils,.ptr c 0,.ptr g 0,.ptr u 0,.ptr v 0],some (.blk ⟨.vals vs,_,_,_,_,_,_⟩)=>cond (Nat.beq f 58&&(Nat.beq c 64&&(Nat.beq g 256&&(Nat.beq u 129&&Nat.beq v 192)))) (some ⟨.tup [],wsG (A05 a.length r k [] []),some (h=hpG a k r []/\okN a k r)⟩) none
 |.fn f [] [],[.full i n,.fn g [] []],some (.blk ⟨.vals vs,_,_,_,_,_,_⟩)=>cond (Nat.beq f 61&&(Nat.beq i 9700&&Nat.beq g 62)) (some ⟨.tup [],[(9700,.blk ⟨.vals (A1w (B8j (unO vs))),1,(unO vs).length,none,some true,true,false⟩)],some (h=[(9700,.blk (bkO (unO vs)))]/\n=(unO vs).length/\okL a (unO vs))⟩) none
 |_,_,_=>none
def TW (a k r:List Int):Tab:=A2t [] (chW a k r)
def j38:LpS Unit where
 ov _:=[]
 bk _:=[(256,.blk ⟨.cells [.fn 58 [] [.ptr 64 0,.ptr 256 0,.ptr 129 0,.ptr 192 0]],1,1,none,some false,true,true⟩),(9700,.blk (bkO []))]
 rd S:=some ()
 pre _:=True
 mu _:=0
def C9Z:CtE
 |[.agg [.imm (.ints .i64 a) n _,.imm (.ints .u8 k) m _,.imm (.ints .i64 r) p _]]=>some ⟨.imm (.vals (A1w (A2s n r k))) (A2s n r k).length none,[],some (cok a k r n m p/\okN a k r)⟩
 |_=>none
def cwL (a k:List Int):List (List Int):=cond (A0l a k) (A2s a.length (A0b a) k) []
def tC:List (Nat×CtE):=[(37,C38),(38,C9Z)]
def TC:Tab:=A2t tC A3E
def A39 (a k:List Int):Int:=if ofE a k=14 then 0 else ofE a k
def C1X:CtE
 |[.agg [.imm (.ints .i64 a) n _,.imm (.ints .u8 k) m _]]=>some ⟨.tup [.int .i64 ((cwL a k).length:Nat),.int .i64 (A39 a k)],[],some (n=a.length/\m=k.length/\a.length<1000000)⟩
 |_=>none
def B3V (a k:List Int):Int:=if ofE a k=0\/ofE a k=14 then(if cwL a k=[]then 7 else 0)else ofE a k
def A4e (a k:List Int):List Int:=(cwL a k)[0]?.getD []
def C8v:CtE
 |[.agg [.imm (.ints .i64 a) n _,.imm (.ints .u8 k) m _]]=>some ⟨.tup [A10 .i64 (A4e a k),.int .i64 (B3V a k)],[],some (n=a.length/\m=k.length/\a.length<1000000)⟩
 |_=>none
end Go.Proofs.YthiammkiobbclaaGreatDoor.X
