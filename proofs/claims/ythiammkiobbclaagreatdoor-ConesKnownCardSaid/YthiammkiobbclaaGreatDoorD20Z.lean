/-
 Cones: what the functions on a folded fan compute.
-/
import Derived.Test.YthiammkiobbclaaGreatDoorD4Z
set_option maxRecDepth 1000000
set_option linter.unusedVariables false
namespace Go.Proofs.YthiammkiobbclaaGreatDoor.X
open Go Go.Ab
def B5u (a k r:List Int):AV:=.agg [.imm (.ints .i64 a) a.length none,.imm (.ints .u8 k) k.length none,.imm (.ints .i64 r) r.length none]
def gR (r:List Int)(i:Int):Int:=r[i.toNat]?.getD 0
def mnI (x y:Int):Int:=if y<x then y else x
def mxI (x y:Int):Int:=if y>x then y else x
def bfI (n c:Int):Int:=(c+n-1).tmod n
def A5E (r:List Int)(ray s:Int):Bool:=ltb (mnI (gR r s) (gR r (s+1))) ray&&ltb ray (mxI (gR r s) (gR r (s+1)))
def ovlB (r:List Int)(a b:Int):Bool:=ltb (mxI (mnI (gR r a) (gR r (a+1))) (mnI (gR r b) (gR r (b+1)))) (mnI (mxI (gR r a) (gR r (a+1))) (mxI (gR r b) (gR r (b+1))))
def A42 (r:List Int)(c:Int):Bool:=ltb (gR r c) (gR r (c+1))
def A7g (n:Int)(rk:List Int)(c s:Int):Bool:=leb 0 (mnI (gR rk (bfI n c)) (gR rk c))&&(ltb (mnI (gR rk (bfI n c)) (gR rk c)) (gR rk s)&&ltb (gR rk s) (mxI (gR rk (bfI n c)) (gR rk c)))
def A9K (n:Int)(r rk:List Int)(i k:Int):Bool:=
 (A5E r (gR r i) k&&A7g n rk i k)||((k !=i)&&((gR r k==gR r i)&&((A42 r k==A42 r i)&&(leb 0 (mnI (gR rk (bfI n k)) (gR rk k))&&(A7g n rk i (bfI n k) !=A7g n rk i k)))))
def A5P (n:Nat)(f:Int->Bool):Bool:=(List.range n).any fun i=>f i
def A4y (n:Nat)(r rk:List Int):Bool:=A5P n fun i=>A5P n fun k=>A9K n r rk i k
def kdI (n:Int)(rk:List Int)(c:Int):Int:=
 if(bfI n c).tmod 2=0 then(if gR rk (bfI n c)<gR rk c then 2 else 1)else(if gR rk c<gR rk (bfI n c)then 2 else 1)
def B1O (k rk:List Int)(i:Int):Bool:=(gR k i !=3)&&(leb 0 (mnI (gR rk (bfI k.length i)) (gR rk i))&&(gR k i !=kdI k.length rk i))
def A7h (k rk:List Int):Bool:=A5P k.length fun i=>B1O k rk i
def rkA (rk:List Int)(i:Int):List Int->List Int
 |[]=>rk
 |x::r=>rkA (rk.set x.toNat i) (i+1) r
def rkF (o:List Int):List Int:=rkA (List.replicate 8 (-1)) 0 o
def rkO (o:List Int)(i:Int):Int:=gR (rkF o) i
def rkL (o:List Int):List Int:=[rkO o 0,rkO o 1,rkO o 2,rkO o 3,rkO o 4,rkO o 5,rkO o 6,rkO o 7]
def rkV (o:List Int):AV:=.agg [.int .i64 (rkO o 0),.int .i64 (rkO o 1),.int .i64 (rkO o 2),.int .i64 (rkO o 3),.int .i64 (rkO o 4),.int .i64 (rkO o 5),.int .i64 (rkO o 6),.int .i64 (rkO o 7)]
def r8V (x0 x1 x2 x3 x4 x5 x6 x7:Int):AV:=.agg [.int .i64 x0,.int .i64 x1,.int .i64 x2,.int .i64 x3,.int .i64 x4,.int .i64 x5,.int .i64 x6,.int .i64 x7]
def okO (o:List Int):Prop:=o.length<=8/\∀x∈o,0<=x/\x<8
def cok (a k r:List Int)(n m p:Nat):Prop:=n=a.length/\m=k.length/\p=r.length
def e73:CtE
 |[.agg [.imm (.ints .i64 a) n _,.imm (.ints .u8 k) m _,.imm (.ints .i64 r) p _],.int .i64 c]=>some ⟨.tup [.int .i64 (bfI n c),.int .i64 c],[],some (cok a k r n m p/\0<n/\n<=8/\0<=c/\c<n)⟩
 |_=>none
def e74:CtE
 |[.agg [.imm (.ints .i64 a) n _,.imm (.ints .u8 k) m _,.imm (.ints .i64 r) p _],.int .i64 y,.int .i64 s]=>some ⟨.bool (A5E r y s),[],some (cok a k r n m p/\0<=s/\s+1<p/\p<=9)⟩
 |_=>none
def e75:CtE
 |[.agg [.imm (.ints .i64 a) n _,.imm (.ints .u8 k) m _,.imm (.ints .i64 r) p _],.agg [.int .i64 x0,.int .i64 x1,.int .i64 x2,.int .i64 x3,.int .i64 x4,.int .i64 x5,.int .i64 x6,.int .i64 x7],.int .i64 c,.int .i64 s]=>
  some ⟨.bool (A7g n [x0,x1,x2,x3,x4,x5,x6,x7] c s),[],some (cok a k r n m p/\0<n/\n<=8/\0<=c/\c<n/\0<=s/\s<n)⟩
 |_=>none
def e76:CtE
 |[.agg [.imm (.ints .i64 a) n _,.imm (.ints .u8 k) m _,.imm (.ints .i64 r) p _],.int .i64 c]=>some ⟨.bool (A42 r c),[],some (cok a k r n m p/\0<=c/\c+1<p/\p<=9)⟩
 |_=>none
def e82:CtE
 |[.agg [.imm (.ints .i64 a) n _,.imm (.ints .u8 k) m _,.imm (.ints .i64 r) p _],.int .i64 c,.int .i64 d]=>some ⟨.bool (ovlB r c d),[],some (cok a k r n m p/\0<=c/\c+1<p/\0<=d/\d+1<p/\p<=9)⟩
 |_=>none
def e54:CtE
 |[.agg [.imm (.ints .i64 a) n _,.imm (.ints .u8 k) m _,.imm (.ints .i64 r) p _],.agg [.int .i64 x0,.int .i64 x1,.int .i64 x2,.int .i64 x3,.int .i64 x4,.int .i64 x5,.int .i64 x6,.int .i64 x7],.int .i64 c]=>
  some ⟨.int .u8 (kdI n [x0,x1,x2,x3,x4,x5,x6,x7] c),[],some (cok a k r n m p/\0<n/\n<=8/\0<=c/\c<n)⟩
 |_=>none
def tA1:List (Nat×CtE):=[(73,e73)]
def TA1:Tab:=A2t tA1 A3E
def e52:CtE
 |[.agg [.imm (.ints .i64 a) n _,.imm (.ints .u8 k) m _,.imm (.ints .i64 r) p _],.agg [.int .i64 x0,.int .i64 x1,.int .i64 x2,.int .i64 x3,.int .i64 x4,.int .i64 x5,.int .i64 x6,.int .i64 x7]]=>
  some ⟨.bool (A4y n r [x0,x1,x2,x3,x4,x5,x6,x7]),[],some (cok a k r n m p/\n<=8/\p=n+1)⟩
 |_=>none
def e53:CtE
 |[.agg [.imm (.ints .i64 a) n _,.imm (.ints .u8 k) m _,.imm (.ints .i64 r) p _],.agg [.int .i64 x0,.int .i64 x1,.int .i64 x2,.int .i64 x3,.int .i64 x4,.int .i64 x5,.int .i64 x6,.int .i64 x7]]=>
  some ⟨.bool (A7h k [x0,x1,x2,x3,x4,x5,x6,x7]),[],some (cok a k r n m p/\n<=8/\m=n)⟩
 |_=>none
def tA2:List (Nat×CtE):=(74,e74)::(75,e75)::(76,e76)::(82,e82)::(54,e54)::tA1
def TA2:Tab:=A2t tA2 A3E
def l52 (n:Nat)(r rk:List Int):LpS L83 where
 ov b:=[(13,.int .i64 b.i)]
 bk b:=[]
 rd S:=match aget S.t 13 with
  |some (.int _ i)=>some ⟨i⟩
  |_=>none
 pre b:=∃m:Nat,b.i=m/\m<=n/\∀j:Nat,j<m->A5P n (fun k=>A9K n r rk j k)=false
 mu b:=n-b.i.toNat
def m52 (n:Nat)(r rk:List Int)(i:Int):LpS L83 where
 ov b:=[(20,.int .i64 b.i)]
 bk b:=[]
 rd S:=match aget S.t 20 with
  |some (.int _ i)=>some ⟨i⟩
  |_=>none
 pre b:=∃m:Nat,b.i=m/\m<=n/\∀j:Nat,j<m->A9K n r rk i j=false
 mu b:=n-b.i.toNat
def l53 (k rk:List Int):LpS L83 where
 ov b:=[(13,.int .i64 b.i)]
 bk b:=[]
 rd S:=match aget S.t 13 with
  |some (.int _ i)=>some ⟨i⟩
  |_=>none
 pre b:=∃m:Nat,b.i=m/\m<=k.length/\∀j:Nat,j<m->B1O k rk j=false
 mu b:=k.length-b.i.toNat
def e51:CtE
 |[.imm (.ints .i64 o) n _]=>some ⟨rkV o,[],some (n=o.length/\okO o)⟩
 |_=>none
def D4C:CtE
 |[.nils]=>some ⟨rkV [],[],none⟩
 |_=>none
structure L51 where (i:Int)(rk:List Int)
def l51 (o:List Int):LpS L51 where
 ov b:=[(15,.int .i64 b.i)]
 bk b:=[(128,.blk ⟨.ints .i64 b.rk,1,8,none,some false,true,true⟩)]
 rd S:=match aget S.t 15,aget S.h 128 with
  |some (.int _ i),some (.blk ⟨.ints _ rk,_,_,_,_,_,_⟩)=>some ⟨i,rk⟩
  |_,_=>none
 pre b:=∃m:Nat,b.i=m/\m<=o.length/\b.rk.length=8/\rkA b.rk m (o.drop m)=rkF o
 mu b:=o.length-b.i.toNat
def A8p (a:List Int):Bool:= !((a.length:Int).tmod 2==1)&& !(A2X true a !=A2X false a)
def A0l (a k:List Int):Bool:=chk a k==0&&A8p a
def C9K:CtE
 |[.agg [.imm (.ints .i64 a) n _,.imm (.ints .u8 k) m _]]=>some ⟨.tup [.int .i64 (A2X true a),.int .i64 (A2X false a)],[],some (n=a.length/\m=k.length/\chk a k=0)⟩
 |_=>none
structure L79 where (i e o:Int)
def D5P (a:List Int):LpS L79 where
 ov b:=[(9,.int .i64 b.i),(2,.int .i64 b.e),(3,.int .i64 b.o)]
 bk b:=[]
 rd S:=match aget S.t 9,aget S.t 2,aget S.t 3 with
  |some (.int _ i),some (.int _ e),some (.int _ o)=>some ⟨i,e,o⟩
  |_,_,_=>none
 pre b:=∃m:Nat,b.i=m/\m<=a.length/\b.e=A2X true (a.take m)/\b.o=A2X false (a.take m)
 mu b:=a.length-b.i.toNat
def C9L:CtE
 |[.agg [.imm (.ints .i64 a) n _,.imm (.ints .u8 k) m _]]=>some ⟨.bool ((n:Int).tmod 2==1),[],some (n=a.length/\m=k.length)⟩
 |_=>none
def C9M:CtE
 |[.agg [.imm (.ints .i64 a) n _,.imm (.ints .u8 k) m _]]=>some ⟨.bool (A2X true a !=A2X false a),[],some (n=a.length/\m=k.length/\chk a k=0)⟩
 |_=>none
def C9N:CtE
 |[.agg [.imm (.ints .i64 a) n _,.imm (.ints .u8 k) m _]]=>some ⟨.tup [.bool (A0l a k),.int .i64 (chk a k)],[],some (n=a.length/\m=k.length/\a.length<1000000)⟩
 |_=>none
def C47:CtE
 |[.agg [.imm (.ints .i64 a) n _,.imm (.ints .u8 k) m _]]=>some ⟨.bool (A0l a k),[],some (n=a.length/\m=k.length/\a.length<1000000)⟩
 |_=>none
def tB1:List (Nat×CtE):=[(79,C9K)]
def D4D:Tab:=A2t tB1 A3E
def tB2:List (Nat×CtE):=[(30,e17),(56,C9L),(57,C9M)]
def TB2:Tab:=A2t tB2 A3E
def tB3:List (Nat×CtE):=[(34,C9N)]
def TB3:Tab:=A2t tB3 A3E
def A8q (x:Int):Bool->List Int->List Int
 |_,[]=>[x]
 |p,a::r=>x::A8q (bif p then x+a else x-a) (!p) r
def A0b (a:List Int):List Int:=A8q 0 true a
def ofE (a k:List Int):Int:=if chk a k=0 then(if A8p a=true then 0 else 14)else chk a k
def C8q (a k:List Int):AV:=.agg [A3X .i64 (bLs (A0l a k) a),A3X .u8 (bLs (A0l a k) k),A3X .i64 (bLs (A0l a k) (A0b a))]
def C38:CtE
 |[.agg [.imm (.ints .i64 a) n _,.imm (.ints .u8 k) m _]]=>some ⟨.tup [C8q a k,.int .i64 (ofE a k)],[],some (n=a.length/\m=k.length/\a.length<1000000)⟩
 |_=>none
structure L37 where (i:Int)(r:List Int)
def D5Q (a:List Int)(fv:List AV):LpS L37 where
 ov b:=[(29,.int .i64 b.i)]
 bk b:=[(451,.blk ⟨.cells (fv++[.full 449 b.r.length]),3,1,none,some false,true,true⟩),(449,.blk ⟨.ints .i64 b.r,1,b.r.length,none,some false,true,false⟩)]
 rd S:=match aget S.t 29,aget S.h 449 with
  |some (.int _ i),some (.blk ⟨.ints _ r,_,_,_,_,_,_⟩)=>some ⟨i,r⟩
  |_,_=>none
 pre b:=∃m:Nat,b.i=m/\m<=a.length/\b.r=(A0b a).take (m+1)
 mu b:=a.length-b.i.toNat
def tB4:List (Nat×CtE):=[(37,C38),(40,A9J .i64)]
def TB4:Tab:=A2t tB4 A3E
def C8r:CtE
 |[.agg [.imm (.ints .i64 a) n _,.imm (.ints .u8 k) m _]]=>some ⟨.tup [A10 .i64 (bLs (A0l a k) ((A0b a).take a.length)),.int .i64 (ofE a k)],[],some (n=a.length/\m=k.length/\a.length<1000000)⟩
 |_=>none
def C8s (o:List Int)(n:Nat):Bool:=(List.range n).all fun(i:Nat)=>A1q o (i:Int)
def A4v (a k o:List Int):Int:=if ofE a k=0 then(if o.length=a.length then(if C8s o o.length=true then 0 else 1)else 5)else ofE a k
def C9O:CtE
 |[.agg [.imm (.ints .i64 a) n _,.imm (.ints .u8 k) m _],.imm (.ints .i64 o) p _]=>some ⟨.tup [C8q a k,.int .i64 (A4v a k o)],[],some (n=a.length/\m=k.length/\a.length<1000000/\p=o.length/\o.length<1000000)⟩
 |_=>none
def D5R (o:List Int):LpS L83 where
 ov b:=[(29,.int .i64 b.i)]
 bk b:=[]
 rd S:=match aget S.t 29 with
  |some (.int _ i)=>some ⟨i⟩
  |_=>none
 pre b:=∃m:Nat,b.i=m/\m<=o.length/\∀j:Nat,j<m->A1q o j=true
 mu b:=o.length-b.i.toNat
def tB5:List (Nat×CtE):=[(37,C38),(72,C1Q .i64)]
def TB5:Tab:=A2t tB5 A3E
def A3n (a k o:List Int):Int:=if A4v a k o=0 then(if A4y a.length (A0b a) (rkL o)=true then 12 else if A7h k (rkL o)=true then 13 else 0)else A4v a k o
def C48:CtE
 |[.agg [.imm (.ints .i64 a) n _,.imm (.ints .u8 k) m _],.imm (.ints .i64 o) p _]=>some ⟨.int .i64 (A3n a k o),[],some (n=a.length/\m=k.length/\a.length<1000000/\p=o.length/\o.length<1000000)⟩
 |_=>none
def tB6:List (Nat×CtE):=[(50,C9O),(51,e51),(52,e52),(53,e53)]
def TB6:Tab:=A2t tB6 A3E
def kdL (a o:List Int):List Int:=(List.range a.length).map fun(i:Nat)=>kdI a.length (rkL o) (i:Int)
def A1e (a k o:List Int):Bool:=A3n a k o==0||A3n a k o==13
def B1j (a k o:List Int):Int:=if A3n a k o=13 then 0 else A3n a k o
def C9P:CtE
 |[.agg [.imm (.ints .i64 a) n _,.imm (.ints .u8 k) m _],.imm (.ints .i64 o) p _]=>some ⟨.tup [.agg [A10 .i64 (bLs (A1e a k o) a),A10 .u8 (bLs (A1e a k o) (kdL a o))],.int .i64 (B1j a k o)],[],some (n=a.length/\m=k.length/\a.length<1000000/\p=o.length/\o.length<1000000)⟩
 |_=>none
def A9L (k:IntKind):CtE
 |[.imm (.ints k1 a) n _]=>cond (A3A k1 k) (some ⟨A3X k a,[],some (n=a.length/\a.length<1000000)⟩) none
 |_=>none
def tB7:List (Nat×CtE):=[(27,C48),(37,C38),(41,A9L .i64),(40,A9J .i64),(51,e51),(54,e54)]
def TB7:Tab:=A2t tB7 A3E
structure L29 where (i:Int)(k:List Int)
def D4E (a o k0:List Int)(v0:AV):LpS L29 where
 ov b:=[(39,.int .i64 b.i)]
 bk b:=[(391,.blk ⟨.ints .u8 b.k,1,k0.length,some k0.length,some false,true,false⟩)]
 rd S:=match aget S.t 39,aget S.h 391 with
  |some (.int _ i),some (.blk ⟨.ints _ k,_,_,_,_,_,_⟩)=>some ⟨i,k⟩
  |_,_=>none
 pre b:=∃m:Nat,b.i=m/\m<=k0.length/\b.k=(kdL a o).take m++List.replicate (k0.length-m) 0
 mu b:=k0.length-b.i.toNat
def skG (r:List Int)(g:Bool)(y k:Int):Bool:=
 bif g then(ltb y (mnI (gR r k) (gR r (k+1)))||leb (mxI (gR r k) (gR r (k+1))) y)else(leb y (mnI (gR r k) (gR r (k+1)))||ltb (mxI (gR r k) (gR r (k+1))) y)
def crI (n:Int)(r:List Int)(y k:Int):Int:=if gR r (k+1)=y then(k+1).tmod n else(if gR r k=y then k else -1)
def A5Q (S:List Int)(c:Int):Bool:=ltb 0 (S.length:Int)&&gR S ((S.length:Int)-1)==c
def B9h (sk:Int->Bool)(cr:Int->Int):List Int->List Int->Bool
 |_,[]=>true
 |S,k::o=>bif sk k then B9h sk cr S o else bif ltb (cr k) 0 then(bif ltb 0 (S.length:Int)then false else B9h sk cr S o)
   else bif A5Q S (cr k)then B9h sk cr S.dropLast o else bif A1q S (cr k)then false else B9h sk cr (S++[cr k]) o
def A5F (n:Nat)(r o:List Int)(y:Int)(g:Bool):Bool:=B9h (skG r g y) (crI n r y) [] o
def B3U (n:Nat)(r:List Int)(y:Int)(g:Bool)(S o:List Int):Bool:=B9h (skG r g y) (crI n r y) S o
def B1P (n:Nat)(r o:List Int)(i:Int):Bool:= !A5F n r o (gR r i) true|| !A5F n r o (gR r i) false
def odI (n i:Int):Int:=if i.tmod 2=0 then bfI n i else i
def evI (n i:Int):Int:=if i.tmod 2=0 then i else bfI n i
def B5v (n:Nat)(k p:List Int)(i:Int):Bool:=(gR k i==2&&ltb (gR p (odI n i)) (gR p (evI n i)))||(gR k i==1&&ltb (gR p (evI n i)) (gR p (odI n i)))
def A4X (o:List Int):List Int:=rkA (List.replicate o.length 0) 0 o
def A3d (a k o:List Int):Int:=if A5P a.length (B1P a.length (A0b a) o)=true then 12 else if A5P a.length (B5v a.length k (A4X o))=true then 13 else 0
def jP (p:Prop):LpS Unit where
 ov _:=[]
 bk _:=[]
 rd S:=some ()
 pre _:=p
 mu _:=0
def C39:CtE
 |[.agg [.imm (.ints .i64 a) n _,.imm (.ints .u8 k) m _]]=>some ⟨A3X .i64 (A0b a),[],some (n=a.length/\m=k.length/\okA a)⟩
 |_=>none
def D4F (r:List Int):List (Nat×HO):=[(128,.blk ⟨.ints .i64 r,1,r.length,none,some false,true,false⟩)]
def j28:LpS Unit where
 ov _:=[(3,.full 128 1)]
 bk _:=D4F [0]
 rd S:=some ()
 pre _:=True
 mu _:=0
structure L28 where (i:Int)(r:List Int)
def l28 (a:List Int):LpS L28 where
 ov b:=[(4,.int .i64 b.i),(3,.full 128 b.r.length)]
 bk b:=D4F b.r
 rd S:=match aget S.t 4,aget S.h 128 with
  |some (.int _ i),some (.blk ⟨.ints _ r,_,_,_,_,_,_⟩)=>some ⟨i,r⟩
  |_,_=>none
 pre b:=∃m:Nat,b.i=m/\m<=a.length/\b.r=(A0b a).take (m+1)
 mu b:=a.length-b.i.toNat
def C9Q:CtE
 |[.agg [.imm (.ints .i64 a) n _,.imm (.ints .u8 k) m _],.imm (.ints .i64 o) p _,.int .i64 y,.bool g]=>
  some ⟨.bool (A5F a.length (A0b a) o y g),[],some (n=a.length/\m=k.length/\p=o.length/\okA a/\o.length<1000000/\∀x∈o,0<=x/\x<a.length)⟩
 |_=>none
def t35:List (Nat×CtE):=[(28,C39)]
def T35:Tab:=A2t t35 A3E
structure L35 where (i:Int)(c:List Int)(n l:Nat)
def D4G (c:List Int)(n:Nat):List (Nat×HO):=[(9800,.blk ⟨.ints .i64 c,1,n,none,some true,true,false⟩)]
def j35:LpS Unit where
 ov _:=[(11,.vw 9800 0 1 0 0),(12,.int .i64 0)]
 bk _:=D4G [] 0
 rd S:=some ()
 pre _:=True
 mu _:=0
def k35 (n l:Nat)(p:Prop):LpS Unit where
 ov _:=[(11,.vw 9800 n 1 0 l)]
 bk _:=[]
 rd S:=some ()
 pre _:=p
 mu _:=0
def l35 (a o:List Int)(y:Int)(g:Bool):LpS L35 where
 ov b:=[(12,.int .i64 b.i),(11,.vw 9800 b.n 1 0 b.l)]
 bk b:=D4G b.c b.n
 rd S:=match aget S.t 12,aget S.t 11,aget S.h 9800 with
  |some (.int _ i),some (.vw _ n _ _ l),some (.blk ⟨.ints _ c,_,_,_,_,_,_⟩)=>some ⟨i,c,n,l⟩
  |_,_,_=>none
 pre b:=∃m:Nat,b.i=m/\m<=o.length/\b.n=b.c.length/\b.l<=b.n/\b.l<=m/\B3U a.length (A0b a) y g (b.c.take b.l) (o.drop m)=A5F a.length (A0b a) o y g
 mu b:=o.length-b.i.toNat
def m35 (c:List Int)(l:Nat)(x:Int):LpS L83 where
 ov b:=[(17,.int .i64 b.i)]
 bk b:=[]
 rd S:=match aget S.t 17 with
  |some (.int _ i)=>some ⟨i⟩
  |_=>none
 pre b:=∃m:Nat,b.i=m/\m<=l/\∀j:Nat,j<m->gR (c.take l) j≠x
 mu b:=l-b.i.toNat
def C49:CtE
 |[.agg [.imm (.ints .i64 a) n _,.imm (.ints .u8 k) m _],.imm (.ints .i64 o) p _]=>
  some ⟨.int .i64 (A3d a k o),[],some (n=a.length/\m=k.length/\p=o.length/\okA a/\a.length=k.length/\o.Perm ((List.range a.length).map fun(i:Nat)=>(i:Int)))⟩
 |_=>none
def t14:List (Nat×CtE):=[(28,C39),(35,C9Q)]
def T14:Tab:=A2t t14 A3E
def l14 (a o:List Int):LpS L83 where
 ov b:=[(7,.int .i64 b.i)]
 bk b:=[]
 rd S:=match aget S.t 7 with
  |some (.int _ i)=>some ⟨i⟩
  |_=>none
 pre b:=∃m:Nat,b.i=m/\m<=a.length/\∀j:Nat,j<m->B1P a.length (A0b a) o j=false
 mu b:=a.length-b.i.toNat
structure L14 where (i:Int)(p:List Int)
def m14 (o:List Int)(n:Nat):LpS L14 where
 ov b:=[(9,.int .i64 b.i)]
 bk b:=[(577,.blk ⟨.ints .i64 b.p,1,n,some n,some false,true,false⟩)]
 rd S:=match aget S.t 9,aget S.h 577 with
  |some (.int _ i),some (.blk ⟨.ints _ p,_,_,_,_,_,_⟩)=>some ⟨i,p⟩
  |_,_=>none
 pre b:=∃m:Nat,b.i=m/\m<=o.length/\b.p.length=n/\rkA b.p m (o.drop m)=A4X o
 mu b:=o.length-b.i.toNat
def n14 (a k p:List Int):LpS L83 where
 ov b:=[(10,.int .i64 b.i)]
 bk b:=[]
 rd S:=match aget S.t 10 with
  |some (.int _ i)=>some ⟨i⟩
  |_=>none
 pre b:=∃m:Nat,b.i=m/\m<=a.length/\∀j:Nat,j<m->B5v a.length k p j=false
 mu b:=a.length-b.i.toNat
def j14 (x y:Int):LpS Unit where
 ov _:=[(11,.int .i64 x),(12,.int .i64 y)]
 bk _:=[]
 rd S:=some ()
 pre _:=True
 mu _:=0
def pkX (x:List Int)(i:Int)(n:Int):Int:=if i<x.length then(gR x i).tmod n else 0
def C1U (l:List Int)(k:Int):List Int:=l.take k.toNat++l.drop (k+1).toNat
def oxR (x:List Int):Nat->Int->List Int->List Int
 |0,_,_=>[]
 |f+1,i,l=>gR l (pkX x i l.length)::oxR x f (i+1) (C1U l (pkX x i l.length))
def idN (n:Nat):List Int:=(List.range n).map fun(i:Nat)=>(i:Int)
def oxL (x:List Int)(n:Nat):List Int:=oxR x n 0 (idN n)
def C8t:CtE
 |[.imm (.ints .u8 x) p _,.int .i64 n]=>some ⟨A3X .i64 (oxL x n.toNat),[],some (p=x.length/\(∀y∈x,0<=y/\y<256)/\0<=n/\n<1000000)⟩
 |_=>none
structure LX where (i:Int)(l:List Int)
def D5S (n:Int):LpS LX where
 ov b:=[(7,.int .i64 b.i),(5,.full 9801 b.l.length)]
 bk b:=[(9801,.blk (B8i b.l))]
 rd S:=match aget S.t 7,aget S.h 9801 with
  |some (.int _ i),some (.blk ⟨.ints _ l,_,_,_,_,_,_⟩)=>some ⟨i,l⟩
  |_,_=>none
 pre b:=∃m:Nat,b.i=m/\m<=n.toNat/\b.l=idN m
 mu b:=n.toNat-b.i.toNat
structure LY where (i:Int)(l p:List Int)
def D5T (x:List Int)(n:Int):LpS LY where
 ov b:=[(8,.int .i64 b.i),(5,.imm (.ints .i64 b.l) b.l.length none),(6,.full 9802 b.p.length)]
 bk b:=[(9802,.blk (B8i b.p))]
 rd S:=match aget S.t 8,aget S.t 5,aget S.h 9802 with
  |some (.int _ i),some (.imm (.ints _ l) _ _),some (.blk ⟨.ints _ p,_,_,_,_,_,_⟩)=>some ⟨i,l,p⟩
  |_,_,_=>none
 pre b:=∃m:Nat,b.i=m/\m<=n.toNat/\b.l.length=n.toNat-m/\b.p.length=m/\b.p++oxR x (n.toNat-m) m b.l=oxL x n.toNat
 mu b:=n.toNat-b.i.toNat
def e11:CtE
 |[]=>some ⟨.bool true,[],none⟩
 |_=>none
def tx8:List UInt8:=[97,49,32,97,49,32,97,49,32,97,49,32,97,49,32,97,49,32,97,49,32,97,49]
def tx6:List UInt8:=[97,49,32,97,49,32,97,49,32,97,49,32,97,49,32,97,49]
def C9R:CtE
 |[.str s]=>cond (Nat.beq s.length 23) (some ⟨.agg [.fullc 1 8 8,.fullc 0 8 8],[⟨Cont.ints IntKind.u8 [3,3,3,3,3,3,3,3],1,8,none,some true,true,false⟩,⟨Cont.ints IntKind.i64 [1,1,1,1,1,1,1,1],1,8,none,some true,true,false⟩],some (s=tx8)⟩) (some ⟨.agg [.fullc 1 6 6,.fullc 0 6 6],[⟨Cont.ints IntKind.u8 [3,3,3,3,3,3],1,6,none,some true,true,false⟩,⟨Cont.ints IntKind.i64 [1,1,1,1,1,1],1,6,none,some true,true,false⟩],some (s=tx6)⟩)
 |_=>none
def C9S:CtE
 |[.agg [.imm (.ints .i64 a) n _,.imm (.ints .u8 k) m _]]=>cond (Nat.beq n 8) (some ⟨.tup [.int .i64 336,.int .i64 0],[],some (a=[1,1,1,1,1,1,1,1]/\k=[3,3,3,3,3,3,3,3]/\n=8/\m=8)⟩) (some ⟨.tup [.int .i64 48,.int .i64 0],[],some (a=[1,1,1,1,1,1]/\k=[3,3,3,3,3,3]/\n=6/\m=6)⟩)
 |_=>none
def okY (ys:List Int):Prop:=∀y∈ys,0<=y/\y<256
def C5a:CtE
 |[.agg [.int .u8 c,.int .u8 l,.imm (.ints .u8 ks) n _]]=>some ⟨.bool true,[],some (n=ks.length/\okK ks)⟩
 |_=>none
def B9i:CtE
 |[.agg [.int .u8 c,.int .u8 l,.imm (.ints .u8 ks) n _],.imm (.ints .u8 ys) m _]=>some ⟨.bool true,[],some (n=ks.length/\okK ks/\m=ys.length/\okY ys)⟩
 |_=>none
def C1V:CtE
 |[.agg [.int .u8 c,.int .u8 l,.imm (.ints .u8 ks) n _],.int .u8 y]=>some ⟨.bool true,[],some (n=ks.length/\okK ks/\0<=y/\y<=255)⟩
 |_=>none
def t9:List (Nat×CtE):=[(32,C9R),(16,C9S),(6,B9i),(3,C5a),(33,C5a),(4,C5a),(7,B9i),(5,C1V),(11,e11)]
def T9:Tab:=A2t t9 A3E
structure L9 where (k n:Int)
def l9:LpS L9 where
 ov b:=[(5,.int .i64 b.k),(6,.int .i64 b.n)]
 bk b:=[]
 rd S:=match aget S.t 5,aget S.t 6 with
  |some (.int _ k),some (.int _ n)=>some ⟨k,n⟩
  |_,_=>none
 pre b:=∃m:Nat,b.n=m/\m<=40/\0<=b.k/\b.k<=100003
 mu b:=40-b.n.toNat
end Go.Proofs.YthiammkiobbclaaGreatDoor.X
