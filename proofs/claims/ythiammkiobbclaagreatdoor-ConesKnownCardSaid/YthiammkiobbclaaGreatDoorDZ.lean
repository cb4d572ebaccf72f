/-
 What the functions on fans and their reductions compute.
-/
import Derived.Test.YthiammkiobbclaaGreatDoorXpZ
import GoSem.PinnedTables
set_option maxRecDepth 1000000
set_option linter.unusedVariables false
namespace Go.Proofs.YthiammkiobbclaaGreatDoor.X
open Go Go.Ab
def gl:Nat->Option Cont
 |1=>some (.ints .u8 (Pinned.utf8FirstZ.map Int.ofNat))
 |2=>some (.ints .u8 [128,191,160,191,128,159,144,191,128,143,0,0,0,0,0,0,0,0,0,0,0,0,0,0,0,0,0,0,0,0,0,0])
 |_=>none
noncomputable def G:GL:={g:=gl,cm:=A2V Tryz.prog}
theorem hcm:G.cm=A2V Tryz.prog:=rfl
theorem hmx:Tryz.prog.follows .mixedOrders=true:=by kernel_rfl
def bI (b:Bool)(x y:Int):Int:=cond b x y
def A2W (a k:List Int):AV:=.agg [.imm (.ints .i64 a) a.length none,.imm (.ints .u8 k) k.length none]
def A4s:List Int->List Int->Int->Int
 |n::a,x::k,s=>if n<1\/8-s<n\/x<1\/3<x then 1 else A4s a k (s+n)
 |_,_,_=>0
def chk (a k:List Int):Int:=if a.length=k.length then A4s a k 0 else 5
structure L17 where (i s:Int)
def l17 (a k:List Int):LpS L17 where
 ov b:=[(16,.int .i64 b.i),(3,.int .i64 b.s)]
 bk b:=[]
 rd S:=match aget S.t 16,aget S.t 3 with
  |some (.int .i64 i),some (.int .i64 s)=>some ⟨i,s⟩
  |_,_=>none
 pre b:=∃n:Nat,b.i=n/\n<=a.length/\0<=b.s/\b.s<=8/\A4s a k 0=A4s (a.drop n) (k.drop n) b.s
 mu b:=a.length-b.i.toNat
def e17:CtE
 |[.agg [.imm (.ints .i64 a) n _,.imm (.ints .u8 k) m _]]=>some ⟨.int .i64 (chk a k),[],some (n=a.length/\m=k.length/\a.length<1000000000000)⟩
 |_=>none
def T0:Tab:=A2t [] A3E
theorem A3w:TabOk Tryz.prog G T0:=A0q A0C trivial
def A2X:Bool->List Int->Int
 |_,[]=>0
 |p,a::r=>(bif p then a else 0)+A2X (!p) r
def okA (a:List Int):Prop:=(∀x∈a,1<=x)/\a.sum<=8
structure FS where (last first:Int)(a k:List Int)
def C8n (c d:Int):Bool:=(c.fdiv (2 ^ min d.toNat IntKind.u8.bits)).tmod 2==0
def A9H (ks:List Int)(n:Nat):Int:=if n<ks.length then 1+(ks.getD n 0).tmod 3 else 1
def A9I (c:Int)(ks:List Int)(s:FS)(d:Nat):FS:=
 if C8n c d then s else if 0<=s.last then⟨d,s.first,s.a++[d-s.last],s.k++[A9H ks s.k.length]⟩else⟨d,d,s.a,s.k++[A9H ks s.k.length]⟩
def A1k (c:Int)(ks:List Int)(n:Nat):FS:=(List.range n).foldl (A9I c ks) ⟨-1,-1,[],[]⟩
def A01 (s:FS):List Int:=if 0<=s.first then s.a++[s.first+8-s.last]else s.a
def A2z (l:Int):Nat->List Int->List Int
 |_,[]=>[]
 |i,x::r=>(if(l.fdiv (2 ^ min i IntKind.u8.bits)).tmod 2=1/\1<x then x-1 else x)::A2z l (i+1) r
def ofA (c l:Int)(ks:List Int):List Int:=A2z l 0 (A01 (A1k c ks 8))
def ofK (c:Int)(ks:List Int):List Int:=(A1k c ks 8).k
structure L25 where (d last first:Int)(a k:List Int)
def B8i (a:List Int):Blk:=B84 .i64 a
def C35 (a:List Int):Blk:=B84 .u8 a
def C9E (k a:List Int):List (Nat×HO):=[(128,.blk ⟨.cells [.full 9001 a.length,.full 9002 k.length],2,1,none,some false,true,true⟩)]
def l25 (c:Int)(ks:List Int):LpS L25 where
 ov b:=[(6,.int .i64 b.d),(4,.int .i64 b.last),(5,.int .i64 b.first)]
 bk b:=[(128,.blk ⟨.cells [.full 9001 b.a.length,.full 9002 b.k.length],2,1,none,some false,true,true⟩),(9001,.blk (B8i b.a)),(9002,.blk (C35 b.k))]
 rd S:=match aget S.t 6,aget S.t 4,aget S.t 5,aget S.h 9001,aget S.h 9002 with
  |some (.int _ d),some (.int _ la),some (.int _ fi),some (.blk ⟨.ints _ a,_,_,_,_,_,_⟩),some (.blk ⟨.ints _ k,_,_,_,_,_,_⟩)=>some ⟨d,la,fi,a,k⟩
  |_,_,_,_,_=>none
 pre b:=∃n:Nat,b.d=n/\n<=8/\FS.mk b.last b.first b.a b.k=A1k c ks n
 mu b:=8-b.d.toNat
structure M25 where (i:Int)(a:List Int)
def m25 (l:Int)(a:List Int)(k:List Int):LpS M25 where
 ov b:=[(8,.int .i64 b.i)]
 bk b:=[(128,.blk ⟨.cells [.full 9001 b.a.length,.full 9002 k.length],2,1,none,some false,true,true⟩),(9001,.blk (B8i b.a)),(9002,.blk (C35 k))]
 rd S:=match aget S.t 8,aget S.h 9001 with
  |some (.int _ d),some (.blk ⟨.ints _ a,_,_,_,_,_,_⟩)=>some ⟨d,a⟩
  |_,_=>none
 pre b:=∃n:Nat,b.i=n/\n<=a.length/\b.a=(A2z l 0 a).take n++a.drop n
 mu b:=a.length-b.i.toNat
def okK (ks:List Int):Prop:=∀x∈ks,0<=x/\x<=255
def e25:CtE
 |[.agg [.int .u8 c,.int .u8 l,.imm (.ints .u8 ks) n _]]=>some ⟨.agg [.full 0 (ofA c l ks).length,.full 1 (ofK c ks).length],[B8i (ofA c l ks),C35 (ofK c ks)],some (n=ks.length/\okK ks)⟩
 |_=>none
def fV (c l:Int)(ks:List Int):AV:=.agg [.int .u8 c,.int .u8 l,.imm (.ints .u8 ks) ks.length none]
def A2P (x:Int):List Int->Int->Int
 |[],_=> -1
 |y::r,i=>if x=y then i else A2P x r (i+1)
def A1q (l:List Int)(x:Int):Bool:=leb 0 (A2P x l 0)
structure L83 where (i:Int)
def l83 (k:List Int)(x:Int):LpS L83 where
 ov b:=[(8,.int .i64 b.i)]
 bk b:=[]
 rd S:=match aget S.t 8 with
  |some (.int _ i)=>some ⟨i⟩
  |_=>none
 pre b:=∃n:Nat,b.i=n/\n<=k.length/\A2P x (k.drop n) n=A2P x k 0
 mu b:=k.length-b.i.toNat
def C36 (k:IntKind):CtE
 |[.imm (.ints k1 a) n _,.int k2 x]=>cond (A3A k1 k&&A3A k2 k) (some ⟨.int .i64 (A2P x a 0),[],some (n=a.length/\a.length<1000000000000)⟩) none
 |_=>none
def C1Q (k:IntKind):CtE
 |[.imm (.ints k1 a) n _,.int k2 x]=>cond (A3A k1 k&&A3A k2 k) (some ⟨.bool (A1q a x),[],some (n=a.length/\a.length<1000000000000)⟩) none
 |_=>none
def eqB (a b:List Int):Bool:=decide (a=b)
structure L55 where (i:Int)
def l55 (a b:List Int)(t:Nat):LpS L55 where
 ov c:=[(t,.int .i64 c.i)]
 bk c:=[]
 rd S:=match aget S.t t with
  |some (.int _ i)=>some ⟨i⟩
  |_=>none
 pre c:=∃n:Nat,c.i=n/\n<=a.length/\eqB (a.drop n) (b.drop n)=eqB a b
 mu c:=a.length-c.i.toNat
def eEq (k:IntKind):CtE
 |[.imm (.ints k1 a) n _,.imm (.ints k2 b) m _]=>cond (A3A k1 k&&A3A k2 k) (some ⟨.bool (eqB a b),[],some (n=a.length/\m=b.length/\a.length<1000000000000)⟩) none
 |_=>none
def A9J (k:IntKind):CtE
 |[.imm (.ints k1 a) n _]=>cond (A3A k1 k) (some ⟨.imm (.ints k a) n (some n),[],some (n=a.length)⟩) none
 |_=>none
def e32:CtE
 |[.agg [.imm (.ints .i64 a) n _,.imm (.ints .u8 k) m _],.agg [.imm (.ints .i64 b) n' _,.imm (.ints .u8 j) m' _]]=>some ⟨.bool (eqB a b&&eqB k j),[],some (n=a.length/\m=k.length/\n'=b.length/\m'=j.length/\a.length<1000000000000/\k.length<1000000000000)⟩
 |_=>none
def e24:CtE
 |[.imm (.ints .i64 a) n (some c),.imm (.ints .i64 b) m _]=>some ⟨.bool (eqB a b),[],some (n=a.length/\m=b.length/\c=n/\a.length<1000000000000)⟩
 |_=>none
def e84:CtE
 |[.int .i64 i,.iptr (.vals [.int .i64 n])]=>some ⟨.int .i64 ((i+n).tmod n),[],some (0<n/\n<1000000000000/\ -1000000000000<i/\i<1000000000000)⟩
 |_=>none
def C9F (n:Int):Blk:=⟨.cells [.int .i64 n],1,1,none,some false,true,true⟩
def e63:CtE
 |[.int .i64 n]=>some ⟨.fn 106 [] [.ptr 0 0],[C9F n],none⟩
 |_=>none
def dcd (a k:List Int):Int:=if chk a k=0 then bI (A1q k 3) 1 0 else chk a k
def e37:CtE
 |[.agg [.imm (.ints .i64 a) n _,.imm (.ints .u8 k) m _]]=>some ⟨.int .i64 (dcd a k),[],some (n=a.length/\m=k.length/\a.length<1000000000000/\k.length<1000000000000)⟩
 |_=>none
def tlA:List (Nat×CtE):=[(30,e17),(105,C36 .u8),(90,C36 .i64),(44,eEq .i64),(45,eEq .u8),(40,A9J .i64),(67,A9J .u8),(106,e84),(87,e63),(10,e25)]
def TA:Tab:=A2t tlA A3E
def tlB:List (Nat×CtE):=(86,C1Q .u8)::(72,C1Q .i64)::(21,e32)::(18,e24)::tlA
def TB1:Tab:=A2t tlB A3E
abbrev rd (K:IntKind)(L:List Int)(X:Int)(p:Prop):Prop:=leb 0 X=true/\ltb X (↑(List.length L):Int)=true/\ltn 0 (Cont.size (Cont.ints K L))=true/\ltn 0 (Cont.size (Cont.ints K (List.drop (Int.toNat X) L)))=true/\p
abbrev rdw (K:IntKind)(L:List Int)(X:Int)(p:Prop):Prop:=leb 0 X=true/\ltb X (↑(List.length L):Int)=true/\ltn (Int.toNat X) (Cont.size (Cont.ints K L))=true/\p
abbrev qs (K:IntKind)(L:List Int)(p:Prop):Prop:=Cont.ints K L=Cont.ints K L/\List.length L=List.length L/\p
abbrev ql (L:List Int)(p:Prop):Prop:=(↑(List.length L):Int)=(↑(List.length L):Int)/\p
abbrev qx {α:Type}(x:α)(p:Prop):Prop:=x=x/\p
end Go.Proofs.YthiammkiobbclaaGreatDoor.X
