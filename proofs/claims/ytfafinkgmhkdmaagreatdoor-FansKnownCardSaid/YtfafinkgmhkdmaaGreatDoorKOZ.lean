/-
 What the functions on fans compute: fans turned, mirrored, turned over.
-/
import Derived.Test.YtfafinkgmhkdmaaGreatDoorVDZ
import Derived.Test.YtfafinkgmhkdmaaGreatDoorAb7
set_option maxRecDepth 1000000
set_option linter.unusedVariables false
namespace Go.Proofs.YtfafinkgmhkdmaaGreatDoor.X
open Go Go.Ab
def A7F (k:IntKind)(l:List Int):AV:=.imm (.ints k l) l.length (some l.length)
def rotL' (l:List Int)(n:Nat):List Int:=l.drop n++l.take n
def A0k (k:List Int):List Int:=rotL' k.reverse (k.length-1)
def A17 (k:List Int):List Int:=k.map fun x=>if x=1\/x=2 then 3-x else x
def A2d (k:IntKind)(a:List Int):Blk:=⟨.ints k a,1,a.length,none,some false,true,false⟩
def B3O (k:IntKind)(by_:Int):CtE
 |[.nils,.int .i64 n]=>some ⟨.full 0 0,[A2d k []],some (0<n/\n<1000000000000)⟩
 |_=>none
def C1K (k:IntKind):CtE
 |[.imm (.vals [.imm (.ints k1 x) n none,.imm (.ints k2 y) m none]) 2 _]=>cond (A2R k1 k&&A2R k2 k) (some ⟨.full 0 (x++y).length,[A2d k (x++y)],some (n=x.length/\m=y.length/\0<x.length+y.length/\x.length+y.length<100000000000)⟩) none
 |_=>none
def chT (k:IntKind)(id f1 f2:Nat)(h:List (Nat×HO))(cv:AV)(args:List AV):Option Cx:=
 match cv,args,aget h id with
 |.fn f [] [],[.full i n],some (.blk ⟨.ints _ l,_,_,_,_,_,_⟩)=>cond (Nat.beq i id&&Nat.beq f f1) (some ⟨.fullc id n n,[],some (h=[(id,.blk (A2d k l))]/\n=l.length)⟩) none
 |.fn f [] [],[.fullc i n c],some (.blk ⟨.ints _ l,_,_,_,_,_,_⟩)=>cond (Nat.beq i id&&Nat.beq f f2) (some ⟨.tup [],[(id,.blk (A2d k l.reverse))],some (h=[(id,.blk (A2d k l))]/\n=l.length/\c=l.length/\l.length<1000000000000)⟩) none
 |_,_,_=>none
def C6r (k:IntKind)(id f1:Nat)(h:List (Nat×HO))(cv:AV)(args:List AV):Option Cx:=
 match cv,args,aget h id with
 |.fn f [] [],[.full i n],some (.blk ⟨.ints _ l,_,_,_,_,_,_⟩)=>cond (Nat.beq i id&&Nat.beq f f1) (some ⟨.fullc id n n,[],some (h=[(id,.blk (A2d k l))]/\n=l.length)⟩) none
 |_,_,_=>none
def A7G (k:IntKind):CtE
 |[.imm (.ints k1 a) n _,.int .i64 i]=>cond (A2R k1 k) (some ⟨.fullc 0 (rotL' a i.toNat).length (rotL' a i.toNat).length,[A2d k (rotL' a i.toNat)],some (n=a.length/\0<a.length/\a.length<100000000000/\0<=i/\i<=a.length)⟩) none
 |_=>none
def A4D (k:IntKind):CtE
 |[.imm (.ints k1 a) n _]=>cond (A2R k1 k) (some ⟨.full 0 a.length,[A2d k a],some (n=a.length/\0<a.length/\a.length<100000000000)⟩) none
 |_=>none
def A4E (k:IntKind):CtE
 |[.imm (.ints k1 a) n _]=>cond (A2R k1 k) (some ⟨.imm (.ints k []) 0 none,[],some (n=0/\a=[])⟩) none
 |_=>none
def B3P (k:IntKind):CtE
 |[.imm (.ints k1 a) n _]=>cond (A2R k1 k) (some ⟨.tup [],[],some (n=0/\a=[])⟩) none
 |_=>none
def A4F (k:IntKind):CtE
 |[.imm (.ints k1 a) n _]=>cond (A2R k1 k) (some ⟨.imm (.ints k a.reverse) a.length (some a.length),[],some (n=a.length/\a.length<100000000000)⟩) none
 |_=>none
structure L68 where (i j:Int)(l:List Int)
def l68 (k:IntKind)(a:List Int):LpS L68 where
 ov b:=[(2,.int .i64 b.i),(3,.int .i64 b.j)]
 bk b:=[(8256,.blk (A2d k b.l))]
 rd S:=match aget S.t 2,aget S.t 3,aget S.h 8256 with
  |some (.int _ i),some (.int _ j),some (.blk ⟨.ints _ l,_,_,_,_,_,_⟩)=>some ⟨i,j,l⟩
  |_,_,_=>none
 pre b:=∃n:Nat,b.i=n/\b.j=(a.length:Int)-1-n/\2*n<=a.length+1/\b.l.length=a.length/\∀m,m<a.length->b.l[m]?.getD 0=if m<n\/a.length<=m+n then a[a.length-1-m]?.getD 0 else a[m]?.getD 0
 mu b:=a.length-b.i.toNat
def uA:List (Nat×CtE):=(106,B3O .i64 8)::(107,B3O .u8 1)::tlA
def UA:Tab:=A1V uA A2z
def uB:List (Nat×CtE):=(66,C1K .i64)::(67,C1K .u8)::uA
def C7Y:Tab:=A1V uB (C6r .i64 8640 38)
def C7Z:Tab:=A1V uB (C6r .u8 8640 39)
def uP:List (Nat×CtE):=(102,A4D .i64)::(104,A4D .u8)::uB
def D2m:Tab:=A1V uP (chT .i64 8256 38 103)
def D2n:Tab:=A1V uP (chT .u8 8256 39 105)
def uZ:List (Nat×CtE):=(102,A4E .i64)::(104,A4E .u8)::(103,B3P .i64)::(105,B3P .u8)::uB
def C70:Tab:=A1V uZ A2z
def uC:List (Nat×CtE):=(42,A7G .i64)::(43,A7G .u8)::(64,A4F .i64)::(65,A4F .u8)::uB
def UC:Tab:=A1V uC A2z
def A89 (a k:List Int):AV:=.agg [A7F .i64 a,A7F .u8 k]
def e20:CtE
 |[.agg [.imm (.ints .i64 a) n _,.imm (.ints .u8 k) m _]]=>some ⟨A89 a.reverse (A0k k),[],some (n=a.length/\m=k.length/\a.length<100000000000/\k.length<100000000000)⟩
 |_=>none
def e21:CtE
 |[.agg [.imm (.ints .i64 a) n _,.imm (.ints .u8 k) m _]]=>some ⟨A89 a.reverse (A17 (A0k k)),[],some (n=a.length/\m=k.length/\a.length<100000000000/\k.length<100000000000)⟩
 |_=>none
def C71:CtE
 |[.agg [.imm (.ints .i64 a) n _,.imm (.ints .u8 k) m _]]=>some ⟨.agg [A7F .i64 a.reverse,.fullc 0 (A0k k).length (A0k k).length],[A2d .u8 (A0k k)],some (n=a.length/\m=k.length/\a.length<100000000000/\0<k.length/\k.length<100000000000)⟩
 |_=>none
structure L21 where (i:Int)(l:List Int)
def l21 (k:List Int):LpS L21 where
 ov b:=[(11,.int .i64 b.i)]
 bk b:=[(8256,.blk (A2d .u8 b.l))]
 rd S:=match aget S.t 11,aget S.h 8256 with
  |some (.int _ i),some (.blk ⟨.ints _ l,_,_,_,_,_,_⟩)=>some ⟨i,l⟩
  |_,_=>none
 pre b:=∃n:Nat,b.i=n/\n<=k.length/\b.l=(A17 k).take n++k.drop n
 mu b:=k.length-b.i.toNat
def UO:Tab:=A1V ((41,C71)::uC) A2z
def UOz:Tab:=A1V ((41,e20)::uC) A2z
def e12:CtE
 |[]=>some ⟨.bool true,[],none⟩
 |_=>none
def e26:CtE
 |[.agg [.imm (.ints .i64 a) n (some c),.imm (.ints .u8 k) m (some d)],.agg [.imm (.ints .i64 b) n' _,.imm (.ints .u8 j) m' _]]=>some ⟨.bool (eqB a b&&eqB k j),[],some (n=a.length/\m=k.length/\n'=b.length/\m'=j.length/\c=n/\d=m/\a.length=b.length/\k.length=j.length/\a.length<1000000000000/\k.length<1000000000000)⟩
 |_=>none
structure L26 where (i:Int)
def l26 (a b:List Int):LpS L26 where
 ov c:=[(5,.int .i64 c.i)]
 bk c:=[]
 rd S:=match aget S.t 5 with
  |some (.int _ i)=>some ⟨i⟩
  |_=>none
 pre c:=∃n:Nat,c.i=n/\n<=a.length/\eqB (a.drop n) (b.drop n)=eqB a b
 mu c:=a.length-c.i.toNat
def m26 (a b k j:List Int):LpS L26 where
 ov c:=[(6,.int .i64 c.i)]
 bk c:=[]
 rd S:=match aget S.t 6 with
  |some (.int _ i)=>some ⟨i⟩
  |_=>none
 pre c:=∃n:Nat,c.i=n/\n<=k.length/\eqB a b=true/\eqB (k.drop n) (j.drop n)=eqB k j
 mu c:=k.length-c.i.toNat
structure L8 where (i:Int)
def l8 (a:List Int):LpS L8 where
 ov c:=[(7,.int .i64 c.i)]
 bk c:=[]
 rd S:=match aget S.t 7 with
  |some (.int _ i)=>some ⟨i⟩
  |_=>none
 pre c:=∃n:Nat,c.i=n/\n<=a.length
 mu c:=a.length-c.i.toNat
def oKd (K:List Int)(n:Nat)(i:Int):Int:=if K.getD (((n:Int)-i).tmod n).toNat 0=3 then 3 else 3-K.getD (((n:Int)-i).tmod n).toNat 0
def vL:List (Nat×CtE):=(11,e12)::(10,e26)::(41,e20)::(46,e21)::uC
def VL:Tab:=A1V vL A2z
def okL (c:Int)(ks:List Int)(n:Nat):Prop:=(0<=c/\c<=255)/\n=ks.length/\okK ks
def eK3:CtE
 |[.agg [.int .u8 c,.int .u8 l,.imm (.ints .u8 ks) n _],.int .u8 f]=>some ⟨.bool true,[],some (okL c ks n/\0<=f/\f<=255)⟩
 |_=>none
def C72:CtE
 |[.agg [.int .u8 c,.int .u8 l,.imm (.ints .u8 ks) n _],.int .i64 x]=>some ⟨.bool true,[],some (okL c ks n)⟩
 |_=>none
def C73:CtE
 |[.agg [.int .u8 c,.int .u8 l,.imm (.ints .u8 ks) n _]]=>some ⟨.bool true,[],some (okL c ks n)⟩
 |_=>none
def C74:CtE
 |[.agg [.int .u8 c,.int .u8 l,.imm (.ints .u8 ks) n _],.str t]=>some ⟨.bool true,[],some (okL c ks n)⟩
 |[.agg [.int .u8 c,.int .u8 l,.nils],.str t]=>some ⟨.bool true,[],none⟩
 |_=>none
structure L4k where (k n:Int)
def l4k:LpS L4k where
 ov b:=[(1,.int .i64 b.k),(2,.int .i64 b.n)]
 bk b:=[]
 rd S:=match aget S.t 1,aget S.t 2 with
  |some (.int _ k),some (.int _ n)=>some ⟨k,n⟩
  |_,_=>none
 pre b:=∃j:Nat,b.n=5*j/\j<=52/\0<=b.k/\b.k<100003
 mu b:=300-b.n.toNat
def t4k:List (Nat×CtE):=[(3,eK3),(13,C72),(14,C73),(15,C74),(11,e12)]
def T4k:Tab:=A1V t4k A2z
theorem C3s:fnP (T4k) G 10000 fe4 (.r [] 0 (.r [] 0 (.r [] 0 (.lp (l4k) [] [] (fun b=>(.r [] 0 (.cnd (.r [(385,.auto,Dr.wrap),(387,.auto,Dr.wrap),(389,.auto,Dr.wrap),(392,.auto,Dr.wrap),(395,.auto,Dr.wrap),(398,.auto,Dr.wrap),(400,.auto,Dr.wrap)] 106 (.r [(450,.auto,Dr.wrap)] 456635 (.lit (.r [] 4 (.r [] 0 .nil))))) (.r [] 1023 .nil)))))))) ([]) ([.bool true]) ([])=(
iI 1=1/\iI 0=0/\(∃(j:Nat),0=5*(↑j:Int)/\j<=52/\iI 0<=iI 1/\iI 1<iI 100003)/\∀(b:L4k),(∃(j:Nat),b.n=5*(↑j:Int)/\j<=52/\0<=b.k/\b.k<100003)->(ltb b.n 256=
true->inR IntKind.i64 (Int.tdiv b.k 3)=true/\inR IntKind.i64 (Int.tdiv b.k 7)=true/\inR IntKind.i64 (Int.tdiv b.k 11)=true/\(okL (IntKind.wrap IntKind.u8 b.n) [IntKind.wrap IntKind.u8 b.k,
IntKind.wrap IntKind.u8 (Int.tdiv b.k 3),IntKind.wrap IntKind.u8 (Int.tdiv b.k 7),IntKind.wrap IntKind.u8 (Int.tdiv b.k 11),IntKind.wrap IntKind.u8 b.n] 5/\0<=IntKind.wrap IntKind.u8 b.k/\
IntKind.wrap IntKind.u8 b.k<=255)/\okL (IntKind.wrap IntKind.u8 b.n) [IntKind.wrap IntKind.u8 b.k,IntKind.wrap IntKind.u8 (Int.tdiv b.k 3),IntKind.wrap IntKind.u8 (Int.tdiv b.k 7),IntKind.wrap
IntKind.u8 (Int.tdiv b.k 11),IntKind.wrap IntKind.u8 b.n] 5/\okL (IntKind.wrap IntKind.u8 b.n) [IntKind.wrap IntKind.u8 b.k,IntKind.wrap IntKind.u8 (Int.tdiv b.k 3),IntKind.wrap IntKind.u8
(Int.tdiv b.k 7),IntKind.wrap IntKind.u8 (Int.tdiv b.k 11),IntKind.wrap IntKind.u8 b.n] 5/\okL (IntKind.wrap IntKind.u8 b.n) [IntKind.wrap IntKind.u8 b.k,IntKind.wrap IntKind.u8 (Int.tdiv b.k 3),
IntKind.wrap IntKind.u8 (Int.tdiv b.k 7),IntKind.wrap IntKind.u8 (Int.tdiv b.k 11),IntKind.wrap IntKind.u8 b.n] 5/\inR IntKind.i64 (b.k*31)=true/\inR IntKind.i64 (b.k*31+11)=true/\inR
IntKind.i64 (b.n+5)=true/\Int.tmod (b.k*31+11) 100003=Int.tmod (b.k*31+11) 100003/\b.n+5=b.n+5/\(∃(j:Nat),b.n+5=5*(↑j:Int)/\j<=52/\0<=Int.tmod (b.k*31+11)
100003/\Int.tmod (b.k*31+11) 100003<100003)/\300-Int.toNat (b.n+5)<300-Int.toNat b.n/\True)/\(ltb b.n 256=false->true=true/\True)):=by kernel_rfl
end Go.Proofs.YtfafinkgmhkdmaaGreatDoor.X
