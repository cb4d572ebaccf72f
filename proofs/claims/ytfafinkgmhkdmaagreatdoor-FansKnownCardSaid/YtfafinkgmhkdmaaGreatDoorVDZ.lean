/-
 What the functions on fans and their reductions compute.
-/
import Derived.Test.YtfafinkgmhkdmaaGreatDoorXpZ
import GoSem.PinnedTables
set_option maxRecDepth 1000000
set_option linter.unusedVariables false
namespace Go.Proofs.YtfafinkgmhkdmaaGreatDoor.X
open Go Go.Ab
def crL (l:List (Int×Int×Int)):AV:=.imm (.vals (l.flatMap fun x=>[.int .i64 x.1,.int .u8 x.2.1,.int .u8 x.2.2])) l.length none
def C3o:Cont:=.vals [crL [(6,0,0)],crL [(12,2,0),(13,2,0)],crL [(9,0,0)],crL [(8,1,0),(10,1,0)],crL [(2,0,0)],crL [(0,2,0),(1,2,0)],crL [(1,0,0)],crL [(4,1,0),(6,1,0)]]
def qrt (a:Int)(b:Int)(k c:Int)(n:List (Int×Int×Int))(o1 o2 t1 t2:Int):List AV:=
 [.int .i64 a,.int .i64 b,.int .u8 k,.int .i64 c]++n.flatMap (fun x=>[.int .i64 x.1,.int .i64 x.2.1,.int .u8 x.2.2])++[.int .i64 o1,.int .i64 o2,.int .i64 t1,.int .i64 t2]
def B7F:Cont:=.vals (qrt 0 (-1) 2 0 [(0,-1,2),(0,0,1),(0,0,3)] 0 0 2 0++qrt 1 0 1 1 [(1,0,3),(0,0,0),(0,0,2)] 2 2 2 0++
 qrt 0 1 2 1 [(0,1,0),(0,0,3),(0,0,1)] 2 2 0 2++qrt (-1) 0 1 0 [(-1,0,1),(0,0,2),(0,0,0)] 0 0 0 2)
def gl:Nat->Option Cont
 |3=>some (.ints .u64 [1,10,100,1000,10000,100000,1000000,10000000,100000000,1000000000,10000000000,100000000000,1000000000000,10000000000000,100000000000000,1000000000000000,10000000000000000,100000000000000000,1000000000000000000,10000000000000000000])
 |5=>some (.ints .u8 [0,1,28,2,29,14,24,3,30,22,20,15,25,17,4,8,31,27,13,23,21,19,16,7,26,12,18,6,11,5,10,9])
 |6=>some (.ints .u8 [0,1,56,2,57,49,28,3,61,58,42,50,38,29,17,4,62,47,59,36,45,43,51,22,53,39,33,30,24,18,12,5,63,55,48,27,60,41,37,16,46,35,44,21,52,32,23,11,54,26,40,15,34,20,31,10,25,14,19,9,13,8,7,6])
 |0=>some C3o
 |1=>some (.ints .i64 [1,0,1,1,0,1,-1,1,-1,0,-1,-1,0,-1,1,-1])
 |2=>some B7F
 |_=>none
noncomputable def G:GL:={g:=gl,cm:=A2x Tryz.prog}
theorem hcm:G.cm=A2x Tryz.prog:=rfl
theorem hmx:Tryz.prog.follows .mixedOrders=true:=by kernel_rfl
def bI (b:Bool)(x y:Int):Int:=cond b x y
def A3T (a k:List Int):AV:=.agg [.imm (.ints .i64 a) a.length none,.imm (.ints .u8 k) k.length none]
def A60:List Int->List Int->Int->Int
 |n::a,x::k,s=>if n<1\/8-s<n\/x<1\/3<x then 1 else A60 a k (s+n)
 |_,_,_=>0
def chk (a k:List Int):Int:=if a.length=k.length then A60 a k 0 else 5
structure L17 where (i s:Int)
def l17 (a k:List Int):LpS L17 where
 ov b:=[(16,.int .i64 b.i),(3,.int .i64 b.s)]
 bk b:=[]
 rd S:=match aget S.t 16,aget S.t 3 with
  |some (.int .i64 i),some (.int .i64 s)=>some ⟨i,s⟩
  |_,_=>none
 pre b:=∃n:Nat,b.i=n/\n<=a.length/\0<=b.s/\b.s<=8/\A60 a k 0=A60 (a.drop n) (k.drop n) b.s
 mu b:=a.length-b.i.toNat
def e17:CtE
 |[.agg [.imm (.ints .i64 a) n _,.imm (.ints .u8 k) m _]]=>some ⟨.int .i64 (chk a k),[],some (n=a.length/\m=k.length/\a.length<1000000000000)⟩
 |_=>none
def T0:Tab:=A1V [] A2z
theorem A26:TabOk Tryz.prog G T0:=A0m A0s trivial
def okA (a:List Int):Prop:=(∀x∈a,1<=x)/\a.sum<=8
structure FS where (last first:Int)(a k:List Int)
def C3p (c d:Int):Bool:=(c.fdiv (2 ^ min d.toNat IntKind.u8.bits)).tmod 2==0
def A45 (ks:List Int)(n:Nat):Int:=if n<ks.length then 1+(ks.getD n 0).tmod 3 else 1
def A61 (c:Int)(ks:List Int)(s:FS)(d:Nat):FS:=
 if C3p c d then s else if 0<=s.last then⟨d,s.first,s.a++[d-s.last],s.k++[A45 ks s.k.length]⟩else⟨d,d,s.a,s.k++[A45 ks s.k.length]⟩
def A0P (c:Int)(ks:List Int)(n:Nat):FS:=(List.range n).foldl (A61 c ks) ⟨-1,-1,[],[]⟩
def A0U (s:FS):List Int:=if 0<=s.first then s.a++[s.first+8-s.last]else s.a
def A15 (l:Int):Nat->List Int->List Int
 |_,[]=>[]
 |i,x::r=>(if(l.fdiv (2 ^ min i IntKind.u8.bits)).tmod 2=1/\1<x then x-1 else x)::A15 l (i+1) r
def ofA (c l:Int)(ks:List Int):List Int:=A15 l 0 (A0U (A0P c ks 8))
def ofK (c:Int)(ks:List Int):List Int:=(A0P c ks 8).k
structure L25 where (d last first:Int)(a k:List Int)
def C1I (a:List Int):Blk:=B9z .i64 a
def C1J (a:List Int):Blk:=B9z .u8 a
def C7X (k a:List Int):List (Nat×HO):=[(128,.blk ⟨.cells [.full 9001 a.length,.full 9002 k.length],2,1,none,some false,true,true⟩)]
def l25 (c:Int)(ks:List Int):LpS L25 where
 ov b:=[(6,.int .i64 b.d),(4,.int .i64 b.last),(5,.int .i64 b.first)]
 bk b:=[(128,.blk ⟨.cells [.full 9001 b.a.length,.full 9002 b.k.length],2,1,none,some false,true,true⟩),(9001,.blk (C1I b.a)),(9002,.blk (C1J b.k))]
 rd S:=match aget S.t 6,aget S.t 4,aget S.t 5,aget S.h 9001,aget S.h 9002 with
  |some (.int _ d),some (.int _ la),some (.int _ fi),some (.blk ⟨.ints _ a,_,_,_,_,_,_⟩),some (.blk ⟨.ints _ k,_,_,_,_,_,_⟩)=>some ⟨d,la,fi,a,k⟩
  |_,_,_,_,_=>none
 pre b:=∃n:Nat,b.d=n/\n<=8/\FS.mk b.last b.first b.a b.k=A0P c ks n
 mu b:=8-b.d.toNat
structure M25 where (i:Int)(a:List Int)
def m25 (l:Int)(a:List Int)(k:List Int):LpS M25 where
 ov b:=[(8,.int .i64 b.i)]
 bk b:=[(128,.blk ⟨.cells [.full 9001 b.a.length,.full 9002 k.length],2,1,none,some false,true,true⟩),(9001,.blk (C1I b.a)),(9002,.blk (C1J k))]
 rd S:=match aget S.t 8,aget S.h 9001 with
  |some (.int _ d),some (.blk ⟨.ints _ a,_,_,_,_,_,_⟩)=>some ⟨d,a⟩
  |_,_=>none
 pre b:=∃n:Nat,b.i=n/\n<=a.length/\b.a=(A15 l 0 a).take n++a.drop n
 mu b:=a.length-b.i.toNat
def okK (ks:List Int):Prop:=∀x∈ks,0<=x/\x<=255
def e25:CtE
 |[.agg [.int .u8 c,.int .u8 l,.imm (.ints .u8 ks) n _]]=>some ⟨.agg [.full 0 (ofA c l ks).length,.full 1 (ofK c ks).length],[C1I (ofA c l ks),C1J (ofK c ks)],some (n=ks.length/\okK ks)⟩
 |_=>none
def fV (c l:Int)(ks:List Int):AV:=.agg [.int .u8 c,.int .u8 l,.imm (.ints .u8 ks) ks.length none]
structure L83 where (i:Int)
def eqB (a b:List Int):Bool:=decide (a=b)
structure L55 where (i:Int)
def B0k (k:IntKind):CtE
 |[.imm (.ints k1 a) n _]=>cond (A2R k1 k) (some ⟨.imm (.ints k a) n (some n),[],some (n=a.length)⟩) none
 |_=>none
def tlA:List (Nat×CtE):=[(17,e17),(38,B0k .i64),(39,B0k .u8),(16,e25)]
abbrev rd (K:IntKind)(L:List Int)(X:Int)(p:Prop):Prop:=leb 0 X=true/\ltb X (↑(List.length L):Int)=true/\ltn 0 (Cont.size (Cont.ints K L))=true/\ltn 0 (Cont.size (Cont.ints K (List.drop (Int.toNat X) L)))=true/\p
abbrev rdw (K:IntKind)(L:List Int)(X:Int)(p:Prop):Prop:=leb 0 X=true/\ltb X (↑(List.length L):Int)=true/\ltn (Int.toNat X) (Cont.size (Cont.ints K L))=true/\p
abbrev qs (K:IntKind)(L:List Int)(p:Prop):Prop:=Cont.ints K L=Cont.ints K L/\List.length L=List.length L/\p
abbrev ql (L:List Int)(p:Prop):Prop:=(↑(List.length L):Int)=(↑(List.length L):Int)/\p
abbrev qx {α:Type}(x:α)(p:Prop):Prop:=x=x/\p
end Go.Proofs.YtfafinkgmhkdmaaGreatDoor.X
