/-
 What the functions on corners compute: which creases meet at a point of a sheet of 2 by 2 squares, by their directions; the fan of a point.
-/
import Derived.Test.YtfafinkgmhkdmaaGreatDoorVNZ
import Derived.Test.YtfafinkgmhkdmaaGreatDoorVD11Z
import Derived.Test.YtfafinkgmhkdmaaGreatDoorPPAZ
set_option maxRecDepth 1000000
set_option linter.unusedVariables false
namespace Go.Proofs.YtfafinkgmhkdmaaGreatDoor.X
open Go Go.Ab
noncomputable def evC (f:Nat):CtE:=fun args=>match evM G (aget xpl) B0l me0 100000 1000 1 [] (.fn f [] []) args with
 |some ⟨v,[],[],[]⟩=>some ⟨v,[],none⟩
 |_=>none
theorem C33 (f:Nat):A06 Tryz.prog G f (evC f):=by
 intro args r h hp;unfold evC at h;split at h<;>cases h;rename_i v hv;exact A0A hcm hmx B0O A1W A6y hv rfl
abbrev Ry:Type:=Int×Int
def RRy:RowS Ry where
 k:=2
 row x:=[(.i64,x.1),(.u8,x.2)]
 len _:=rfl
def flR (l:List Ry):List AV:=l.flatMap RRy.av
def unR:List AV->List Ry
 |.int _ d:: .int _ k::r=>(d,k)::unR r
 |_=>[]
def A0h (L:List Ry)(d k:Int):List Ry:=cond (k==0) L (L++[(d,k)])
def bxO (v:AV):HO:=.blk ⟨.cells [v],1,1,none,some false,true,true⟩
def B0P (L:List Ry):HO:=.blk ⟨.vals (flR L),2,L.length,none,some true,true,false⟩
def ptB (x y:Int):Blk:=⟨.cells [.int .i64 x,.int .i64 y],2,1,none,some false,true,true⟩
def D3M (l:List P.Cr):HO:=.blk ⟨.cells [.int .i64 2,.int .i64 2,.imm (.vals (P.flatC l)) l.length none],3,1,none,some false,true,true⟩
def knZ (l:List P.Cr)(c e:Int):Int:=P.knI 2 2 l c e
def okZ (l:List P.Cr):Prop:=P.vP 2 2 l
def C8M:CtE
 |[.agg [.int .i64 2,.int .i64 2,.imm (.vals a) n _],.int .i64 i,.int .u8 e]=>some ⟨.tup [.int .u8 (knZ (P.unC a) i e),.int .i64 (P.atE 2 2 (P.unC a) i e)],[],some (P.okA a n/\P.edg (P.unC a)/\0<=e/\e<=255)⟩
 |_=>none
def C8N:CtE
 |[.agg [.int .i64 w,.int .i64 h],.agg [.int .i64 x,.int .i64 y]]=>some ⟨.fn 55 [] [.ptr 0 0,.ptr 1 0],[ptB x y,ptB w h],none⟩
 |_=>none
def TK8:Tab:=A1V [(34,C8M)] A2z
def tm8:List (Nat×AV):=[(2,.ptr 64 0),(8,.ptr 512 0),(28,.fn 55 [] [.ptr 37056 0,.ptr 37057 0])]
noncomputable def as8:XC:=(B2F fe8 []).as
noncomputable def bd8:XC:=(B2F fe8 []).bd
noncomputable def H8 (l:List P.Cr)(L:List Ry)(x y:Int)(cap:Option Nat):List (Nat×HO):=[(37057,.blk (ptB 2 2)),(37056,.blk (ptB x y)),(9001,.blk ⟨.vals (flR L),2,L.length,cap,some true,true,false⟩),(512,bxO (.full 9001 L.length)),(64,D3M l),(9002,.loop (B2F fe8 tm8))]
noncomputable def ch8 (l:List P.Cr)(x y:Int)(h:List (Nat×HO))(cv:AV)(args:List AV):Option Cx:=
 match cv,args,aget h 9001 with
 |.yld id,[.int .i64 _,.agg [.int .i64 d,.int .i64 c,.int .u8 e]],some (.blk ⟨.vals o,_,_,cap,_,_,_⟩)=>
  cond (Nat.beq id 9002) (some ⟨.bool true,[(512,bxO (.full 9001 (A0h (unR o) d (knZ l c e)).length)),(9001,B0P (A0h (unR o) d (knZ l c e)))],some (h=H8 l (unR o) x y cap/\(unR o).length<1000000/\l.length<1000000000/\P.edg l/\0<=e/\e<=255)⟩) none
 |_,_,_=>none
def qhZ (q:Int):Int:=if q=1\/q=2 then 2 else 0
def qgZ (q:Int):Int:=if q<=1 then 2 else 0
def cx (x q e:Int):Int:=if e=0 then 2*x+1 else if e=1 then 2*x+qhZ q else 2*x+qgZ q
def cy (y q e:Int):Int:=if e=0 then 2*y+1 else if e=1 then 2*y+qhZ q else 2*y+(2-qgZ q)
def inZ (x y q:Int):Prop:= -4000<=x/\x<=4000/\ -4000<=y/\y<=4000/\0<=q/\q<=3
def B7M (x y q:Int):List AV:=[.int .i64 (cx x q 0),.int .i64 (cy y q 0),.int .i64 (cx x q 1),.int .i64 (cy y q 1),.int .i64 (cx x q 2),.int .i64 (cy y q 2)]
def e86:CtE
 |[.agg [.int .i64 x,.int .i64 y,.int .u8 q]]=>some ⟨.tup [.agg (B7M x y q),.int .i64 0],[],some (inZ x y q)⟩
 |_=>none
def T86:Tab:=A1V [(85,P.e92)] A2z
def T57:Tab:=A1V [(86,e86)] A2z
def C6v (x y q e ax ay:Int):Bool:= !(cx x q e==ax&&cy y q e==ay)
def C8O:CtE
 |[.agg [.int .i64 x,.int .i64 y,.int .u8 q],.int .u8 e,.agg [.int .i64 ax,.int .i64 ay]]=>some ⟨.bool (C6v x y q e ax ay),[],some (inZ x y q/\0<=e/\e<=2)⟩
 |_=>none
def lvB (ax e:Int):Bool:=cond (ax.tmod 2 !=0) (e==1) (e==2)
def e58:CtE
 |[.agg [.int .i64 x,.int .i64 y,.int .u8 q],.int .u8 e,.agg [.int .i64 ax,.int .i64 ay]]=>some ⟨.bool (lvB ax e),[],none⟩
 |_=>none
noncomputable def tY8:List (Nat×CtE):=[(56,P.e57),(57,C8O),(58,e58),(29,P.e58),(59,evC 59),(60,P.e96)]
noncomputable def TY8 (l:List P.Cr)(x y:Int):Tab:=A1V tY8 (ch8 l x y)
def B5X (x y:Int):List (Int×Int×Int):=
 if x=2/\y=2 then[(1,12,2),(2,9,0),(3,8,1),(4,2,0),(5,1,2),(6,1,0),(7,6,1),(0,6,0)]
 else if x=1/\y=1 then[(3,2,1),(5,0,2),(7,0,1),(1,1,2)]
 else if x=3/\y=1 then[(3,6,1),(5,4,2),(7,4,1),(1,5,2)]
 else if x=1/\y=3 then[(3,10,1),(5,8,2),(7,8,1),(1,9,2)]
 else if x=3/\y=3 then[(3,14,1),(5,12,2),(7,12,1),(1,13,2)]else[]
def A0Z (l:List P.Cr)(x y:Int):List Ry:=(B5X x y).foldl (fun L s=>A0h L s.1 (knZ l s.2.1 s.2.2)) []
def B1z (x:Ry):Prop:=0<=x.1/\x.1<=7
instance (x:Ry):Decidable (B1z x):=by unfold B1z;infer_instance
abbrev Rb:Type:={x:Ry // B1z x}
instance:Inhabited Rb:=⟨⟨(0,0),by decide⟩⟩
def RRb:RowS Rb where
 k:=2
 row x:=[(.i64,x.1.1),(.u8,x.1.2)]
 len _:=rfl
def B8W (x y:Rb):Int:=x.1.1-y.1.1
def B5Y (x:Ry):Rb:=if h:B1z x then⟨x,h⟩else default
noncomputable def C1P (l:List Ry):List Ry:=(A14 B8W (l.map B5Y)).map (·.1)
noncomputable def raysL (l:List P.Cr)(x y:Int):List Ry:=C1P (A0Z l x y)
def ptZ (x y:Int):Prop:=(x=2/\y=2)\/(x=1/\y=1)\/(x=3/\y=1)\/(x=1/\y=3)\/(x=3/\y=3)
def e32:CtE
 |[.agg [.int .i64 2,.int .i64 2],.agg [.int .i64 x,.int .i64 y]]=>some ⟨.int .i64 0,[],some (ptZ x y)⟩
 |_=>none
def T32:Tab:=A1V [(25,P.e64)] A2z
def e37:CtE
 |[.imm (.vals l) n _]=>some ⟨.imm (.vals l) n (some n),[],some (l.length=2*n)⟩
 |_=>none
noncomputable def C8P (l:List P.Cr)(x y:Int)(h:List (Nat×HO))(cv:AV)(args:List AV):Option Cx:=
 match cv,args with
 |.fn g [] [],[.yld id,.ptr i 0,.ptr j 0]=>cond (Nat.beq g 55&&(Nat.beq id 9002&&(Nat.beq i 37056&&Nat.beq j 37057))) (some ⟨.tup [],[(37057,.blk (ptB 2 2)),(37056,.blk (ptB x y)),(9001,B0P (A0Z l x y)),(512,bxO (.full 9001 (A0Z l x y).length))],
   some (h=H8 l [] x y (some 0)/\okZ l/\ptZ x y)⟩) none
 |.fn g [] [],[.full id n,.fn g' [] []]=>cond (Nat.beq g 35&&(Nat.beq g' 36&&Nat.beq id 9001)) (some ⟨.tup [],[(9001,.blk ⟨.vals (flR (raysL l x y)),2,n,none,some true,true,false⟩)],some (h=[(9001,B0P (A0Z l x y))]/\n=(A0Z l x y).length/\∀z∈A0Z l x y,B1z z)⟩) none
 |_,_=>none
noncomputable def t8z:List (Nat×CtE):=[(7,P.e27),(32,e32),(33,C8N),(37,e37)]
noncomputable def T8z (l:List P.Cr)(x y:Int):Tab:=A1V t8z (C8P l x y)
def D2r (a:List AV)(n:Nat):Prop:=P.okA a n/\okZ (P.unC a)
noncomputable def e8z:CtE
 |[.agg [.int .i64 2,.int .i64 2,.imm (.vals a) n _],.agg [.int .i64 x,.int .i64 y]]=>some ⟨.tup [.imm (.vals (flR (raysL (P.unC a) x y))) (raysL (P.unC a) x y).length (some (raysL (P.unC a) x y).length),.int .i64 0],[],some (D2r a n/\ptZ x y)⟩
 |_=>none
def dR (R:List Ry)(i:Int):Int:=(R[i.toNat]?.getD (0,0)).1
def kR (R:List Ry)(i:Int):Int:=(R[i.toNat]?.getD (0,0)).2
def nxR (R:List Ry)(i:Int):Int:=cond (i+1==R.length) (dR R ((i+1).tmod R.length)+8) (dR R ((i+1).tmod R.length))
def angR (R:List Ry)(n:Nat):List Int:=(List.range n).map fun(i:Nat)=>nxR R (i:Int)-dR R (i:Int)
def kndR (R:List Ry):List Int:=R.map (·.2)
structure L9z where (i:Int)(a k:List Int)
def l9z (R:List Ry):LpS L9z where
 ov b:=[(28,.int .i64 b.i)]
 bk b:=[(66,.blk ⟨.cells [.full 9001 b.a.length,.full 9002 b.k.length],2,1,none,some false,true,true⟩),(9001,.blk ⟨.ints .i64 b.a,1,b.a.length,none,some true,true,false⟩),(9002,.blk ⟨.ints .u8 b.k,1,b.k.length,none,some true,true,false⟩)]
 rd S:=match aget S.t 28,aget S.h 9001,aget S.h 9002 with
  |some (.int _ i),some (.blk ⟨.ints _ a,_,_,_,_,_,_⟩),some (.blk ⟨.ints _ k,_,_,_,_,_,_⟩)=>some ⟨i,a,k⟩
  |_,_,_=>none
 pre b:=∃n:Nat,b.i=n/\n<=R.length/\b.a=angR R n/\b.k=(kndR R).take n
 mu b:=R.length-b.i.toNat
def C1Q (k:IntKind):CtE
 |[.imm (.ints k' a) n _]=>cond (A2R k k') (some ⟨.imm (.ints k a) n (some n),[],some (n=a.length)⟩) none
 |_=>none
noncomputable def e8f (l:List P.Cr)(R:List Ry)(x y:Int):CtE
 |[.agg [.int .i64 2,.int .i64 2,.imm (.vals a) n _],.agg [.int .i64 x',.int .i64 y']]=>some ⟨.tup [.imm (.vals (flR R)) R.length (some R.length),.int .i64 0],[],some (a=P.flatC l/\n=l.length/\x'=x/\y'=y)⟩
 |_=>none
noncomputable def T9z (l:List P.Cr)(R:List Ry)(x y:Int):Tab:=A1V [(8,e8f l R x y),(38,C1Q .i64),(39,C1Q .u8)] A2z
def C6w (l:List P.Cr):AV:=.agg [.int .i64 2,.int .i64 2,.imm (.vals (P.flatC l)) l.length none]
noncomputable def e5z:CtE
 |[.agg [.int .u8 c,.int .u8 l,.imm (.ints .u8 ks) n _]]=>some ⟨A3T (ofA c 0 ks) (ofK c ks),[],some (n=ks.length/\okK ks)⟩
 |_=>none
def T5:Tab:=A1V [(16,e25)] A2z
def A63 (a:List Int)(d:Int)(i:Nat):Int:=d+(a.take i).sum
def kdN (a k:List Int)(d:Int):Nat->List Int
 |0=>List.replicate 8 0
 |n+1=>(kdN a k d n).set ((A63 a d n).tmod 8).toNat (k[n]?.getD 0)
def lsN (a:List Int)(d:Int):Nat->Int
 |0=>8
 |n+1=>cond (ltb ((A63 a d n).tmod 8) (lsN a d n)) ((A63 a d n).tmod 8) (lsN a d n)
def mnN (a:List Int)(d:Int):Nat->Int
 |0=>0
 |n+1=>cond (ltb ((A63 a d n).tmod 8) (lsN a d n)) n (mnN a d n)
def C34:List Nat:=[8,5,6,5,4,8,7,8,8,0,7,3,8,2,8,3,8,1,1,8]
def A2A (kd:List Int):List Int:=C34.map fun r=>kd[r]?.getD 0
def crF (a k:List Int)(d:Int):List P.Cr:=P.wthL (P.units 2 2) (A2A (kdN a k d a.length))
def flF (a k:List Int)(d:Int):Prop:=∃(c:Nat) (ks:List Int),c<256/\okK ks/\a=ofA c 0 ks/\k=ofK c ks/\∃n:Nat,d=n/\n<8
noncomputable def e6z:CtE
 |[.agg [.imm (.ints .i64 a) n _,.imm (.ints .u8 k) m _],.int .i64 d]=>some ⟨.tup [.agg [.int .i64 2,.int .i64 2,.imm (.vals (P.flatC (crF a k d))) (crF a k d).length (some (crF a k d).length)],.int .i64 0],[],some (n=a.length/\m=k.length/\flF a k d)⟩
 |_=>none
noncomputable def e9z:CtE
 |[.agg [.int .i64 2,.int .i64 2,.imm (.vals a) n _],.agg [.int .i64 x,.int .i64 y]]=>some ⟨.tup [A89 (angR (raysL (P.unC a) x y) (raysL (P.unC a) x y).length) (kndR (raysL (P.unC a) x y)),.int .i64 (dR (raysL (P.unC a) x y) 0),.int .i64 0],[],some (D2r a n/\ptZ x y)⟩
 |_=>none
structure L3z where (l:List Int)(d s m i:Int)
def kBx (l:List Int):HO:=.blk ⟨.ints .u8 l,1,8,none,some false,true,true⟩
def l3a (a k:List Int)(d:Int):LpS L3z where
 ov b:=[(10,.int .i64 b.d),(11,.int .i64 b.s),(12,.int .i64 b.m),(13,.int .i64 b.i)]
 bk b:=[(448,kBx b.l)]
 rd S:=match aget S.t 10,aget S.t 11,aget S.t 12,aget S.t 13,aget S.h 448 with
  |some (.int _ d),some (.int _ s),some (.int _ m),some (.int _ i),some (.blk ⟨.ints _ l,_,_,_,_,_,_⟩)=>some ⟨l,d,s,m,i⟩
  |_,_,_,_,_=>none
 pre b:=∃n:Nat,b.i=n/\n<=a.length/\b.l=kdN a k d n/\b.d=A63 a d n/\b.s=lsN a d n/\b.m=mnN a d n
 mu b:=a.length-b.i.toNat
structure J3z where (s m:Int)
def j3a (at_ s m i:Int):LpS J3z where
 ov b:=[(11,.int .i64 b.s),(12,.int .i64 b.m)]
 bk b:=[]
 rd S:=match aget S.t 11,aget S.t 12 with
  |some (.int _ s),some (.int _ m)=>some ⟨s,m⟩
  |_,_=>none
 pre b:=b.s=cond (ltb (at_.tmod 8) s) (at_.tmod 8) s/\b.m=cond (ltb (at_.tmod 8) s) i m
 mu b:=0
def unN (l:List Int):Nat->Int
 |0=>0
 |n+1=>cond (l[n]?.getD 0 !=0) (unN l n+1+(n:Int).tmod 2) (unN l n)
structure U3z where (u i:Int)
def l3b (l:List Int):LpS U3z where
 ov b:=[(16,.int .i64 b.u),(17,.int .i64 b.i)]
 bk b:=[]
 rd S:=match aget S.t 16,aget S.t 17 with
  |some (.int _ u),some (.int _ i)=>some ⟨u,i⟩
  |_,_=>none
 pre b:=∃n:Nat,b.i=n/\n<=8/\b.u=unN l n
 mu b:=8-b.i.toNat
structure I3z where (i:Int)
def l3c (R:List Ry):LpS I3z where
 ov b:=[(18,.int .i64 b.i)]
 bk b:=[]
 rd S:=match aget S.t 18 with
  |some (.int _ i)=>some ⟨i⟩
  |_=>none
 pre b:=∃n:Nat,b.i=n/\n<=R.length
 mu b:=R.length-b.i.toNat
def l3d:LpS I3z where
 ov b:=[(22,.int .i64 b.i)]
 bk b:=[]
 rd S:=match aget S.t 22 with
  |some (.int _ i)=>some ⟨i⟩
  |_=>none
 pre b:=∃n:Nat,b.i=n/\n<=4
 mu b:=4-b.i.toNat
noncomputable def t3z:List (Nat×CtE):=[(5,e5z),(6,e6z),(7,P.e27),(8,e8z),(9,e9z),(10,e26),(11,e12),(12,C3w)]
noncomputable def T3z:Tab:=A1V t3z A2z
noncomputable def zA (c:Int)(ks:List Int):List Int:=ofA c 0 ks
noncomputable def zC (c:Int)(ks:List Int)(f:Int):List P.Cr:=crF (ofA c 0 ks) (ofK c ks) (f.tmod 8)
noncomputable def zQ (c:Int)(ks:List Int)(f i:Int):Bool:=Nat.beq (raysL (zC c ks f) (1+2*i.tmod 2) (1+i.tdiv 2*2)).length 0
noncomputable def zR (c:Int)(ks:List Int)(f:Int):List Ry:=raysL (zC c ks f) 2 2
end Go.Proofs.YtfafinkgmhkdmaaGreatDoor.X
