/-
 What the law on errors of fans computes: Flat, patterns of fans, errors everywhere.
-/
import Derived.Test.YtfafinkgmhkdmaaGreatDoorVD8Z
set_option maxRecDepth 1000000
set_option linter.unusedVariables false
namespace Go.Proofs.YtfafinkgmhkdmaaGreatDoor.X
open Go Go.Ab
noncomputable def Gs:GL:={g:=fun _=>none,cm:=A2x Tryz.prog,strong:=True}
def sA':List (Nat×CtE):=[(51,B2O .i64),(52,B2O .u8)]
def SA':Tab:=A1V sA' A2z
def sB':List (Nat×CtE):=(22,A46 .i64)::(23,A46 .u8)::(21,e47)::sA'
def SB':Tab:=A1V sB' A2z
abbrev Cr:Type:=Int×Int×Int
def RCr:RowS Cr where
 k:=3
 row x:=[(.i64,x.1),(.u8,x.2.1),(.u8,x.2.2)]
 len _:=rfl
def A3S (x y:Cr):Int:=orI (A28 x.1 y.1) (A28 x.2.1 y.2.1)
def crV (x:Cr):AV:=.agg [.int .i64 x.1,.int .u8 x.2.1,.int .u8 x.2.2]
def flatC (l:List Cr):List AV:=l.flatMap RCr.av
def B1x (r:Int):List (Int×Int):=
 match r with
 |0=>[(6,0)]|1=>[(12,2),(13,2)]|2=>[(9,0)]|3=>[(8,1),(10,1)]|4=>[(2,0)]|5=>[(0,2),(1,2)]|6=>[(1,0)]|7=>[(4,1),(6,1)]|_=>[]
def A9a (r:Int):List AV:=flatC ((B1x r).map fun c=>(c.1,c.2,0))
def A3U (r:Int):Nat:=(B1x r).length
def rcC (r j:Int):Int:=((B1x r)[j.toNat]?.getD (0,0)).1
def rcE (r j:Int):Int:=((B1x r)[j.toNat]?.getD (0,0)).2
def B0p (r x:Int):List Cr:=(B1x r).map fun c=>(c.1,c.2,x)
def rawF:List Int->List Int->Int->List Cr
 |n::a,x::k,f=>B0p (f.tmod 8) x++rawF a k (f+n)
 |_,_,_=>[]
def wsum (l:List Int):Int:=l.foldl (fun s x=>IntKind.i64.wrap (s+x)) 0
def flB (a k:List Int):Bool:=chk a k==0&&(wsum a==8||a.length==0)
def A2Q (a k:List Int)(f:Int):Int:=if chk a k=0 then(if flB a k then(if f<0\/7<f then 1 else 0)else 14)else chk a k
noncomputable def A3V (a k:List Int)(f:Int):List Cr:=if A2Q a k f=0 then A14 A3S (rawF a k f)else[]
structure L31 where (i s:Int)
def l31 (a:List Int):LpS L31 where
 ov b:=[(9,.int .i64 b.i),(3,.int .i64 b.s)]
 bk b:=[]
 rd S:=match aget S.t 9,aget S.t 3 with
  |some (.int .i64 i),some (.int .i64 s)=>some ⟨i,s⟩
  |_,_=>none
 pre b:=∃n:Nat,b.i=n/\n<=a.length/\b.s=wsum (a.take n)
 mu b:=a.length-b.i.toNat
def e31:CtE
 |[.agg [.imm (.ints .i64 a) n _,.imm (.ints .u8 k) m _]]=>some ⟨.bool (flB a k),[],some (n=a.length/\m=k.length/\a.length<1000000000)⟩
 |_=>none
def e54:CtE
 |[.imm (.vals l) n _]=>some ⟨.imm (.vals l) n (some n),[],some (l.length=3*n)⟩
 |_=>none
structure L30 where (i f:Int)(l:List AV)(n:Nat)
def D2p (n:Nat):HO:=.blk ⟨.cells [.int .i64 2,.int .i64 2,.full 9001 n],3,1,none,some false,true,true⟩
def C6s (l:List AV)(n:Nat):HO:=.blk ⟨.vals l,3,n,none,some true,true,false⟩
def l30 (a k:List Int)(f0:Int):LpS L30 where
 ov b:=[(37,.int .i64 b.i),(1,.int .i64 b.f)]
 bk b:=[(578,D2p b.n),(9001,C6s b.l b.n)]
 rd S:=match aget S.t 37,aget S.t 1,aget S.h 9001 with
  |some (.int _ i),some (.int _ f),some (.blk ⟨.vals l,_,n,_,_,_,_⟩)=>some ⟨i,f,l,n⟩
  |_,_,_=>none
 pre b:=∃n:Nat,b.i=n/\n<=a.length/\b.f=f0+(a.take n).sum/\b.l=flatC (rawF (a.take n) (k.take n) f0)/\b.n=(rawF (a.take n) (k.take n) f0).length
 mu b:=a.length-b.i.toNat
structure M30 where (i:Int)(l:List AV)(n:Nat)
def m30 (r x:Int)(l0:List AV)(n0:Nat):LpS M30 where
 ov b:=[(47,.int .i64 b.i)]
 bk b:=[(578,D2p b.n),(9001,C6s b.l b.n)]
 rd S:=match aget S.t 47,aget S.h 9001 with
  |some (.int _ i),some (.blk ⟨.vals l,_,n,_,_,_,_⟩)=>some ⟨i,l,n⟩
  |_,_=>none
 pre b:=∃m:Nat,b.i=m/\m<=A3U r/\b.l=l0++flatC ((B0p r x).take m)/\b.n=n0+m
 mu b:=A3U r-b.i.toNat
noncomputable def C8c (a k:List Int)(f:Int)(h:List (Nat×HO))(cv:AV)(args:List AV):Option Cx:=
 match cv,args with
 |.fn g [] [],[.full id n,.fn g' [] []]=>cond (Nat.beq g 19&&(Nat.beq g' 20&&Nat.beq id 9001)) (some ⟨.tup [],[(9001,C6s (flatC (A14 A3S (rawF a k f))) n)],some (h=[(9001,C6s (flatC (rawF a k f)) n)]/\n=(rawF a k f).length/\(rawF a k f).length<1000000000)⟩) none
 |_,_=>none
def v30:List (Nat×CtE):=(17,e17)::(18,e31)::(24,e54)::[]
noncomputable def V30 (a k:List Int)(f:Int):Tab:=A1V v30 (C8c a k f)
def tN:Tab:=A1V ((17,e17)::[]) A2z
structure L10 where (w s i:Int)
structure M10 where (w i:Int)
structure E10 where (e:Bool)(i:Int)
end Go.Proofs.YtfafinkgmhkdmaaGreatDoor.X
