/-
 What the functions on patterns compute: the check, look up, set.
-/
import Derived.Test.YtfafinkgmhkdmaaGreatDoorPD3Z
set_option maxRecDepth 1000000
set_option linter.unusedVariables false
namespace Go.Proofs.YtfafinkgmhkdmaaGreatDoor.P
open Go Go.Ab Go.Proofs.YtfafinkgmhkdmaaGreatDoor.X
def unC:List AV->List Cr
 |.int _ c:: .int _ e:: .int _ k::r=>(c,e,k)::unC r
 |_=>[]
def okA (a:List AV)(n:Nat):Prop:=a=flatC (unC a)/\n=(unC a).length/\(unC a).length<1000000000
def kdB (k:Int):Bool:=leb 1 k&&leb k 3
def e51:CtE
 |[.int .u8 k]=>some ⟨.bool (kdB k),[],none⟩
 |_=>none
def A6C (c e c' e':Int):Int:=if c=c' then e-e' else c-c'
def e61:CtE
 |[.agg [.int .i64 c,.int .u8 e],.agg [.int .i64 c',.int .u8 e']]=>some ⟨.int .i64 (A6C c e c' e'),[],some (sml c/\sml c'/\0<=e/\e<=255/\0<=e'/\e'<=255)⟩
 |_=>none
def e62:CtE
 |[.agg [.int .i64 c,.int .u8 e,.int .u8 k]]=>some ⟨.agg [.int .i64 c,.int .u8 e],[],none⟩
 |_=>none
def C8m:List (Nat×CtE):=(28,e51)::(31,e61)::(30,e62)::(29,e58)::C8f
def CP1:Tab:=A1V C8m A2z
def e66:CtE
 |[.agg [.int .i64 c,.int .u8 e,.int .u8 k]]=>some ⟨.bool (!kdB k),[],none⟩
 |_=>none
def C8n:CtE
 |[.agg [.int .i64 c,.int .u8 e,.int .u8 k],.agg [.int .i64 c',.int .u8 e']]=>some ⟨.int .i64 (A6C c e c' e'),[],some (sml c/\sml c'/\0<=e/\e<=255/\0<=e'/\e'<=255)⟩
 |_=>none
def C8o:List (Nat×CtE):=(27,e66)::(122,C8n)::C8m
def CP2:Tab:=A1V C8o A2z
def B2Q (l:List Cr):Bool:=l.any fun x=> !kdB x.2.2
def A27:List Cr->Int->Int
 |[],_=> -1
 |x::r,i=>cond (kdB x.2.2) (A27 r (i+1)) i
def l95 (l:List Cr):LpS L1 where
 ov c:=[(8,.int .i64 c.i)]
 bk c:=[]
 rd S:=match aget S.t 8 with
  |some (.int _ i)=>some ⟨i⟩
  |_=>none
 pre c:=∃n:Nat,c.i=n/\n<=l.length/\A27 (l.drop n) n=A27 l 0
 mu c:=l.length-c.i.toNat
def e95:CtE
 |[.imm (.vals a) n _,.fn 27 [] []]=>some ⟨.int .i64 (A27 (unC a) 0),[],some (okA a n)⟩
 |_=>none
def C8p:List (Nat×CtE):=(53,e95)::C8o
def CP3:Tab:=A1V C8p A2z
def e65:CtE
 |[.imm (.vals a) n _,.fn 27 [] []]=>some ⟨.bool (B2Q (unC a)),[],some (okA a n)⟩
 |_=>none
def C8q:List (Nat×CtE):=(26,e65)::C8p
def CP4:Tab:=A1V C8q A2z
def A3t (w h:Int)(x:Cr):Bool:=okN w h x.1 x.2.1&&leb x.1 (nbI w h x.1 x.2.1)
def A62:List Cr->Bool
 |[]=>true
 |x::r=>(match r with
  |[]=>true
  |y::_=>ltb (A6C x.1 x.2.1 y.1 y.2.1) 0)&&A62 r
def chkI (w h:Int)(l:List Cr):Int:=cond (okS w h) (cond (B2Q l) 1 (cond (l.all (A3t w h)) (cond (A62 l) 0 6) 7)) 1
def edg (l:List Cr):Prop:=∀x∈l,0<=x.2.1/\x.2.1<=255
def l27 (w h:Int)(l:List Cr):LpS L1 where
 ov c:=[(21,.int .i64 c.i)]
 bk c:=[]
 rd S:=match aget S.t 21 with
  |some (.int _ i)=>some ⟨i⟩
  |_=>none
 pre c:=∃n:Nat,c.i=n/\n<=l.length/\(l.take n).all (A3t w h)=true
 mu c:=l.length-c.i.toNat
def m27 (l:List Cr):LpS L1 where
 ov c:=[(8,.int .i64 c.i)]
 bk c:=[]
 rd S:=match aget S.t 8 with
  |some (.int _ i)=>some ⟨i⟩
  |_=>none
 pre c:=∃n:Nat,c.i=n+1/\A62 (l.drop n)=A62 l
 mu c:=l.length-c.i.toNat
def e27:CtE
 |[.agg [.int .i64 w,.int .i64 h,.imm (.vals a) n _]]=>some ⟨.int .i64 (chkI w h (unC a)),[],some (okA a n/\edg (unC a))⟩
 |_=>none
def cdC (x:Cr):Int:=3*x.1+x.2.1
def lbN (c:Int):List Cr->Nat
 |[]=>0
 |x::r=>cond (ltb (cdC x) c) (lbN c r+1) 0
def lbI (l:List Cr)(c e:Int):Int:=(lbN (3*c+e) l:Int)
def fdB (l:List Cr)(c e:Int):Bool:=ltb (lbI l c e) l.length&&(cdC (l[lbN (3*c+e) l]?.getD (0,0,0))==3*c+e)
def srt (l:List Cr):Prop:=l.Pairwise (fun x y=>cdC x<cdC y)/\∀x∈l,sml x.1/\0<=x.2.1/\x.2.1<=2
structure L2 where (i j:Int)
def D3B (c:Int)(l:List Cr):LpS L2 where
 ov b:=[(9,.int .i64 b.i),(10,.int .i64 b.j)]
 bk b:=[]
 rd S:=match aget S.t 9,aget S.t 10 with
  |some (.int _ i),some (.int _ j)=>some ⟨i,j⟩
  |_,_=>none
 pre b:=∃n m:Nat,b.i=n/\b.j=m/\n<=m/\m<=l.length/\(∀k,k<n->cdC (l[k]?.getD (0,0,0))<c)/\(∀k,m<=k->k<l.length->c<=cdC (l[k]?.getD (0,0,0)))
 mu b:=(b.j-b.i).toNat
def C8r:CtE
 |[.imm (.vals a) n _,.agg [.int .i64 c,.int .u8 e],.fn 122 [] []]=>some ⟨.tup [.int .i64 (lbI (unC a) c e),.bool (fdB (unC a) c e)],[],some (okA a n/\srt (unC a)/\sml c/\0<=e/\e<=2)⟩
 |_=>none
def C8s:List (Nat×CtE):=(7,e27)::(121,C8r)::C8q
def CP5:Tab:=A1V C8s A2z
def e87:CtE
 |[.imm (.vals a) n _,.agg [.int .i64 c,.int .u8 e]]=>some ⟨.tup [.int .i64 (lbI (unC a) c e),.bool (fdB (unC a) c e)],[],some (okA a n/\srt (unC a)/\sml c/\0<=e/\e<=2)⟩
 |_=>none
def C8t:List (Nat×CtE):=(90,e87)::C8s
def CP6:Tab:=A1V C8t A2z
def atE (w h:Int)(l:List Cr)(i e:Int):Int:=cond (chkI w h l==0) (neE w h i e) (chkI w h l)
def atB (w h:Int)(l:List Cr)(i e:Int):Bool:=atE w h l i e==0
def atC (w h:Int)(l:List Cr)(i e:Int):Int:=bI (atB w h l i e) (nmC w h i e) 0
def atD (w h:Int)(l:List Cr)(i e:Int):Int:=bI (atB w h l i e) (nmE w h i e) 0
def atI (w h:Int)(l:List Cr)(i e:Int):Int:=bI (atB w h l i e) (lbI l (nmC w h i e) (nmE w h i e)) 0
def atF (w h:Int)(l:List Cr)(i e:Int):Bool:=atB w h l i e&&fdB l (nmC w h i e) (nmE w h i e)
def e50:CtE
 |[.agg [.int .i64 w,.int .i64 h,.imm (.vals a) n _],.int .i64 i,.int .u8 e]=>some ⟨.tup [.agg [.int .i64 (atC w h (unC a) i e),.int .u8 (atD w h (unC a) i e)],.int .i64 (atI w h (unC a) i e),.bool (atF w h (unC a) i e),.int .i64 (atE w h (unC a) i e)],[],
   some (okA a n/\edg (unC a)/\0<=e/\e<=255)⟩
 |_=>none
def D2q:List (Nat×CtE):=(61,e50)::C8t
def CP7:Tab:=A1V D2q A2z
def knI (w h:Int)(l:List Cr)(i e:Int):Int:=bI (atF w h l i e) (cK l (atI w h l i e)) 0
def e16:CtE
 |[.agg [.int .i64 w,.int .i64 h,.imm (.vals a) n _],.int .i64 i,.int .u8 e]=>some ⟨.tup [.int .u8 (knI w h (unC a) i e),.int .i64 (atE w h (unC a) i e)],[],some (okA a n/\edg (unC a)/\0<=e/\e<=255)⟩
 |_=>none
end Go.Proofs.YtfafinkgmhkdmaaGreatDoor.P
