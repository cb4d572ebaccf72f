/-
 What the functions on cells, sheets and patterns compute.
-/
import Derived.Test.YtfafinkgmhkdmaaGreatDoorVDZ
set_option maxRecDepth 1000000
set_option linter.unusedVariables false
namespace Go.Proofs.YtfafinkgmhkdmaaGreatDoor.P
open Go Go.Ab Go.Proofs.YtfafinkgmhkdmaaGreatDoor.X
def qrt (a:Int)(b:Int)(k c:Int)(n:List (Int×Int×Int))(o1 o2 t1 t2:Int):List AV:=
 [.int .i64 a,.int .i64 b,.int .u8 k,.int .i64 c]++n.flatMap (fun x=>[.int .i64 x.1,.int .i64 x.2.1,.int .u8 x.2.2])++[.int .i64 o1,.int .i64 o2,.int .i64 t1,.int .i64 t2]
def B7F:Cont:=.vals (qrt 0 (-1) 2 0 [(0,-1,2),(0,0,1),(0,0,3)] 0 0 2 0++qrt 1 0 1 1 [(1,0,3),(0,0,0),(0,0,2)] 2 2 2 0++
 qrt 0 1 2 1 [(0,1,0),(0,0,3),(0,0,1)] 2 2 0 2++qrt (-1) 0 1 0 [(-1,0,1),(0,0,2),(0,0,0)] 0 0 0 2)
def bI (b:Bool)(x y:Int):Int:=cond b x y
def T0:Tab:=A1V [] A2z
theorem A26:TabOk Tryz.prog G T0:=A0m A0s trivial
def sml (x:Int):Prop:= -1000000<=x/\x<=1000000
structure L42 where (k o c:Int)
def hf (x:Int):Int:=(x-1).tdiv 2
def C3x (x:Int):Prop:= -1000<=x/\x<=1000
structure L89 where (i:Int)
def nbX (x q e:Int):Int:=if e=0 then(if q=1 then x+1 else if q=3 then x-1 else x)else x
def nbY (y q e:Int):Int:=if e=0 then(if q=2 then y+1 else if q=0 then y-1 else y)else y
def nbQ (q e:Int):Int:=if e=0 then(if q<=1 then q+2 else q-2)else if e=1 then(if q=0 then 1 else if q=1 then 0 else if q=2 then 3 else 2)else 3-q
def okS (w h:Int):Bool:=decide (1<=w/\1<=h/\w<=256/\h<=256/\w*h<=256)
def e64:CtE
 |[.agg [.int .i64 w,.int .i64 h]]=>some ⟨.int .i64 (bI (okS w h) 0 1),[],none⟩
 |_=>none
def e29:CtE
 |[.agg [.int .i64 w,.int .i64 h]]=>some ⟨.int .i64 (bI (okS w h) 1 0),[],none⟩
 |_=>none
def okCl (x y q:Int):Bool:=decide (-4096<=x/\x<=4096/\ -4096<=y/\y<=4096/\q<=3)
def e92:CtE
 |[.agg [.int .i64 x,.int .i64 y,.int .u8 q]]=>some ⟨.int .i64 (bI (okCl x y q) 0 1),[],none⟩
 |_=>none
def A47 (w h i:Int):Bool:=decide (0<=i/\i<4*w*h)
def e90:CtE
 |[.agg [.int .i64 w,.int .i64 h],.int .i64 i]=>some ⟨.bool (A47 w h i),[],some (okS w h=true)⟩
 |_=>none
def qX (w i:Int):Int:=(i.tdiv 4).tmod w
def qY (w i:Int):Int:=(i.tdiv 4).tdiv w
def qQ (i:Int):Int:=i.tmod 4
def e91:CtE
 |[.agg [.int .i64 w,.int .i64 h],.int .i64 i]=>some ⟨.agg [.int .i64 (qX w i),.int .i64 (qY w i),.int .u8 (qQ i)],[],some (okS w h=true/\A47 w h i=true)⟩
 |_=>none
def ceE (w h i:Int):Int:=bI (okS w h) (bI (A47 w h i) 0 7) 1
def okI (w h i:Int):Bool:=okS w h&&A47 w h i
def e56:CtE
 |[.agg [.int .i64 w,.int .i64 h],.int .i64 i]=>some ⟨.tup [.agg [.int .i64 (bI (okI w h i) (qX w i) 0),.int .i64 (bI (okI w h i) (qY w i) 0),.int .u8 (bI (okI w h i) (qQ i) 0)],.int .i64 (ceE w h i)],[],none⟩
 |_=>none
def inB (w h x y:Int):Bool:=decide (0<=x/\x<w/\0<=y/\y<h)
def e57:CtE
 |[.agg [.int .i64 w,.int .i64 h],.agg [.int .i64 x,.int .i64 y,.int .u8 q]]=>some ⟨.tup [.int .i64 (bI (inB w h x y) (4*(y*w+x)+q) 0),.int .i64 (bI (inB w h x y) 0 7)],[],some (okS w h=true/\0<=q/\q<=3/\C3x x/\C3x y)⟩
 |_=>none
def e96:CtE
 |[.agg [.int .i64 x,.int .i64 y,.int .u8 q],.int .u8 e]=>some ⟨.tup [.agg [.int .i64 (bI (decide (e<=2)) (nbX x q e) 0),.int .i64 (bI (decide (e<=2)) (nbY y q e) 0),.int .u8 (bI (decide (e<=2)) (nbQ q e) 0)],.int .i64 (bI (decide (e<=2)) 0 1)],[],
   some (-900<=x/\x<=900/\ -900<=y/\y<=900/\0<=q/\q<=3/\0<=e)⟩
 |_=>none
def cS':List (Nat×CtE):=(25,e64)::(85,e92)::[]
def C8d:List (Nat×CtE):=(118,e90)::(119,e91)::cS'
def CS2:Tab:=A1V C8d A2z
def nbI (w h i e:Int):Int:=cond (inB w h (nbX (qX w i) (qQ i) e) (nbY (qY w i) (qQ i) e)) (4*(nbY (qY w i) (qQ i) e*w+nbX (qX w i) (qQ i) e)+nbQ (qQ i) e) (-1)
def neE (w h i e:Int):Int:=cond (okI w h i) (cond (decide (e<=2)) (bI (leb 0 (nbI w h i e)) 0 7) 1) (ceE w h i)
def okN (w h i e:Int):Bool:=okI w h i&&(decide (e<=2)&&leb 0 (nbI w h i e))
def e70:CtE
 |[.agg [.int .i64 w,.int .i64 h],.int .i64 i,.int .u8 e]=>some ⟨.tup [.int .i64 (bI (okN w h i e) (nbI w h i e) 0),.int .i64 (neE w h i e)],[],some (0<=e)⟩
 |_=>none
def nmC (w h i e:Int):Int:=bI (okN w h i e) (min i (nbI w h i e)) 0
def nmE (w h i e:Int):Int:=bI (okN w h i e) e 0
def e58:CtE
 |[.agg [.int .i64 w,.int .i64 h],.int .i64 i,.int .u8 e]=>some ⟨.tup [.agg [.int .i64 (nmC w h i e),.int .u8 (nmE w h i e)],.int .i64 (neE w h i e)],[],some (0<=e)⟩
 |_=>none
def C8e:List (Nat×CtE):=(84,e56)::(56,e57)::(60,e96)::C8d
def CS3:Tab:=A1V C8e A2z
def C8f:List (Nat×CtE):=(54,e70)::C8e
def CS4:Tab:=A1V C8f A2z
def s5 (w h:Int):Prop:=1<=w/\w<=5/\1<=h/\h<=5
theorem C3y (w h:Int):fnP (T0) G 10000 C5T (.r [] 0 (.rs 4 [] 1 6 (.r [] 255 (.lit (.r [] 0 .nil))) (.rs 5 [] 7 11 (.r [] 63 (.lit (.r [] 0 .nil))) (.rs 5 [] 7 16 (.r [] 15 (.lit (.r [] 0 .nil))) (.rs 5 [] 7 21 (.r [] 3 (.lit (.r [] 0 .nil))) (.r [] 27 (.cnd (.r [] 0 .nil) (.r [] 0 .nil)))))))) ([.agg [.int .i64 w,.int .i64 h]]) ([.int .i64 (bI (okS w h) 0 1)]) ([])=(
(ltb w 1=true->1=bI (okS w h) 0 1/\True)/\(ltb w 1=false->(ltb h 1=true->1=bI (okS w h) 0 1/\True)/\(ltb h 1=false->(ltb 256 w=true->1=bI (okS w h) 0 1/\True)/\(ltb 256 w=
false->(ltb 256 h=true->1=bI (okS w h) 0 1/\True)/\(ltb 256 h=false->inR IntKind.i64 (w*h)=true/\(ltb 256 (w*h)=true->1=bI (okS w h) 0 1/\True)/\(ltb 256 (w*h)=false->0=
bI (okS w h) 0 1/\True)))))):=by kernel_rfl
theorem C3z (x y q:Int):fnP (T0) G 10000 C6p (.r [] 0 (.rs 4 [] 1 6 (.r [] 255 (.lit (.r [] 0 .nil))) (.rs 5 [] 7 11 (.r [] 63 (.lit (.r [] 0 .nil))) (.rs 5 [] 7 16 (.r [] 15 (.lit (.r [] 0 .nil))) (.rs 5 [] 7 21 (.r [] 3 (.lit (.r [] 0 .nil))) (.r [] 7 (.cnd (.r [] 0 .nil) (.r [] 0 .nil)))))))) ([.agg [.int .i64 x,.int .i64 y,.int .u8 q]]) ([.int .i64 (bI (okCl x y q) 0 1)]) ([])=(
(ltb x (-4096)=true->1=bI (okCl x y q) 0 1/\True)/\(ltb x (-4096)=false->(ltb 4096 x=true->1=bI (okCl x y q) 0 1/\True)/\(ltb 4096 x=false->(ltb y (-4096)=true->1=bI (okCl x y
q) 0 1/\True)/\(ltb y (-4096)=false->(ltb 4096 y=true->1=bI (okCl x y q) 0 1/\True)/\(ltb 4096 y=false->(ltb 3 q=true->1=bI (okCl x y q) 0 1/\True)/\(ltb 3 q=false->0=bI
(okCl x y q) 0 1/\True)))))):=by kernel_rfl
theorem C3A (w h i:Int):fnP (T0) G 10000 B7x (.r [] 0 (.rs 3 [] 0 7 (.r [] 53 .nil) (.r [] 3 .nil))) ([.agg [.int .i64 w,.int .i64 h],.int .i64 i]) ([.bool (A47 w h i)]) ([])=(
(leb 0 i=true->inR IntKind.i64 (4*w)=true/\inR IntKind.i64 (4*w*h)=true/\ltb i (4*w*h)=A47 w h i/\True)/\(leb 0 i=false->false=A47 w h i/\True)):=by kernel_rfl
theorem C3B (w h i:Int):fnP (T0) G 10000 B7y (.r [] 0 (.r [] 2662 .nil)) ([.agg [.int .i64 w,.int .i64 h],.int .i64 i]) ([.agg [.int .i64 (qX w i),.int .i64 (qY w i),.int .u8 (qQ i)]]) ([])=(
inR IntKind.i64 (Int.tdiv i 4)=true/\(!w==0)=true/\inR IntKind.i64 (Int.tdiv i 4)=true/\inR IntKind.i64 (Int.tdiv (Int.tdiv i 4) w)=true/\(!w==0)=true/\inR IntKind.u8 (Int.tmod i 4)
=true/\Int.tmod (Int.tdiv i 4) w=qX w i/\Int.tdiv (Int.tdiv i 4) w=qY w i/\Int.tmod i 4=qQ i/\True):=by kernel_rfl
theorem C3C (w h i:Int):fnP (CS2) G 10000 C6o (.r [] 0 (.r [] 3 (.r [] 0 (.cnd (.r [] 1 .nil) (.r [] 1 (.cnd (.r [] 1 .nil) (.r [] 5 .nil))))))) ([.agg [.int .i64 w,.int .i64 h],.int .i64 i]) ([.agg [.int .i64 (bI (okI w h i) (qX w i) 0),.int .i64 (bI (okI w h i) (qY w i) 0),.int .u8 (bI (okI w h i) (qQ i) 0)],.int .i64 (ceE w h i)]) ([])=(
((bI (okS w h) 0 1 !=0)=true->0=bI (okI w h i) (qX w i) 0/\0=bI (okI w h i) (qY w i) 0/\0=bI (okI w h i) (qQ i) 0/\bI (okS w h) 0 1=ceE w h i/\True)/\((bI (okS w h) 0 1 !=0)=false
->okS w h=true/\((!A47 w h i)=true->0=bI (okI w h i) (qX w i) 0/\0=bI (okI w h i) (qY w i) 0/\0=bI (okI w h i) (qQ i) 0/\7=ceE w h i/\True)/\((!A47 w h i)=false->(okS w h=
true/\A47 w h i=true)/\qX w i=bI (okI w h i) (qX w i) 0/\qY w i=bI (okI w h i) (qY w i) 0/\qQ i=bI (okI w h i) (qQ i) 0/\0=ceE w h i/\True))):=by kernel_rfl
theorem C3D (w h x y q:Int):fnP (CS2) G 10000 C6c (.r [] 0 (.r [] 3 (.r [] 0 (.cnd (.r [] 0 .nil) (.rs 4 [] 3 15 (.r [] 255 (.lit (.r [] 0 .nil))) (.rs 5 [] 7 20 (.r [] 63 (.lit (.r [] 0 .nil))) (.rs 7 [] 15 27 (.r [] 15 (.lit (.r [] 0 .nil))) (.rs 5 [] 7 32 (.r [] 3 (.lit (.r [] 0 .nil))) (.r [] 15 (.cnd (.r [] 0 .nil) (.r [] 75 .nil))))))))))) ([.agg [.int .i64 w,.int .i64 h],.agg [.int .i64 x,.int .i64 y,.int .u8 q]]) ([.int .i64 (bI (inB w h x y) (4*(y*w+x)+q) 0),.int .i64 (bI (inB w h x y) 0 7)]) ([])=(
((bI (okS w h) 0 1 !=0)=true->0=bI (inB w h x y) (4*(y*w+x)+q) 0/\bI (okS w h) 0 1=bI (inB w h x y) 0 7/\True)/\((bI (okS w h) 0 1 !=0)=false->((bI (okCl x y q) 0 1 !=0)=true
->0=bI (inB w h x y) (4*(y*w+x)+q) 0/\7=bI (inB w h x y) 0 7/\True)/\((bI (okCl x y q) 0 1 !=0)=false->(ltb x 0=true->0=bI (inB w h x y) (4*(y*w+x)+q) 0/\7=bI (inB w
h x y) 0 7/\True)/\(ltb x 0=false->(leb w x=true->0=bI (inB w h x y) (4*(y*w+x)+q) 0/\7=bI (inB w h x y) 0 7/\True)/\(leb w x=false->(ltb y 0=true->0=bI (inB w h x y) (4
*(y*w+x)+q) 0/\7=bI (inB w h x y) 0 7/\True)/\(ltb y 0=false->(leb h y=true->0=bI (inB w h x y) (4*(y*w+x)+q) 0/\7=bI (inB w h x y) 0 7/\True)/\(leb h y=false->inR
IntKind.i64 (y*w)=true/\inR IntKind.i64 (y*w+x)=true/\inR IntKind.i64 (4*(y*w+x))=true/\inR IntKind.i64 q=true/\inR IntKind.i64 (4*(y*w+x)+q)=true/\4*(y*w+x)+
q=bI (inB w h x y) (4*(y*w+x)+q) 0/\0=bI (inB w h x y) 0 7/\True))))))):=by kernel_rfl
theorem C3E (x y q e:Int):fnP (CS2) G 10000 C6f (.r [] 0 (.rs 4 [] 3 10 (.r [] 3 (.lit (.r [] 1 .nil))) (.r [] 3 (.cnd (.r [] 1 .nil) (.r [(262,.auto,Dr.val [AV.int IntKind.i64 (nbX 0 q e),AV.int IntKind.i64 (nbY 0 q e),AV.int IntKind.u8 (nbQ q e)])] 257 (.r [] 219 (.r [] 3 (.cnd (.r [] 1 .nil) (.r [] 3 .nil))))))))) ([.agg [.int .i64 x,.int .i64 y,.int .u8 q],.int .u8 e]) ([.agg [.int .i64 (bI (decide (e<=2)) (nbX x q e) 0),.int .i64 (bI (decide (e<=2)) (nbY y q e) 0),.int .u8 (bI (decide (e<=2)) (nbQ q e) 0)],.int .i64 (bI (decide (e<=2)) 0 1)]) ([])=(
((bI (okCl x y q) 0 1 !=0)=true->0=bI (decide (e<=2)) (nbX x q e) 0/\0=bI (decide (e<=2)) (nbY y q e) 0/\0=bI (decide (e<=2)) (nbQ q e) 0/\1=bI (decide (e<=2)) 0 1/\True)/\((bI
(okCl x y q) 0 1 !=0)=false->(ltb 2 e=true->0=bI (decide (e<=2)) (nbX x q e) 0/\0=bI (decide (e<=2)) (nbY y q e) 0/\0=bI (decide (e<=2)) (nbQ q e) 0/\1=bI (decide (e<=2)) 0 1/\
True)/\(ltb 2 e=false->leb 0 q=true/\ltb q 4=true/\leb 0 e=true/\ltb e 3=true/\(List.drop (Int.toNat e*3) (List.drop 4 (List.drop (Int.toNat q*17) [AV.int IntKind.i64 0,AV.int
IntKind.i64 (-1),AV.int IntKind.u8 2,AV.int IntKind.i64 0,AV.int IntKind.i64 0,AV.int IntKind.i64 (-1),AV.int IntKind.u8 2,AV.int IntKind.i64 0,AV.int IntKind.i64 0,AV.int IntKind.u8 1,AV.int
IntKind.i64 0,AV.int IntKind.i64 0,AV.int IntKind.u8 3,AV.int IntKind.i64 0,AV.int IntKind.i64 0,AV.int IntKind.i64 2,AV.int IntKind.i64 0,AV.int IntKind.i64 1,AV.int IntKind.i64 0,AV.int
IntKind.u8 1,AV.int IntKind.i64 1,AV.int IntKind.i64 1,AV.int IntKind.i64 0,AV.int IntKind.u8 3,AV.int IntKind.i64 0,AV.int IntKind.i64 0,AV.int IntKind.u8 0,AV.int IntKind.i64 0,AV.int
IntKind.i64 0,AV.int IntKind.u8 2,AV.int IntKind.i64 2,AV.int IntKind.i64 2,AV.int IntKind.i64 2,AV.int IntKind.i64 0,AV.int IntKind.i64 0,AV.int IntKind.i64 1,AV.int IntKind.u8 2,AV.int
IntKind.i64 1,AV.int IntKind.i64 0,AV.int IntKind.i64 1,AV.int IntKind.u8 0,AV.int IntKind.i64 0,AV.int IntKind.i64 0,AV.int IntKind.u8 3,AV.int IntKind.i64 0,AV.int IntKind.i64 0,AV.int
IntKind.u8 1,AV.int IntKind.i64 2,AV.int IntKind.i64 2,AV.int IntKind.i64 0,AV.int IntKind.i64 2,AV.int IntKind.i64 (-1),AV.int IntKind.i64 0,AV.int IntKind.u8 1,AV.int IntKind.i64 0,AV.int
IntKind.i64 (-1),AV.int IntKind.i64 0,AV.int IntKind.u8 1,AV.int IntKind.i64 0,AV.int IntKind.i64 0,AV.int IntKind.u8 2,AV.int IntKind.i64 0,AV.int IntKind.i64 0,AV.int IntKind.u8 0,AV.int
IntKind.i64 0,AV.int IntKind.i64 0,AV.int IntKind.i64 0,AV.int IntKind.i64 2])))[0]? =some (AV.int IntKind.i64 (nbX 0 q e))/\(List.drop (Int.toNat e*3) (List.drop 4 (List.drop (Int.toNat q*
17) [AV.int IntKind.i64 0,AV.int IntKind.i64 (-1),AV.int IntKind.u8 2,AV.int IntKind.i64 0,AV.int IntKind.i64 0,AV.int IntKind.i64 (-1),AV.int IntKind.u8 2,AV.int IntKind.i64 0,AV.int
IntKind.i64 0,AV.int IntKind.u8 1,AV.int IntKind.i64 0,AV.int IntKind.i64 0,AV.int IntKind.u8 3,AV.int IntKind.i64 0,AV.int IntKind.i64 0,AV.int IntKind.i64 2,AV.int IntKind.i64 0,AV.int
IntKind.i64 1,AV.int IntKind.i64 0,AV.int IntKind.u8 1,AV.int IntKind.i64 1,AV.int IntKind.i64 1,AV.int IntKind.i64 0,AV.int IntKind.u8 3,AV.int IntKind.i64 0,AV.int IntKind.i64 0,AV.int
IntKind.u8 0,AV.int IntKind.i64 0,AV.int IntKind.i64 0,AV.int IntKind.u8 2,AV.int IntKind.i64 2,AV.int IntKind.i64 2,AV.int IntKind.i64 2,AV.int IntKind.i64 0,AV.int IntKind.i64 0,AV.int
IntKind.i64 1,AV.int IntKind.u8 2,AV.int IntKind.i64 1,AV.int IntKind.i64 0,AV.int IntKind.i64 1,AV.int IntKind.u8 0,AV.int IntKind.i64 0,AV.int IntKind.i64 0,AV.int IntKind.u8 3,AV.int
IntKind.i64 0,AV.int IntKind.i64 0,AV.int IntKind.u8 1,AV.int IntKind.i64 2,AV.int IntKind.i64 2,AV.int IntKind.i64 0,AV.int IntKind.i64 2,AV.int IntKind.i64 (-1),AV.int IntKind.i64 0,AV.int
IntKind.u8 1,AV.int IntKind.i64 0,AV.int IntKind.i64 (-1),AV.int IntKind.i64 0,AV.int IntKind.u8 1,AV.int IntKind.i64 0,AV.int IntKind.i64 0,AV.int IntKind.u8 2,AV.int IntKind.i64 0,AV.int
IntKind.i64 0,AV.int IntKind.u8 0,AV.int IntKind.i64 0,AV.int IntKind.i64 0,AV.int IntKind.i64 0,AV.int IntKind.i64 2])))[1]? =some (AV.int IntKind.i64 (nbY 0 q e))/\(List.drop (Int.toNat e*
3) (List.drop 4 (List.drop (Int.toNat q*17) [AV.int IntKind.i64 0,AV.int IntKind.i64 (-1),AV.int IntKind.u8 2,AV.int IntKind.i64 0,AV.int IntKind.i64 0,AV.int IntKind.i64 (-1),AV.int
IntKind.u8 2,AV.int IntKind.i64 0,AV.int IntKind.i64 0,AV.int IntKind.u8 1,AV.int IntKind.i64 0,AV.int IntKind.i64 0,AV.int IntKind.u8 3,AV.int IntKind.i64 0,AV.int IntKind.i64 0,AV.int
IntKind.i64 2,AV.int IntKind.i64 0,AV.int IntKind.i64 1,AV.int IntKind.i64 0,AV.int IntKind.u8 1,AV.int IntKind.i64 1,AV.int IntKind.i64 1,AV.int IntKind.i64 0,AV.int IntKind.u8 3,AV.int
IntKind.i64 0,AV.int IntKind.i64 0,AV.int IntKind.u8 0,AV.int IntKind.i64 0,AV.int IntKind.i64 0,AV.int IntKind.u8 2,AV.int IntKind.i64 2,AV.int IntKind.i64 2,AV.int IntKind.i64 2,AV.int
IntKind.i64 0,AV.int IntKind.i64 0,AV.int IntKind.i64 1,AV.int IntKind.u8 2,AV.int IntKind.i64 1,AV.int IntKind.i64 0,AV.int IntKind.i64 1,AV.int IntKind.u8 0,AV.int IntKind.i64 0,AV.int
IntKind.i64 0,AV.int IntKind.u8 3,AV.int IntKind.i64 0,AV.int IntKind.i64 0,AV.int IntKind.u8 1,AV.int IntKind.i64 2,AV.int IntKind.i64 2,AV.int IntKind.i64 0,AV.int IntKind.i64 2,AV.int
IntKind.i64 (-1),AV.int IntKind.i64 0,AV.int IntKind.u8 1,AV.int IntKind.i64 0,AV.int IntKind.i64 (-1),AV.int IntKind.i64 0,AV.int IntKind.u8 1,AV.int IntKind.i64 0,AV.int IntKind.i64 0,
AV.int IntKind.u8 2,AV.int IntKind.i64 0,AV.int IntKind.i64 0,AV.int IntKind.u8 0,AV.int IntKind.i64 0,AV.int IntKind.i64 0,AV.int IntKind.i64 0,AV.int IntKind.i64 2])))[2]? =some (AV.int
IntKind.u8 (nbQ q e))/\inR IntKind.i64 (nbX 0 q e+x)=true/\inR IntKind.i64 (nbY 0 q e+y)=true/\((bI (okCl (nbX 0 q e+x) (nbY 0 q e+y) (nbQ q e)) 0 1 !=0)=true->0=bI (decide (e<=
2)) (nbX x q e) 0/\0=bI (decide (e<=2)) (nbY y q e) 0/\0=bI (decide (e<=2)) (nbQ q e) 0/\3=bI (decide (e<=2)) 0 1/\True)/\((bI (okCl (nbX 0 q e+x) (nbY 0 q e+y) (nbQ q e)) 0 1 !=0)
=false->nbX 0 q e+x=bI (decide (e<=2)) (nbX x q e) 0/\nbY 0 q e+y=bI (decide (e<=2)) (nbY y q e) 0/\nbQ q e=bI (decide (e<=2)) (nbQ q e) 0/\0=bI (decide (e<=2)) 0 1/\True)))):=by kernel_rfl
theorem C3F (w h i e:Int):fnP (CS3) G 10000 C6b (.r [] 0 (.r [] 31 (.r [] 0 (.cnd (.r [] 0 .nil) (.r [] 29 (.r [] 0 (.cnd (.r [] 0 .nil) (.r [] 27 .nil)))))))) ([.agg [.int .i64 w,.int .i64 h],.int .i64 i,.int .u8 e]) ([.int .i64 (bI (okN w h i e) (nbI w h i e) 0),.int .i64 (neE w h i e)]) ([])=(
((ceE w h i !=0)=true->0=bI (okN w h i e) (nbI w h i e) 0/\ceE w h i=neE w h i e/\True)/\((ceE w h i !=0)=false->(-900<=bI (okI w h i) (qX w i) 0/\bI (okI w h i) (qX w i) 0<=900/\
-900<=bI (okI w h i) (qY w i) 0/\bI (okI w h i) (qY w i) 0<=900/\0<=bI (okI w h i) (qQ i) 0/\bI (okI w h i) (qQ i) 0<=3/\0<=e)/\((bI (decide (e<=2)) 0 1 !=0)=true->0=bI (okN w h i e)
(nbI w h i e) 0/\1=neE w h i e/\True)/\((bI (decide (e<=2)) 0 1 !=0)=false->(okS w h=true/\0<=bI (decide (e<=2)) (nbQ (bI (okI w h i) (qQ i) 0) e) 0/\bI (decide (e<=2)) (nbQ (bI (okI
w h i) (qQ i) 0) e) 0<=3/\(-1000<=bI (decide (e<=2)) (nbX (bI (okI w h i) (qX w i) 0) (bI (okI w h i) (qQ i) 0) e) 0/\bI (decide (e<=2)) (nbX (bI (okI w h i) (qX w i) 0) (bI (okI w h i) (qQ i)
0) e) 0<=1000)/\ -1000<=bI (decide (e<=2)) (nbY (bI (okI w h i) (qY w i) 0) (bI (okI w h i) (qQ i) 0) e) 0/\bI (decide (e<=2)) (nbY (bI (okI w h i) (qY w i) 0) (bI (okI w h i) (qQ i) 0) e) 0<=
1000)/\bI (inB w h (bI (decide (e<=2)) (nbX (bI (okI w h i) (qX w i) 0) (bI (okI w h i) (qQ i) 0) e) 0) (bI (decide (e<=2)) (nbY (bI (okI w h i) (qY w i) 0) (bI (okI w h i) (qQ i) 0) e) 0)) (4*
(bI (decide (e<=2)) (nbY (bI (okI w h i) (qY w i) 0) (bI (okI w h i) (qQ i) 0) e) 0*w+bI (decide (e<=2)) (nbX (bI (okI w h i) (qX w i) 0) (bI (okI w h i) (qQ i) 0) e) 0)+bI (decide (e<=2))
(nbQ (bI (okI w h i) (qQ i) 0) e) 0) 0=bI (okN w h i e) (nbI w h i e) 0/\bI (inB w h (bI (decide (e<=2)) (nbX (bI (okI w h i) (qX w i) 0) (bI (okI w h i) (qQ i) 0) e) 0) (bI (decide (e<=2)) (nbY
(bI (okI w h i) (qY w i) 0) (bI (okI w h i) (qQ i) 0) e) 0)) 0 7=neE w h i e/\True))):=by kernel_rfl
theorem B5I (w h i e:Int):fnP (CS4) G 10000 C5X (.r [] 0 (.r [] 13 (.r [] 0 (.cnd (.r [] 1 .nil) (.r [] 1 .nil))))) ([.agg [.int .i64 w,.int .i64 h],.int .i64 i,.int .u8 e]) ([.agg [.int .i64 (nmC w h i e),.int .u8 (nmE w h i e)],.int .i64 (neE w h i e)]) ([])=(
0<=e/\((neE w h i e !=0)=true->0=nmC w h i e/\0=nmE w h i e/\neE w h i e=neE w h i e/\True)/\((neE w h i e !=0)=false->(if bI (okN w h i e) (nbI w h i e) 0<i then bI (okN w h i
e) (nbI w h i e) 0 else i)=nmC w h i e/\e=nmE w h i e/\0=neE w h i e/\True)):=by kernel_rfl
set_option linter.unusedSimpArgs false
section
variable {x0 y0 x1 y1 x2 y2:Int}{n:Nat}
end
theorem C0k (b:Bool):(bI b 0 1 !=0)= !b:=by cases b<;>rfl
theorem A3s {w h:Int}:okS w h=true↔1<=w/\1<=h/\w<=256/\h<=256/\w*h<=256:=by unfold okS;rw[decide_eq_true_iff]
theorem C3G {w h:Int}:okS w h=false↔¬ (1<=w/\1<=h/\w<=256/\h<=256/\w*h<=256):=by unfold okS;rw[decide_eq_false_iff_not]
theorem A4f {w h i:Int}:A47 w h i=true↔0<=i/\i<4*w*h:=by unfold A47;rw[decide_eq_true_iff]
theorem C0l {w h i:Int}:A47 w h i=false↔¬ (0<=i/\i<4*w*h):=by unfold A47;rw[decide_eq_false_iff_not]
theorem B5J {w h x y:Int}:inB w h x y=true↔0<=x/\x<w/\0<=y/\y<h:=by unfold inB;rw[decide_eq_true_iff]
theorem C3H {w h x y:Int}:inB w h x y=false↔¬ (0<=x/\x<w/\0<=y/\y<h):=by unfold inB;rw[decide_eq_false_iff_not]
theorem A5p {x y q:Int}:okCl x y q=true↔ -4096<=x/\x<=4096/\ -4096<=y/\y<=4096/\q<=3:=by unfold okCl;rw[decide_eq_true_iff]
theorem C0m {x y q:Int}:okCl x y q=false↔¬ (-4096<=x/\x<=4096/\ -4096<=y/\y<=4096/\q<=3):=by unfold okCl;rw[decide_eq_false_iff_not]
theorem A6A {a b c d:Int}(h0:0<=b)(h1:0<=c)(h2:a<=c)(h3:b<=d):a*b<=c*d:=Int.mul_le_mul h2 h3 h0 h1
theorem B5K {w h:Int}(h1:1<=w)(h2:1<=h)(h3:w<=256)(h4:h<=256):1<=w*h/\w*h<=65536:=by
 have a:=A6A (a:=w) (b:=h) (c:=256) (d:=256) (by omega) (by omega) h3 h4;have b:=A6A (a:=1) (b:=1) (c:=w) (d:=h) (by omega) (by omega) h1 h2;omega
theorem A6B {w h i:Int}(hs:okS w h=true)(hb:A47 w h i=true):(0<=qX w i/\qX w i<w)/\(0<=qY w i/\qY w i<h)/\(0<=qQ i/\qQ i<=3)/\i=4*(qY w i*w+qX w i)+qQ i/\i.tdiv 4=i/4/\i.tmod 4=i%4/\i<1024/\0<=i:=by
 obtain⟨h1,h2,h3,h4,h5⟩:=A3s.1 hs;obtain⟨b1,b2⟩:=A4f.1 hb;have e4:4*w*h=4*(w*h):=Int.mul_assoc _ _ _;have d1:i.tdiv 4=i/4:=Int.tdiv_eq_ediv_of_nonneg b1;have d2:i.tmod 4=i%4:=Int.tmod_eq_emod_of_nonneg b1;have d3:(i/4).tmod w=(i/4)%w:=Int.tmod_eq_emod_of_nonneg (by omega);have d4:(i/4).tdiv w=(i/4)/w:=Int.tdiv_eq_ediv_of_nonneg (by omega);unfold qX qY qQ;rw[d1,d2,d3,d4];have m1:=Int.emod_nonneg (i/4) (by omega:w≠0);have m2:=Int.emod_lt_of_pos (i/4) (by omega:0<w);have m3:=Int.mul_ediv_add_emod (i/4) w;have c1:w*(i/4/w)=i/4/w*w:=Int.mul_comm _ _;have n1:0<=i/4/w:=Int.ediv_nonneg (by omega) (by omega);have n2:i/4/w<h:=Int.ediv_lt_of_lt_mul (by omega) (by rw[Int.mul_comm];omega);refine⟨⟨m1,m2⟩,⟨n1,n2⟩,by omega,by omega,rfl,rfl,by omega,by omega⟩
theorem B5L {q e:Int}(hq:0<=q/\q<=3)(he:0<=e/\e<=2):0<=nbQ q e/\nbQ q e<=3:=by
 unfold nbQ;split
 ·split<;>omega
 ·split
  ·split
   ·omega
   ·split
    ·omega
    ·split<;>omega
  ·omega
theorem A8V (x q e:Int):(x-1<=nbX x q e/\nbX x q e<=x+1)/\(x-1<=nbY x q e/\nbY x q e<=x+1)/\nbX 0 q e+x=nbX x q e/\nbY 0 q e+x=nbY x q e:=by
 unfold nbX nbY
 by_cases he:e=0
 ·simp only[he,if_true]
  by_cases h1:q=1
  ·subst h1;simp;omega
  ·by_cases h3:q=3
   ·subst h3;simp;omega
   ·by_cases h2:q=2
    ·subst h2;simp;omega
    ·by_cases h0:q=0
     ·subst h0;simp;omega
     ·simp[h0,h1,h2,h3];omega
 ·simp only[he,if_false];omega
theorem D3q (w h:Int):SpecP Tryz.prog G 25 [.agg [.int .i64 w,.int .i64 h]] (.int .i64 (bI (okS w h) 0 1)) []:=by
 refine A0d hcm hmx A26 D0D rfl (C3y w h) ?_;simp only[A0n,A0K,A0w,and_true];have hb:okS w h=true\/okS w h=false:=by cases okS w h<;>simp
 rcases hb with hb|hb
 ·rw[hb];have:=A3s.1 hb;have hm:=B5K this.1 this.2.1 this.2.2.1 this.2.2.2.1;refine⟨by omega,fun a=>⟨by omega,fun b=>⟨by omega,fun c=>⟨by omega,fun d=>⟨by omega,by omega,fun _=>rfl⟩⟩⟩⟩⟩
 ·rw[hb];have:=C3G.1 hb;refine⟨fun _=>rfl,fun a=>⟨fun _=>rfl,fun b=>⟨fun _=>rfl,fun c=>⟨fun _=>rfl,fun d=>⟨by have:=B5K (w:=w) (h:=h) (by omega) (by omega) (by omega) (by omega);omega,fun _=>rfl,fun e=>absurd ⟨by omega,by omega,by omega,by omega,by omega⟩ this⟩⟩⟩⟩⟩
theorem D3r (x y q:Int):SpecP Tryz.prog G 85 [.agg [.int .i64 x,.int .i64 y,.int .u8 q]] (.int .i64 (bI (okCl x y q) 0 1)) []:=by
 refine A0d hcm hmx A26 D16 rfl (C3z x y q) ?_;simp only[A0n,A0K,A0w,and_true];have hb:okCl x y q=true\/okCl x y q=false:=by cases okCl x y q<;>simp
 rcases hb with hb|hb
 ·rw[hb];have:=A5p.1 hb;refine⟨by omega,fun a=>⟨by omega,fun b=>⟨by omega,fun c=>⟨by omega,fun d=>⟨by omega,fun _=>rfl⟩⟩⟩⟩⟩
 ·rw[hb];have:=C0m.1 hb;refine⟨fun _=>rfl,fun a=>⟨fun _=>rfl,fun b=>⟨fun _=>rfl,fun c=>⟨fun _=>rfl,fun d=>⟨fun _=>rfl,fun e=>absurd ⟨by omega,by omega,by omega,by omega,by omega⟩ this⟩⟩⟩⟩⟩
theorem D3s (w h i:Int)(hs:okS w h=true):SpecP Tryz.prog G 118 [.agg [.int .i64 w,.int .i64 h],.int .i64 i] (.bool (A47 w h i)) []:=by
 refine A0d hcm hmx A26 C2K rfl (C3A w h i) ?_;have e4:4*w*h=4*(w*h):=Int.mul_assoc _ _ _;obtain⟨h1,h2,h3,h4,h5⟩:=A3s.1 hs;have hm:=B5K h1 h2 h3 h4;simp only[A0H,A09,A0w,and_true];refine⟨fun h0=>⟨by omega,by omega,?_⟩,fun h0=>?_⟩
 ·cases hb:A47 w h i with
  |true=>have:=A4f.1 hb;simp only[A0n];omega
  |false=>have:=C0l.1 hb;simp only[A0K];omega
 ·cases hb:A47 w h i with
  |true=>have:=A4f.1 hb;omega
  |false=>rfl
theorem D3t (w h i:Int)(hs:okS w h=true)(hb:A47 w h i=true):SpecP Tryz.prog G 119 [.agg [.int .i64 w,.int .i64 h],.int .i64 i] (.agg [.int .i64 (qX w i),.int .i64 (qY w i),.int .u8 (qQ i)]) []:=by
 refine A0d hcm hmx A26 C2M rfl (C3B w h i) ?_;obtain⟨⟨a1,a2⟩,⟨a3,a4⟩,⟨a5,a6⟩,a7,a8,a9,a10,a11⟩:=A6B hs hb;obtain⟨h1,h2,h3,h4,h5⟩:=A3s.1 hs;have e1:Int.tdiv (Int.tdiv i 4) w=qY w i:=rfl;have e2:i.tmod 4=qQ i:=rfl;rw[e1,e2];simp only[A0w,A1t,and_true,Bool.not_eq_true',beq_eq_false_iff_ne,ne_eq];exact⟨by omega,by omega,by omega,by omega,by omega,by omega,rfl⟩
theorem ct64:A06 Tryz.prog G 25 e64:=by
 intro args r h hp;unfold e64 at h;split at h<;>cases h;exact(D3q _ _).caps
theorem ct92:A06 Tryz.prog G 85 e92:=by
 intro args r h hp;unfold e92 at h;split at h<;>cases h;exact(D3r _ _ _).caps
theorem D3u:A06 Tryz.prog G 118 e90:=by
 intro args r h hp;unfold e90 at h;split at h<;>cases h;exact(D3s _ _ _ hp).caps
theorem D3v:A06 Tryz.prog G 119 e91:=by
 intro args r h hp;unfold e91 at h;split at h<;>cases h;exact(D3t _ _ _ hp.1 hp.2).caps
theorem C8g:A1Z Tryz.prog G cS':=⟨ct64,ct92,trivial⟩
theorem C3I:A1Z Tryz.prog G C8d:=⟨D3u,D3v,C8g⟩
theorem C0n:TabOk Tryz.prog G CS2:=A0m A0s C3I
theorem A1A (b:Bool):b=true\/b=false:=by cases b<;>simp
theorem D3w (w h i:Int):SpecP Tryz.prog G 84 [.agg [.int .i64 w,.int .i64 h],.int .i64 i] (.tup [.agg [.int .i64 (bI (okI w h i) (qX w i) 0),.int .i64 (bI (okI w h i) (qY w i) 0),.int .u8 (bI (okI w h i) (qQ i) 0)],.int .i64 (ceE w h i)]) []:=by
 refine A0d hcm hmx C0n D14 rfl (C3C w h i) ?_;unfold okI ceE;rw[C0k];rcases A1A (okS w h)with h1|h1<;>rcases A1A (A47 w h i)with h2|h2<;>rw[h1,h2]<;>simp[bI]
theorem C8h (w h x y q:Int)(hs:okS w h=true)(hq:0<=q/\q<=3)(hx:C3x x)(hy:C3x y):SpecP Tryz.prog G 56 [.agg [.int .i64 w,.int .i64 h],.agg [.int .i64 x,.int .i64 y,.int .u8 q]] (.tup [.int .i64 (bI (inB w h x y) (4*(y*w+x)+q) 0),.int .i64 (bI (inB w h x y) 0 7)]) []:=by
 refine A0d hcm hmx C0n D1r rfl (C3D w h x y q) ?_;unfold C3x at hx hy;have hc:okCl x y q=true:=A5p.2 ⟨by omega,by omega,by omega,by omega,by omega⟩;obtain⟨h1,h2,h3,h4,h5⟩:=A3s.1 hs;rw[C0k,C0k,hs,hc];simp only[A0n,A0K,A0H,A09,A0w,and_true,Bool.not_true,Bool.false_eq_true,false_implies,true_and,true_implies];rcases A1A (inB w h x y)with hb|hb<;>rw[hb]
 ·have hi:=B5J.1 hb;have hm:=A6A (a:=y) (b:=w) (c:=256) (d:=256) (by omega) (by omega) (by omega) (by omega);have hm0:0<=y*w:=Int.mul_nonneg (by omega) (by omega);exact⟨by omega,fun _=>⟨by omega,fun _=>⟨by omega,fun _=>⟨by omega,fun _=>⟨by omega,by omega,by omega,by omega,by omega,rfl,rfl⟩⟩⟩⟩⟩
 ·have hi:=C3H.1 hb;exact⟨fun _=>⟨rfl,rfl⟩,fun a=>⟨fun _=>⟨rfl,rfl⟩,fun b=>⟨fun _=>⟨rfl,rfl⟩,fun c=>⟨fun _=>⟨rfl,rfl⟩,fun d=>absurd ⟨by omega,by omega,by omega,by omega⟩ hi⟩⟩⟩⟩
theorem D3x (x y q e:Int)(hx: -900<=x/\x<=900)(hy: -900<=y/\y<=900)(hq:0<=q/\q<=3)(he:0<=e):SpecP Tryz.prog G 60 [.agg [.int .i64 x,.int .i64 y,.int .u8 q],.int .u8 e] (.tup [.agg [.int .i64 (bI (decide (e<=2)) (nbX x q e) 0),.int .i64 (bI (decide (e<=2)) (nbY y q e) 0),.int .u8 (bI (decide (e<=2)) (nbQ q e) 0)],.int .i64 (bI (decide (e<=2)) 0 1)]) []:=by
 refine A0d hcm hmx C0n D1x rfl (C3E x y q e) ?_;have hc:okCl x y q=true:=A5p.2 ⟨by omega,by omega,by omega,by omega,by omega⟩;rw[C0k,C0k,hc];simp only[Bool.not_true,Bool.false_eq_true,false_implies,true_and,true_implies]
 by_cases h2:e<=2
 ·have hn:=B5L hq ⟨he,h2⟩;have hx':=A8V x q e;have hy':=A8V y q e;rw[decide_eq_true h2,hx'.2.2.1,hy'.2.2.2];have hc2:okCl (nbX x q e) (nbY y q e) (nbQ q e)=true:=A5p.2 ⟨by omega,by omega,by omega,by omega,by omega⟩;rw[hc2];refine⟨fun h=>by simp at h;omega,fun _=>⟨by simp;omega,by simp;omega,by simp;omega,by simp;omega,?_,?_,?_,by simp;omega,by simp;omega,⟨fun h=>by simp at h,fun _=>⟨rfl,rfl,rfl,rfl,trivial⟩⟩⟩⟩
  all_goals
   obtain rfl|rfl|rfl|rfl:q=0\/q=1\/q=2\/q=3:=by omega
   all_goals
    obtain rfl|rfl|rfl:e=0\/e=1\/e=2:=by omega
    all_goals rfl
 ·rw[decide_eq_false h2];exact⟨fun _=>⟨rfl,rfl,rfl,rfl,trivial⟩,fun h=>by simp at h;omega⟩
theorem D3y:A06 Tryz.prog G 84 e56:=by
 intro args r h hp;unfold e56 at h;split at h<;>cases h;exact(D3w _ _ _).caps
theorem ct57:A06 Tryz.prog G 56 e57:=by
 intro args r h hp;unfold e57 at h;split at h<;>cases h;obtain⟨h1,h2,h3,h4,h5⟩:=hp;exact(C8h _ _ _ _ _ h1 ⟨h2,h3⟩ h4 h5).caps
theorem ct96:A06 Tryz.prog G 60 e96:=by
 intro args r h hp;unfold e96 at h;split at h<;>cases h;obtain⟨h1,h2,h3,h4,h5,h6,h7⟩:=hp;exact(D3x _ _ _ _ ⟨h1,h2⟩ ⟨h3,h4⟩ ⟨h5,h6⟩ h7).caps
theorem C3J:A1Z Tryz.prog G C8e:=⟨D3y,ct57,ct96,C3I⟩
theorem C8i:TabOk Tryz.prog G CS3:=A0m A0s C3J
theorem C3K {w h i e:Int}(hs:okS w h=true)(hb:A47 w h i=true)(he:0<=e/\e<=2):(nbI w h i e= -1\/(0<=nbI w h i e/\nbI w h i e<4*w*h))/\
  (inB w h (nbX (qX w i) (qQ i) e) (nbY (qY w i) (qQ i) e)=leb 0 (nbI w h i e)):=by
 obtain⟨⟨a1,a2⟩,⟨a3,a4⟩,⟨a5,a6⟩,a7,a8,a9,a10,a11⟩:=A6B hs hb;obtain⟨h1,h2,h3,h4,h5⟩:=A3s.1 hs;have hn:=B5L ⟨a5,a6⟩ he;unfold nbI;rcases A1A (inB w h (nbX (qX w i) (qQ i) e) (nbY (qY w i) (qQ i) e))with h0|h0<;>rw[h0]
 ·have hi:=B5J.1 h0;generalize nbX (qX w i) (qQ i) e=X at*;generalize nbY (qY w i) (qQ i) e=Y at*;have m0:0<=Y*w:=Int.mul_nonneg (by omega) (by omega);have m1:=A6A (a:=Y+1) (b:=w) (c:=h) (d:=w) (by omega) (by omega) (by omega) (by omega);have e4:4*w*h=4*(w*h):=Int.mul_assoc _ _ _;have e5:h*w=w*h:=Int.mul_comm _ _;have e6:(Y+1)*w=Y*w+w:=by rw[Int.add_mul,Int.one_mul]
  simp only[cond_true];refine⟨.inr ⟨by omega,by omega⟩,?_⟩
  symm;rw[A0H];omega
 ·exact⟨.inl rfl,rfl⟩
theorem C8j (w h i e:Int)(he:0<=e):SpecP Tryz.prog G 54 [.agg [.int .i64 w,.int .i64 h],.int .i64 i,.int .u8 e] (.tup [.int .i64 (bI (okN w h i e) (nbI w h i e) 0),.int .i64 (neE w h i e)]) []:=by
 refine A0d hcm hmx C8i D1o rfl (C3F w h i e) ?_;rcases A1A (okS w h)with h1|h1
 ·rcases A1A (A47 w h i)with h2|h2
  ·have hI:okI w h i=true:=by simp[okI,h1,h2]
   have hE:ceE w h i=0:=by simp[ceE,h1,h2,bI]
   have hN:okN w h i e=(decide (e<=2)&&leb 0 (nbI w h i e)):=by simp[okN,hI]
   have hM:neE w h i e=cond (decide (e<=2)) (bI (leb 0 (nbI w h i e)) 0 7) 1:=by simp[neE,hI]
   obtain⟨⟨a1,a2⟩,⟨a3,a4⟩,⟨a5,a6⟩,a7,a8,a9,a10,a11⟩:=A6B h1 h2;obtain⟨b1,b2,b3,b4,b5⟩:=A3s.1 h1;rw[hN,hM,hE,hI,C0k];simp only[bI,cond_true];refine⟨fun h=>by simp at h,fun _=>⟨by omega,fun hz=>?_,fun hz=>?_⟩⟩
   ·have:decide (e<=2)=false:=by simpa using hz
    rw[this];exact⟨rfl,rfl,trivial⟩
   ·have hd:decide (e<=2)=true:=by simpa using hz
    have h2':e<=2:=by simpa using hd
    have hn:=B5L (q:=qQ i) ⟨a5,a6⟩ ⟨he,h2'⟩;have hx:=A8V (qX w i) (qQ i) e;have hy:=A8V (qY w i) (qQ i) e;have hb:=(C3K h1 h2 ⟨he,h2'⟩).2;rw[hd];simp only[cond_true,Bool.true_and];refine⟨⟨h1,hn.1,hn.2,⟨by omega,by omega⟩,by omega,by omega⟩,?_⟩;rw[<- hb];have hI':nbI w h i e=cond (inB w h (nbX (qX w i) (qQ i) e) (nbY (qY w i) (qQ i) e)) (4*(nbY (qY w i) (qQ i) e*w+nbX (qX w i) (qQ i) e)+nbQ (qQ i) e) (-1):=rfl;rw[hI'];cases inB w h (nbX (qX w i) (qQ i) e) (nbY (qY w i) (qQ i) e)<;>exact⟨rfl,rfl,trivial⟩
  ·have hI:okI w h i=false:=by simp[okI,h2]
   simp[okN,neE,hI,ceE,h1,h2,bI]
 ·have hI:okI w h i=false:=by simp[okI,h1]
  simp[okN,neE,hI,ceE,h1,bI]
theorem D3z:A06 Tryz.prog G 54 e70:=by
 intro args r h hp;unfold e70 at h;split at h<;>cases h;exact(C8j _ _ _ _ hp).caps
theorem C3L:A1Z Tryz.prog G C8f:=⟨D3z,C3J⟩
theorem C8k:TabOk Tryz.prog G CS4:=A0m A0s C3L
theorem A7I {w h i e:Int}:okN w h i e=true↔neE w h i e=0:=by
 unfold okN neE okI ceE;cases okS w h<;>cases A47 w h i<;>cases decide (e<=2)<;>cases leb 0 (nbI w h i e)<;>simp[bI]
theorem D3A (w h i e:Int)(he:0<=e):SpecP Tryz.prog G 29 [.agg [.int .i64 w,.int .i64 h],.int .i64 i,.int .u8 e] (.tup [.agg [.int .i64 (nmC w h i e),.int .u8 (nmE w h i e)],.int .i64 (neE w h i e)]) []:=by
 refine A0d hcm hmx C8k D0L rfl (B5I w h i e) ?_;refine⟨he,?_⟩;unfold nmC nmE;rcases A1A (okN w h i e)with h0|h0
 ·have:=A7I.1 h0;rw[h0,this];simp[bI];omega
 ·have:neE w h i e≠0:=fun e=>by rw[A7I.2 e]at h0;cases h0
  rw[h0];simp[bI,this]
theorem ct58:A06 Tryz.prog G 29 e58:=by
 intro args r h hp;unfold e58 at h;split at h<;>cases h;exact(D3A _ _ _ _ hp).caps
theorem B8P {w h:Int}(hs:s5 w h):okS w h=true:=by
 obtain⟨h1,h2,h3,h4⟩:=hs;have:=A6A (a:=w) (b:=h) (c:=5) (d:=5) (by omega) (by omega) (by omega) (by omega);exact A3s.2 ⟨by omega,by omega,by omega,by omega,by omega⟩
end Go.Proofs.YtfafinkgmhkdmaaGreatDoor.P
