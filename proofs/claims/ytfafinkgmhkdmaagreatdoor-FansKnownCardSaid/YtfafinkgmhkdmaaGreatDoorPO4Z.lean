/-
 What is to be shown of the functions (made by a program).
-/
import Derived.Test.YtfafinkgmhkdmaaGreatDoorPD4Z
set_option maxRecDepth 1000000
set_option linter.unusedVariables false
namespace Go.Proofs.YtfafinkgmhkdmaaGreatDoor.P
open Go Go.Ab Go.Proofs.YtfafinkgmhkdmaaGreatDoor.X
theorem C3M (k:Int):fnP (T0) G 10000 C5W (.r [] 0 (.rs 3 [] 0 5 (.r [] 3 .nil) (.r [] 3 .nil))) ([.int .u8 k]) ([.bool (kdB k)]) ([])=(
(leb 1 k=true->leb k 3=kdB k/\True)/\(leb 1 k=false->false=kdB k/\True)):=by kernel_rfl
theorem B5O (c e c' e':Int):fnP (T0) G 10000 C5Z (.r [] 0 (.r [] 3 (.cnd (.r [] 3 .nil) (.r [] 5 .nil)))) ([.agg [.int .i64 c,.int .u8 e],.agg [.int .i64 c',.int .u8 e']]) ([.int .i64 (A6C c e c' e')]) ([])=(
((c !=c')=true->inR IntKind.i64 (c-c')=true/\c-c'=A6C c e c' e'/\True)/\((c !=c')=false->inR IntKind.i64 e=true/\inR IntKind.i64 e'=true/\inR IntKind.i64 (e-e')=true/\e
-e'=A6C c e c' e'/\True)):=by kernel_rfl
theorem C3N (c e k:Int):fnP (T0) G 10000 C5Y (.r [] 0 (.r [] 7 .nil)) ([.agg [.int .i64 c,.int .u8 e,.int .u8 k]]) ([.agg [.int .i64 c,.int .u8 e]]) ([])=(
c=c/\e=e/\True):=by kernel_rfl
theorem B5P (c e k:Int):fnP (CP1) G 10000 C5V (.r [] 0 (.r [] 3 .nil)) ([.agg [.int .i64 c,.int .u8 e,.int .u8 k]]) ([.bool (!kdB k)]) ([])=(
(!kdB k)= !kdB k/\True):=by kernel_rfl
theorem C0q (c e k c' e':Int):fnP (CP1) G 10000 B7A (.r [] 0 (.r [] 7 .nil)) ([.agg [.int .i64 c,.int .u8 e,.int .u8 k],.agg [.int .i64 c',.int .u8 e']]) ([.int .i64 (A6C c e c' e')]) ([])=(
(sml c/\sml c'/\0<=e/\e<=255/\0<=e'/\e'<=255)/\A6C c e c' e'=A6C c e c' e'/\True):=by kernel_rfl
theorem C3O (l:List Cr):fnP (CP2) G 10000 C6a (.r [] 0 (.r [] 0 (.lp (l95 l) [] [] (fun b=>(.r [] 0 (.cnd (.r [] 0 (.r [(324,.auto,Dr.val (crV l b.i))] 64 (.cnd (.r [] 0 .nil) (.r [] 0 .nil)))) (.r [] 0 .nil))))))) ([.imm (.vals (flatC l)) l.length none,.fn 27 [] []]) ([.int .i64 (A27 l 0)]) ([])=(
Cont.vals (flatC l)=Cont.vals (flatC l)/\List.length l=List.length l/\(↑(List.length l):Int)=(↑(List.length l):Int)/\iI 0=0/\(∃(n:Nat),0=(↑n:Int)/\n<=List.length l/\A27
(List.drop n l) (↑n:Int)=A27 l 0)/\∀(b:L1),(∃(n:Nat),b.i=(↑n:Int)/\n<=List.length l/\A27 (List.drop n l) (↑n:Int)=A27 l 0)->(ltb b.i (↑(List.length l):Int)=true->leb 0
b.i=true/\ltb b.i (↑(List.length l):Int)=true/\ltn 0 (Cont.size (Cont.vals (flatC l)))=true/\(List.drop (Int.toNat b.i*3) (flatC l))[0]? =some (AV.int IntKind.i64 (cC l b.i))/\
(List.drop (Int.toNat b.i*3) (flatC l))[1]? =some (AV.int IntKind.u8 (cE l b.i))/\(List.drop (Int.toNat b.i*3) (flatC l))[2]? =some (AV.int IntKind.u8 (cK l b.i))/\((!kdB (cK l b.i))=true->
b.i=A27 l 0/\True)/\((!kdB (cK l b.i))=false->inR IntKind.i64 (b.i+1)=true/\Cont.vals (flatC l)=Cont.vals (flatC l)/\List.length l=List.length l/\(↑(List.length l):Int)=
(↑(List.length l):Int)/\b.i+1=b.i+1/\(∃(n:Nat),b.i+1=(↑n:Int)/\n<=List.length l/\A27 (List.drop n l) (↑n:Int)=A27 l 0)/\List.length l-Int.toNat (b.i+1)<List.length
l-Int.toNat b.i/\True))/\(ltb b.i (↑(List.length l):Int)=false-> -1=A27 l 0/\True)):=by kernel_rfl
theorem B5Q (l:List Cr):fnP (CP3) G 10000 C5U (.r [] 0 (.r [] 0 .nil)) ([.imm (.vals (flatC l)) l.length none,.fn 27 [] []]) ([.bool (B2Q l)]) ([])=(
okA (flatC l) (List.length l)/\leb 0 (A27 (unC (flatC l)) 0)=B2Q l/\True):=by kernel_rfl
theorem C3P (w h:Int)(l:List Cr):fnP (CP4) G 10000 fe7 (.r [] 0 (.r [] 3 (.r [] 0 (.cnd (.r [] 0 .nil) (.r [] 1 (.cnd (.r [] 0 .nil) (.r [] 1 (.lp (l27 w h l) [] [] (fun b=>(.r [] 0 (.cnd (.r [(577,.auto,Dr.val (crV l b.i))] 64 (.r [] 119 (.r [yM 707,yM 708,yM 709,yM 710] 75 (.cnd (.r [] 0 .nil) (.r [] 0 .nil))))) (.r [] 0 (.lp (m27 l) [] [] (fun b_1=>(.r [] 1 (.cnd (.r [(1093,.auto,Dr.val (crV l (b_1.i-1))),(1099,.auto,Dr.val (crV l b_1.i))] 66305 (.cnd (.r [] 0 .nil) (.r [] 0 .nil))) (.r [] 0 .nil))))))))))))))))) ([C1O w h l]) ([.int .i64 (chkI w h l)]) ([])=(
((bI (okS w h) 0 1 !=0)=true->bI (okS w h) 0 1=chkI w h l/\True)/\((bI (okS w h) 0 1 !=0)=false->okA (flatC l) (List.length l)/\(B2Q (unC (flatC l))=true->1=chkI w h l/\True)/\
(B2Q (unC (flatC l))=false->1=1/\w=w/\h=h/\Cont.vals (flatC l)=Cont.vals (flatC l)/\List.length l=List.length l/\0=0/\Cont.vals (flatC l)=Cont.vals (flatC l)/\List.length l=
List.length l/\(↑(List.length l):Int)=(↑(List.length l):Int)/\iI 0=0/\(∃(n:Nat),0=(↑n:Int)/\n<=List.length l/\List.all (List.take n l) (A3t w h)=true)/\∀(b:L1),(∃(n:
Nat),b.i=(↑n:Int)/\n<=List.length l/\List.all (List.take n l) (A3t w h)=true)->(ltb b.i (↑(List.length l):Int)=true->leb 0 b.i=true/\ltb b.i (↑(List.length l):Int)=true/\ltn
0 (Cont.size (Cont.vals (flatC l)))=true/\(List.drop (Int.toNat b.i*3) (flatC l))[0]? =some (AV.int IntKind.i64 (cC l b.i))/\(List.drop (Int.toNat b.i*3) (flatC l))[1]? =some (AV.int
IntKind.u8 (cE l b.i))/\(List.drop (Int.toNat b.i*3) (flatC l))[2]? =some (AV.int IntKind.u8 (cK l b.i))/\0<=cE l b.i/\((!neE w h (cC l b.i) (cE l b.i) !=0)=true->(!neE w h (cC l b.i) (cE l
b.i) !=0)=true)/\((!neE w h (cC l b.i) (cE l b.i) !=0)=true->(!neE w h (cC l b.i) (cE l b.i) !=0)=true)/\((!neE w h (cC l b.i) (cE l b.i) !=0)=true->(!neE w h (cC l b.i) (cE l b.i) !=
0)=true)/\(bif neE w h (cC l b.i) (cE l b.i) !=0 then true else !neE w h (cC l b.i) (cE l b.i) !=0&&true)=true/\((bif neE w h (cC l b.i) (cE l b.i) !=0 then true else !(nmC w h (cC l b.i)
(cE l b.i)==cC l b.i&&nmE w h (cC l b.i) (cE l b.i)==cE l b.i))=true->7=chkI w h l/\True)/\((bif neE w h (cC l b.i) (cE l b.i) !=0 then true else !(nmC w h (cC l b.i) (cE l b.i)==cC l
b.i&&nmE w h (cC l b.i) (cE l b.i)==cE l b.i))=false->inR IntKind.i64 (b.i+1)=true/\1=1/\w=w/\h=h/\Cont.vals (flatC l)=Cont.vals (flatC l)/\List.length l=List.length l/\0=
0/\Cont.vals (flatC l)=Cont.vals (flatC l)/\List.length l=List.length l/\(↑(List.length l):Int)=(↑(List.length l):Int)/\b.i+1=b.i+1/\(∃(n:Nat),b.i+1=(↑n:Int)/\n<=
List.length l/\List.all (List.take n l) (A3t w h)=true)/\List.length l-Int.toNat (b.i+1)<List.length l-Int.toNat b.i/\True))/\(ltb b.i (↑(List.length l):Int)=false->1=1/\w=w
/\h=h/\Cont.vals (flatC l)=Cont.vals (flatC l)/\List.length l=List.length l/\0=0/\ltb b.i (↑(List.length l):Int)=ltb b.i (↑(List.length l):Int)/\iI 1=1/\(∃(n:Nat),1=(↑n:
Int)+1/\A62 (List.drop n l)=A62 l)/\∀(b_1:L1),(∃(n:Nat),b_1.i=(↑n:Int)+1/\A62 (List.drop n l)=A62 l)->(ltb b_1.i (↑(List.length l):Int)=true->inR IntKind.i64 (b_1.i-
1)=true/\leb 0 (b_1.i-1)=true/\ltb (b_1.i-1) (↑(List.length l):Int)=true/\ltn 0 (Cont.size (Cont.vals (flatC l)))=true/\(List.drop (Int.toNat (b_1.i-1)*3) (flatC l))[0]? =some
(AV.int IntKind.i64 (cC l (b_1.i-1)))/\(List.drop (Int.toNat (b_1.i-1)*3) (flatC l))[1]? =some (AV.int IntKind.u8 (cE l (b_1.i-1)))/\(List.drop (Int.toNat (b_1.i-1)*3) (flatC l))[2]? =
some (AV.int IntKind.u8 (cK l (b_1.i-1)))/\leb 0 b_1.i=true/\ltb b_1.i (↑(List.length l):Int)=true/\ltn 0 (Cont.size (Cont.vals (flatC l)))=true/\(List.drop (Int.toNat b_1.i*3) (flatC
l))[0]? =some (AV.int IntKind.i64 (cC l b_1.i))/\(List.drop (Int.toNat b_1.i*3) (flatC l))[1]? =some (AV.int IntKind.u8 (cE l b_1.i))/\(List.drop (Int.toNat b_1.i*3) (flatC l))[2]? =some
(AV.int IntKind.u8 (cK l b_1.i))/\(sml (cC l (b_1.i-1))/\sml (cC l b_1.i)/\0<=cE l (b_1.i-1)/\cE l (b_1.i-1)<=255/\0<=cE l b_1.i/\cE l b_1.i<=255)/\(leb 0 (A6C (cC l (b_1.i-1)) (cE
l (b_1.i-1)) (cC l b_1.i) (cE l b_1.i))=true->6=chkI w h l/\True)/\(leb 0 (A6C (cC l (b_1.i-1)) (cE l (b_1.i-1)) (cC l b_1.i) (cE l b_1.i))=false->inR IntKind.i64 (b_1.i+1)=true/\
1=1/\w=w/\h=h/\Cont.vals (flatC l)=Cont.vals (flatC l)/\List.length l=List.length l/\0=0/\ltb b.i (↑(List.length l):Int)=ltb b.i (↑(List.length l):Int)/\b_1.i+1=b_1.i+1
/\(∃(n:Nat),b_1.i+1=(↑n:Int)+1/\A62 (List.drop n l)=A62 l)/\List.length l-Int.toNat (b_1.i+1)<List.length l-Int.toNat b_1.i/\True))/\(ltb b_1.i (↑(List.length l):Int)=
false->0=chkI w h l/\True))))):=by kernel_rfl
theorem C0r (l:List Cr)(c e:Int):fnP (CP2) G 10000 B7z (.r [] 0 (.r [] 0 (.r [] 0 (.lp (D3B (3*c+e) l) [] [] (fun b=>(.r [] 0 (.cnd (.r [(323,.auto,Dr.wrap)] 2 (.r [(388,.auto,Dr.val (crV l (Int.fdiv (b.i+b.j) 2)))] 64 (.cnd (.r [] 0 .nil) (.r [] 0 .nil)))) (.r [yM 581,yM 582,yM 583,yM 584,(585,.may,Dr.val (crV l (lbI l c e))),yM 586,yM 587,yM 588] 33280 .nil)))))))) ([.imm (.vals (flatC l)) l.length none,.agg [.int .i64 c,.int .u8 e],.fn 122 [] []]) ([.int .i64 (lbI l c e),.bool (fdB l c e)]) ([])=(
1=1/\c=c/\e=e/\Cont.vals (flatC l)=Cont.vals (flatC l)/\List.length l=List.length l/\0=0/\(↑(List.length l):Int)=(↑(List.length l):Int)/\iI 0=0/\(↑(List.length l):Int)=
(↑(List.length l):Int)/\(∃(n:Nat),∃(m:Nat),0=(↑n:Int)/\(↑(List.length l):Int)=(↑m:Int)/\n<=m/\m<=List.length l/\(∀(k:Nat),k<n->cdC (Option.getD l[k]? (0,0,0))<3*
c+e)/\∀(k:Nat),m<=k->k<List.length l->3*c+e<=cdC (Option.getD l[k]? (0,0,0)))/\∀(b:L2),(∃(n:Nat),∃(m:Nat),b.i=(↑n:Int)/\b.j=(↑m:Int)/\n<=m/\m<=List.length
l/\(∀(k:Nat),k<n->cdC (Option.getD l[k]? (0,0,0))<3*c+e)/\∀(k:Nat),m<=k->k<List.length l->3*c+e<=cdC (Option.getD l[k]? (0,0,0)))->(ltb b.i b.j=true->inR
IntKind.i64 (b.i+b.j)=true/\inR IntKind.i64 (Int.fdiv (IntKind.wrap IntKind.u64 (b.i+b.j)) 2)=true/\leb 0 (Int.fdiv (IntKind.wrap IntKind.u64 (b.i+b.j)) 2)=true/\ltb (Int.fdiv
(IntKind.wrap IntKind.u64 (b.i+b.j)) 2) (↑(List.length l):Int)=true/\ltn 0 (Cont.size (Cont.vals (flatC l)))=true/\(List.drop (Int.toNat (Int.fdiv (IntKind.wrap IntKind.u64 (b.i+b.j)) 2)*
3) (flatC l))[0]? =some (AV.int IntKind.i64 (cC l (Int.fdiv (b.i+b.j) 2)))/\(List.drop (Int.toNat (Int.fdiv (IntKind.wrap IntKind.u64 (b.i+b.j)) 2)*3) (flatC l))[1]? =some (AV.int IntKind.u8
(cE l (Int.fdiv (b.i+b.j) 2)))/\(List.drop (Int.toNat (Int.fdiv (IntKind.wrap IntKind.u64 (b.i+b.j)) 2)*3) (flatC l))[2]? =some (AV.int IntKind.u8 (cK l (Int.fdiv (b.i+b.j) 2)))/\(sml (cC l
(Int.fdiv (b.i+b.j) 2))/\sml c/\0<=cE l (Int.fdiv (b.i+b.j) 2)/\cE l (Int.fdiv (b.i+b.j) 2)<=255/\0<=e/\e<=255)/\(ltb (A6C (cC l (Int.fdiv (b.i+b.j) 2)) (cE l (Int.fdiv (b.i+b.j)
2)) c e) 0=true->inR IntKind.i64 (Int.fdiv (IntKind.wrap IntKind.u64 (b.i+b.j)) 2+1)=true/\1=1/\c=c/\e=e/\Cont.vals (flatC l)=Cont.vals (flatC l)/\List.length l=List.length l/\
0=0/\(↑(List.length l):Int)=(↑(List.length l):Int)/\Int.fdiv (IntKind.wrap IntKind.u64 (b.i+b.j)) 2+1=Int.fdiv (IntKind.wrap IntKind.u64 (b.i+b.j)) 2+1/\b.j=b.j/\(∃(n:Nat),
∃(m:Nat),Int.fdiv (IntKind.wrap IntKind.u64 (b.i+b.j)) 2+1=(↑n:Int)/\b.j=(↑m:Int)/\n<=m/\m<=List.length l/\(∀(k:Nat),k<n->cdC (Option.getD l[k]? (0,0,0))<3*c+e)/\
∀(k:Nat),m<=k->k<List.length l->3*c+e<=cdC (Option.getD l[k]? (0,0,0)))/\Int.toNat (b.j-(Int.fdiv (IntKind.wrap IntKind.u64 (b.i+b.j)) 2+1))<Int.toNat (b.j-b.i)/\True)/\
(ltb (A6C (cC l (Int.fdiv (b.i+b.j) 2)) (cE l (Int.fdiv (b.i+b.j) 2)) c e) 0=false->1=1/\c=c/\e=e/\Cont.vals (flatC l)=Cont.vals (flatC l)/\List.length l=List.length l/\0=0/\
(↑(List.length l):Int)=(↑(List.length l):Int)/\b.i=b.i/\Int.fdiv (IntKind.wrap IntKind.u64 (b.i+b.j)) 2=Int.fdiv (IntKind.wrap IntKind.u64 (b.i+b.j)) 2/\(∃(n:Nat),∃(m:Nat),b.i
=(↑n:Int)/\Int.fdiv (IntKind.wrap IntKind.u64 (b.i+b.j)) 2=(↑m:Int)/\n<=m/\m<=List.length l/\(∀(k:Nat),k<n->cdC (Option.getD l[k]? (0,0,0))<3*c+e)/\∀(k:Nat),m<=k->
k<List.length l->3*c+e<=cdC (Option.getD l[k]? (0,0,0)))/\Int.toNat (Int.fdiv (IntKind.wrap IntKind.u64 (b.i+b.j)) 2-b.i)<Int.toNat (b.j-b.i)/\True))/\(ltb b.i b.j=false->(ltb
b.i (↑(List.length l):Int)=true->ltb b.i (↑(List.length l):Int)=true)/\(ltb b.i (↑(List.length l):Int)=true->ltb b.i (↑(List.length l):Int)=true)/\(ltb b.i (↑(List.length l):Int)
=true->leb 0 b.i=true)/\(ltb b.i (↑(List.length l):Int)=true->ltb b.i (↑(List.length l):Int)=true)/\(ltb b.i (↑(List.length l):Int)=true->ltn 0 (Cont.size (Cont.vals (flatC l)))=
true)/\(ltb b.i (↑(List.length l):Int)=true->ltb b.i (↑(List.length l):Int)=true)/\(ltb b.i (↑(List.length l):Int)=true->(List.drop (Int.toNat b.i*3) (flatC l))[0]? =some (AV.int
IntKind.i64 (cC l (lbI l c e))))/\(ltb b.i (↑(List.length l):Int)=true->(List.drop (Int.toNat b.i*3) (flatC l))[1]? =some (AV.int IntKind.u8 (cE l (lbI l c e))))/\(ltb b.i (↑(List.length l)
:Int)=true->(List.drop (Int.toNat b.i*3) (flatC l))[2]? =some (AV.int IntKind.u8 (cK l (lbI l c e))))/\(ltb b.i (↑(List.length l):Int)=true->ltb b.i (↑(List.length l):Int)=true)/\
(ltb b.i (↑(List.length l):Int)=true->ltb b.i (↑(List.length l):Int)=true)/\(ltb b.i (↑(List.length l):Int)=true->ltb b.i (↑(List.length l):Int)=true)/\(ltb b.i (↑(List.length l):
Int)=true->sml (cC l (lbI l c e))/\sml c/\0<=cE l (lbI l c e)/\cE l (lbI l c e)<=255/\0<=e/\e<=255)/\(ltb b.i (↑(List.length l):Int)=true->ltb b.i (↑(List.length l):Int)=true)/\
(bif ltb b.i (↑(List.length l):Int)then ltb b.i (↑(List.length l):Int)&&true else true)=true/\b.i=lbI l c e/\(bif ltb b.i (↑(List.length l):Int)then A6C (cC l (lbI l c e)) (cE l (lbI
l c e)) c e==0 else false)=fdB l c e/\True)):=by kernel_rfl
theorem B5R (l:List Cr)(c e:Int):fnP (CP5) G 10000 C6q (.r [] 0 (.r [] 13 .nil)) ([.imm (.vals (flatC l)) l.length none,.agg [.int .i64 c,.int .u8 e]]) ([.int .i64 (lbI l c e),.bool (fdB l c e)]) ([])=(
(okA (flatC l) (List.length l)/\srt (unC (flatC l))/\sml c/\0<=e/\e<=2)/\lbI (unC (flatC l)) c e=lbI l c e/\fdB (unC (flatC l)) c e=fdB l c e/\True):=by kernel_rfl
theorem C3Q (w h:Int)(l:List Cr)(i e:Int):fnP (CP6) G 10000 C6g (.r [] 0 (.r [] 1 (.r [] 0 (.cnd (.r [] 1 .nil) (.r [] 29 (.r [] 0 (.cnd (.r [] 1 .nil) (.r [] 27 (.r [] 3 .nil))))))))) ([C1O w h l,.int .i64 i,.int .u8 e]) ([.agg [.int .i64 (atC w h l i e),.int .u8 (atD w h l i e)],.int .i64 (atI w h l i e),.bool (atF w h l i e),.int .i64 (atE w h l i e)]) ([])=(
(okA (flatC l) (List.length l)/\edg (unC (flatC l)))/\((chkI w h (unC (flatC l)) !=0)=true->0=atC w h l i e/\0=atD w h l i e/\0=atI w h l i e/\false=atF w h l i e/\chkI w h (unC
(flatC l))=atE w h l i e/\True)/\((chkI w h (unC (flatC l)) !=0)=false->0<=e/\((neE w h i e !=0)=true->0=atC w h l i e/\0=atD w h l i e/\0=atI w h l i e/\false=atF w h l i e/\
neE w h i e=atE w h l i e/\True)/\((neE w h i e !=0)=false->(okA (flatC l) (List.length l)/\srt (unC (flatC l))/\sml (nmC w h i e)/\0<=nmE w h i e/\nmE w h i e<=2)/\nmC w h i e=atC w
h l i e/\nmE w h i e=atD w h l i e/\lbI (unC (flatC l)) (nmC w h i e) (nmE w h i e)=atI w h l i e/\fdB (unC (flatC l)) (nmC w h i e) (nmE w h i e)=atF w h l i e/\0=atE w h l i e/\True))):=by kernel_rfl
theorem C3R (w h:Int)(l:List Cr)(i e:Int):fnP (CP7) G 10000 C52 (.r [] 0 (.r [] 125 (.rs 3 [] 0 23 (.r [] 3 (.lit (.r [] 0 .nil))) (.r [] 3 (.cnd (.r [] 0 .nil) (.r [(325,.auto,Dr.val [AV.int IntKind.u8 (cK l (atI w h l i e))])] 1 .nil)))))) ([C1O w h l,.int .i64 i,.int .u8 e]) ([.int .u8 (knI w h l i e),.int .i64 (atE w h l i e)]) ([])=(
(okA (flatC l) (List.length l)/\edg (unC (flatC l))/\0<=e/\e<=255)/\((atE w h (unC (flatC l)) i e !=0)=true->0=knI w h l i e/\atE w h (unC (flatC l)) i e=atE w h l i e/\True)/\((atE w
h (unC (flatC l)) i e !=0)=false->((!atF w h (unC (flatC l)) i e)=true->0=knI w h l i e/\atE w h (unC (flatC l)) i e=atE w h l i e/\True)/\((!atF w h (unC (flatC l)) i e)=false->leb 0
(atI w h (unC (flatC l)) i e)=true/\ltb (atI w h (unC (flatC l)) i e) (↑(List.length l):Int)=true/\ltn 0 (Cont.size (Cont.vals (flatC l)))=true/\(List.drop 2 (List.drop (Int.toNat (atI w h
(unC (flatC l)) i e)*3) (flatC l)))[0]? =some (AV.int IntKind.u8 (cK l (atI w h l i e)))/\cK l (atI w h l i e)=knI w h l i e/\0=atE w h l i e/\True))):=by kernel_rfl
end Go.Proofs.YtfafinkgmhkdmaaGreatDoor.P
