/-
 What is to be shown of the functions (made by a program).
-/
import Derived.Test.YtfafinkgmhkdmaaGreatDoorFGZ
set_option maxRecDepth 1000000
set_option linter.unusedVariables false
namespace Go.Proofs.YtfafinkgmhkdmaaGreatDoor.X
open Go Go.Ab
theorem C0B (w h x y:Int):fnP (T0) G 10000 C51 (.r [] 0 (.r [] 0 .nil)) ([.agg [.int .i64 w,.int .i64 h],.agg [.int .i64 x,.int .i64 y]]) ([.fn 55 [] [.ptr 0 0,.ptr 1 0]]) ([ptB x y,ptB w h])=(
1=1/\x=x/\y=y/\1=1/\w=w/\h=h/\0=0/\0=0/\True):=by kernel_rfl
open List IntKind
theorem C38 (l:List P.Cr)(L:List Ry)(x y i d c e:Int)(cap:Option Nat):fnY (TK8) G 10000 (9002) (.r [] 1 (.r [] 55 (.r [] 0 (.cnd (.r [] 51 .nil) .nil)))) ([.int .i64 i,.agg [.int .i64 d,.int .i64 c,.int .u8 e]]) (H8 l L x y cap) (true) ([(512,bxO (.full 9001 (A0h L d (knZ l c e)).length)),(9001,B0P (A0h L d (knZ l c e)))])=(
 ((P.flatC l=P.flatC (P.unC (P.flatC l))/\length l=length (P.unC (P.flatC l))/\length (P.unC (P.flatC l))<1000000000)/\(∀(x:P.Cr),x∈P.unC (P.flatC l)->0<=x.snd.fst/\x.snd.fst<=255)/\
 0<=e/\e<=255)/\((knZ (P.unC (P.flatC l)) c e !=0)=true->length L=length L/\A0X ((length L+1)*16) 140737488355328=true/\1=1/\iI 2=2/\iI 2=2/\1=1/\x=x/\y=y/\length L
 +1=length (A0h L d (knZ l c e))/\flR L++[AV.int i64 d,AV.int u8 (knZ (P.unC (P.flatC l)) c e)]=flR (A0h L d (knZ l c e))/\1=1/\length L+1=length (A0h L d (knZ l c e))/\1=1/\iI
 2=2/\iI 2=2/\Cont.vals (P.flatC l)=Cont.vals (P.flatC l)/\length l=length l/\0=0/\(none:Option Ex)=none/\55=55/\[29,30]=[29,30]/\as8=as8/\bd8=bd8/\0=0/\0=0/\0=
 0/\0=0/\true=true/\True)/\((knZ (P.unC (P.flatC l)) c e !=0)=false->1=1/\iI 2=2/\iI 2=2/\1=1/\x=x/\y=y/\length L=length (A0h L d (knZ l c e))/\flR L=flR (A0h L d
 (knZ l c e))/\1=1/\length L=length (A0h L d (knZ l c e))/\1=1/\iI 2=2/\iI 2=2/\Cont.vals (P.flatC l)=Cont.vals (P.flatC l)/\length l=length l/\0=0/\(none:Option Ex)=none
 /\55=55/\[29,30]=[29,30]/\as8=as8/\bd8=bd8/\0=0/\0=0/\0=0/\0=0/\true=true/\True)):=by kernel_rfl
theorem B7S (x y:Int):fnP (T86) G 10000 B9G (.r [] 0 (.r [] 3 (.cnd (.r [] 1 .nil) (.r [] 31 (.r [] 7 (.r [] 0 (.un (.r [] 0 (.lit (.r [] 0 (.r [] 463 (.r [] 463 (.r [] 1 (.un (.r [] 0 (.lit (.r [] 0 (.r [] 463 (.r [] 463 (.r [] 1 (.un (.r [] 0 (.lit (.r [] 0 (.r [] 463 (.r [] 463 (.r [] 1 (.un (.r [] 0 (.lit (.r [] 3 .nil))))))))))))))))))))))))))))))) ([.agg [.int .i64 x,.int .i64 y,.int .u8 0]]) ([.agg (B7M x y 0),.int .i64 0]) ([])=(
 ((P.bI (P.okCl x y 0) 0 1 !=0)=true->0=cx x 0 0/\0=cy y 0 0/\0=cx x 0 1/\0=cy y 0 1/\0=cx x 0 2/\0=cy y 0 2/\iI 1=0/\True)/\((P.bI (P.okCl x y 0) 0 1 !=0)=false->inR i64
 (2*x)=true/\inR i64 (1+2*x)=true/\inR i64 (2*y)=true/\inR i64 (1+2*y)=true/\inR i64 (2*x)=true/\inR i64 (0+2*x)=true/\inR i64 (2*y)=true/\inR i64 (0+2*y)=
 true/\inR i64 (2*x)=true/\inR i64 (2+2*x)=true/\inR i64 (2*y)=true/\inR i64 (0+2*y)=true/\1+2*x=cx x 0 0/\1+2*y=cy y 0 0/\0+2*x=cx x 0 1/\0+2*y=cy y
 0 1/\2+2*x=cx x 0 2/\0+2*y=cy y 0 2/\iI 0=0/\True)):=by kernel_rfl
theorem B7T (x y:Int):fnP (T86) G 10000 B9G (.r [] 0 (.r [] 3 (.cnd (.r [] 1 .nil) (.r [] 31 (.r [] 7 (.r [] 0 (.un (.r [] 0 (.lit (.r [] 0 (.r [] 463 (.r [] 463 (.r [] 1 (.un (.r [] 0 (.lit (.r [] 0 (.r [] 463 (.r [] 463 (.r [] 1 (.un (.r [] 0 (.lit (.r [] 0 (.r [] 463 (.r [] 463 (.r [] 1 (.un (.r [] 0 (.lit (.r [] 3 .nil))))))))))))))))))))))))))))))) ([.agg [.int .i64 x,.int .i64 y,.int .u8 1]]) ([.agg (B7M x y 1),.int .i64 0]) ([])=(
 ((P.bI (P.okCl x y 1) 0 1 !=0)=true->0=cx x 1 0/\0=cy y 1 0/\0=cx x 1 1/\0=cy y 1 1/\0=cx x 1 2/\0=cy y 1 2/\iI 1=0/\True)/\((P.bI (P.okCl x y 1) 0 1 !=0)=false->inR i64
 (2*x)=true/\inR i64 (1+2*x)=true/\inR i64 (2*y)=true/\inR i64 (1+2*y)=true/\inR i64 (2*x)=true/\inR i64 (2+2*x)=true/\inR i64 (2*y)=true/\inR i64 (2+2*y)=
 true/\inR i64 (2*x)=true/\inR i64 (2+2*x)=true/\inR i64 (2*y)=true/\inR i64 (0+2*y)=true/\1+2*x=cx x 1 0/\1+2*y=cy y 1 0/\2+2*x=cx x 1 1/\2+2*y=cy y
 1 1/\2+2*x=cx x 1 2/\0+2*y=cy y 1 2/\iI 0=0/\True)):=by kernel_rfl
theorem B7U (x y:Int):fnP (T86) G 10000 B9G (.r [] 0 (.r [] 3 (.cnd (.r [] 1 .nil) (.r [] 31 (.r [] 7 (.r [] 0 (.un (.r [] 0 (.lit (.r [] 0 (.r [] 463 (.r [] 463 (.r [] 1 (.un (.r [] 0 (.lit (.r [] 0 (.r [] 463 (.r [] 463 (.r [] 1 (.un (.r [] 0 (.lit (.r [] 0 (.r [] 463 (.r [] 463 (.r [] 1 (.un (.r [] 0 (.lit (.r [] 3 .nil))))))))))))))))))))))))))))))) ([.agg [.int .i64 x,.int .i64 y,.int .u8 2]]) ([.agg (B7M x y 2),.int .i64 0]) ([])=(
 ((P.bI (P.okCl x y 2) 0 1 !=0)=true->0=cx x 2 0/\0=cy y 2 0/\0=cx x 2 1/\0=cy y 2 1/\0=cx x 2 2/\0=cy y 2 2/\iI 1=0/\True)/\((P.bI (P.okCl x y 2) 0 1 !=0)=false->inR i64
 (2*x)=true/\inR i64 (1+2*x)=true/\inR i64 (2*y)=true/\inR i64 (1+2*y)=true/\inR i64 (2*x)=true/\inR i64 (2+2*x)=true/\inR i64 (2*y)=true/\inR i64 (2+2*y)=
 true/\inR i64 (2*x)=true/\inR i64 (0+2*x)=true/\inR i64 (2*y)=true/\inR i64 (2+2*y)=true/\1+2*x=cx x 2 0/\1+2*y=cy y 2 0/\2+2*x=cx x 2 1/\2+2*y=cy y
 2 1/\0+2*x=cx x 2 2/\2+2*y=cy y 2 2/\iI 0=0/\True)):=by kernel_rfl
theorem B7V (x y:Int):fnP (T86) G 10000 B9G (.r [] 0 (.r [] 3 (.cnd (.r [] 1 .nil) (.r [] 31 (.r [] 7 (.r [] 0 (.un (.r [] 0 (.lit (.r [] 0 (.r [] 463 (.r [] 463 (.r [] 1 (.un (.r [] 0 (.lit (.r [] 0 (.r [] 463 (.r [] 463 (.r [] 1 (.un (.r [] 0 (.lit (.r [] 0 (.r [] 463 (.r [] 463 (.r [] 1 (.un (.r [] 0 (.lit (.r [] 3 .nil))))))))))))))))))))))))))))))) ([.agg [.int .i64 x,.int .i64 y,.int .u8 3]]) ([.agg (B7M x y 3),.int .i64 0]) ([])=(
 ((P.bI (P.okCl x y 3) 0 1 !=0)=true->0=cx x 3 0/\0=cy y 3 0/\0=cx x 3 1/\0=cy y 3 1/\0=cx x 3 2/\0=cy y 3 2/\iI 1=0/\True)/\((P.bI (P.okCl x y 3) 0 1 !=0)=false->inR i64
 (2*x)=true/\inR i64 (1+2*x)=true/\inR i64 (2*y)=true/\inR i64 (1+2*y)=true/\inR i64 (2*x)=true/\inR i64 (0+2*x)=true/\inR i64 (2*y)=true/\inR i64 (0+2*y)=
 true/\inR i64 (2*x)=true/\inR i64 (0+2*x)=true/\inR i64 (2*y)=true/\inR i64 (2+2*y)=true/\1+2*x=cx x 3 0/\1+2*y=cy y 3 0/\0+2*x=cx x 3 1/\0+2*y=cy y
 3 1/\0+2*x=cx x 3 2/\2+2*y=cy y 3 2/\iI 0=0/\True)):=by kernel_rfl
theorem B7W (x y q ax ay:Int):fnP (T57) G 10000 C1H (.r [] 0 (.r [] 29 (.r [] 15 .nil))) ([.agg [.int .i64 x,.int .i64 y,.int .u8 q],.int .u8 0,.agg [.int .i64 ax,.int .i64 ay]]) ([.bool (C6v x y q 0 ax ay)]) ([])=(
 inZ x y q/\(!(cx x q 0==ax&&cy y q 0==ay))= !(cx x q 0==ax&&cy y q 0==ay)/\True):=by kernel_rfl
theorem B7X (x y q ax ay:Int):fnP (T57) G 10000 C1H (.r [] 0 (.r [] 29 (.r [] 15 .nil))) ([.agg [.int .i64 x,.int .i64 y,.int .u8 q],.int .u8 1,.agg [.int .i64 ax,.int .i64 ay]]) ([.bool (C6v x y q 1 ax ay)]) ([])=(
 inZ x y q/\(!(cx x q 1==ax&&cy y q 1==ay))= !(cx x q 1==ax&&cy y q 1==ay)/\True):=by kernel_rfl
theorem B7Y (x y q ax ay:Int):fnP (T57) G 10000 C1H (.r [] 0 (.r [] 29 (.r [] 15 .nil))) ([.agg [.int .i64 x,.int .i64 y,.int .u8 q],.int .u8 2,.agg [.int .i64 ax,.int .i64 ay]]) ([.bool (C6v x y q 2 ax ay)]) ([])=(
 inZ x y q/\(!(cx x q 2==ax&&cy y q 2==ay))= !(cx x q 2==ax&&cy y q 2==ay)/\True):=by kernel_rfl
theorem B5I (x y q e ax ay:Int):fnP (T0) G 10000 C6e (.r [] 0 (.r [] 3 (.cnd (.r [] 0 .nil) (.r [] 0 .nil)))) ([.agg [.int .i64 x,.int .i64 y,.int .u8 q],.int .u8 e,.agg [.int .i64 ax,.int .i64 ay]]) ([.bool (lvB ax e)]) ([])=(
 ((Int.tmod ax 2 !=0)=true->((e==1)=bif Int.tmod ax 2 !=0 then e==1 else e==2)/\True)/\((Int.tmod ax 2 !=0)=false->((e==2)=bif Int.tmod ax 2 !=0 then e==1 else e==2)/\True)):=by kernel_rfl
end Go.Proofs.YtfafinkgmhkdmaaGreatDoor.X
