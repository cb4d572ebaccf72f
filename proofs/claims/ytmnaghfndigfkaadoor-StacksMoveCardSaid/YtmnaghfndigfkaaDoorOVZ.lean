/-
 What is to be shown of the functions (made by a program).
-/
import Derived.Test.YtmnaghfndigfkaaDoorDVZ
import Derived.KernelRfl
set_option maxRecDepth 1000000
set_option linter.unusedVariables false
namespace Go.Proofs.YtmnaghfndigfkaaDoor.X
open Go Go.Ab

theorem ob_o108 (a:Int):fnP (T0) G 10000 fe108 (.r [] 0 (.rs 3 [] 0 5 (.r [] 3 .nil) (.r [] 3 .nil))) ([.int .i64 a]) ([.bool (beyB a)]) ([])=(
(ltb a (-16384)=true→true=beyB a∧True)∧(ltb a (-16384)=false→ltb 16384 a=beyB a∧True)):=by kernel_rfl

theorem ob_o55 (t a b:Int):fnP (TV55) G 10000 fe55 (.r [] 0 (.rs 5 [] 1 7 (.r [] 63 (.lit (.r [] 0 .nil))) (.rs 5 [] 15 12 (.r [] 15 (.lit (.r [] 0 .nil))) (.rs 5 [] 15 17 (.r [] 3 (.lit (.r [] 0 .nil))) (.r [] 59 (.cnd (.r [] 0 .nil) (.r [] 0 .nil))))))) ([.agg [.int .u8 t,.int .i64 a,.int .i64 b]]) ([.int .i64 (bI (mvV t a b) 0 1)]) ([])=(
inR IntKind.i64 t=true∧(leb 8 t=true→1=bI (mvV t a b) 0 1∧True)∧(leb 8 t=false→(beyB a=true→1=bI (mvV t a b) 0 1∧True)∧(beyB a=false→(beyB b=true→1=bI (mvV t a b)
0 1∧True)∧(beyB b=false→inR IntKind.i64 (a+b)=true∧((Int.tmod (a+b) 2 !=0)=true→1=bI (mvV t a b) 0 1∧True)∧((Int.tmod (a+b) 2 !=0)=false→0=bI (mvV t a b) 0 1∧
True))))):=by kernel_rfl

theorem ob_o112 (a b c d x y:Int):fnP (T0) G 10000 fe112 (.r [] 0 (.r [] 165 .nil)) ([.agg [.int .i64 a,.int .i64 b,.int .i64 c,.int .i64 d],.int .i64 x,.int .i64 y]) ([.int .i64 (a*x+b*y),.int .i64 (c*x+d*y)]) ([])=(
inR IntKind.i64 (a*x)=true∧inR IntKind.i64 (b*y)=true∧inR IntKind.i64 (a*x+b*y)=true∧inR IntKind.i64 (c*x)=true∧inR IntKind.i64 (d*y)=true∧inR IntKind.i64 (c*x+d
*y)=true∧a*x+b*y=a*x+b*y∧c*x+d*y=c*x+d*y∧True):=by kernel_rfl

theorem ob_o166_0 (a b x y:Int):fnP (TV166) G 10000 fe166 (.r [] 0 (.r [yL 132,yL 133,yL 134,yL 135] 505 (.ff (.r [] 447 (.r [] 73 (.r [] 3 (.ff (.r [] 3 .nil)))))))) ([.agg [.int .u8 0,.int .i64 a,.int .i64 b],.agg [.int .i64 x,.int .i64 y]]) ([.agg [.int .i64 (mtX 0 x y+2*a),.int .i64 (mtY 0 x y+2*b)],.int .i64 0]) ([])=(
(iI 0≤iI 0∧iI 0≤iI 255)∧(!bI (mvV 0 a b) 0 1 !=0)=true∧(bI (ptB x y) 0 1 !=0)=false∧((iI (-1)≤iI 1∧iI 1≤iI 1)∧(iI (-1)≤iI 0∧iI 0≤iI 1)∧(iI (-1)≤iI 0∧iI 0≤iI 1)
∧(iI (-1)≤iI 1∧iI 1≤iI 1)∧smP x y)∧inR IntKind.i64 (2*a)=true∧inR IntKind.i64 (1*x+0*y+2*a)=true∧inR IntKind.i64 (2*b)=true∧inR IntKind.i64 (0*x+1*y+2*b)
=true∧(bI (ptB (1*x+0*y+2*a) (0*x+1*y+2*b)) 0 1 !=0)=false∧1*x+0*y+2*a=mtX 0 x y+2*a∧0*x+1*y+2*b=mtY 0 x y+2*b∧iI 0=0∧True):=by kernel_rfl

theorem ob_o166_1 (a b x y:Int):fnP (TV166) G 10000 fe166 (.r [] 0 (.r [yL 132,yL 133,yL 134,yL 135] 505 (.ff (.r [] 447 (.r [] 73 (.r [] 3 (.ff (.r [] 3 .nil)))))))) ([.agg [.int .u8 1,.int .i64 a,.int .i64 b],.agg [.int .i64 x,.int .i64 y]]) ([.agg [.int .i64 (mtX 1 x y+2*a),.int .i64 (mtY 1 x y+2*b)],.int .i64 0]) ([])=(
(iI 0≤iI 1∧iI 1≤iI 255)∧(!bI (mvV 1 a b) 0 1 !=0)=true∧(bI (ptB x y) 0 1 !=0)=false∧((iI (-1)≤iI 0∧iI 0≤iI 1)∧(iI (-1)≤iI (-1)∧iI (-1)≤iI 1)∧(iI (-1)≤iI 1∧iI 1≤
iI 1)∧(iI (-1)≤iI 0∧iI 0≤iI 1)∧smP x y)∧inR IntKind.i64 (2*a)=true∧inR IntKind.i64 (0*x+ -1*y+2*a)=true∧inR IntKind.i64 (2*b)=true∧inR IntKind.i64 (1*x+0*y+
2*b)=true∧(bI (ptB (0*x+ -1*y+2*a) (1*x+0*y+2*b)) 0 1 !=0)=false∧0*x+ -1*y+2*a=mtX 1 x y+2*a∧1*x+0*y+2*b=mtY 1 x y+2*b∧iI 0=0∧True):=by kernel_rfl

theorem ob_o166_2 (a b x y:Int):fnP (TV166) G 10000 fe166 (.r [] 0 (.r [yL 132,yL 133,yL 134,yL 135] 505 (.ff (.r [] 447 (.r [] 73 (.r [] 3 (.ff (.r [] 3 .nil)))))))) ([.agg [.int .u8 2,.int .i64 a,.int .i64 b],.agg [.int .i64 x,.int .i64 y]]) ([.agg [.int .i64 (mtX 2 x y+2*a),.int .i64 (mtY 2 x y+2*b)],.int .i64 0]) ([])=(
(iI 0≤iI 2∧iI 2≤iI 255)∧(!bI (mvV 2 a b) 0 1 !=0)=true∧(bI (ptB x y) 0 1 !=0)=false∧((iI (-1)≤iI (-1)∧iI (-1)≤iI 1)∧(iI (-1)≤iI 0∧iI 0≤iI 1)∧(iI (-1)≤iI 0∧iI 0≤
iI 1)∧(iI (-1)≤iI (-1)∧iI (-1)≤iI 1)∧smP x y)∧inR IntKind.i64 (2*a)=true∧inR IntKind.i64 (-1*x+0*y+2*a)=true∧inR IntKind.i64 (2*b)=true∧inR IntKind.i64 (0*x+
-1*y+2*b)=true∧(bI (ptB (-1*x+0*y+2*a) (0*x+ -1*y+2*b)) 0 1 !=0)=false∧ -1*x+0*y+2*a=mtX 2 x y+2*a∧0*x+ -1*y+2*b=mtY 2 x y+2*b∧iI 0
=0∧True):=by kernel_rfl

theorem ob_o166_3 (a b x y:Int):fnP (TV166) G 10000 fe166 (.r [] 0 (.r [yL 132,yL 133,yL 134,yL 135] 505 (.ff (.r [] 447 (.r [] 73 (.r [] 3 (.ff (.r [] 3 .nil)))))))) ([.agg [.int .u8 3,.int .i64 a,.int .i64 b],.agg [.int .i64 x,.int .i64 y]]) ([.agg [.int .i64 (mtX 3 x y+2*a),.int .i64 (mtY 3 x y+2*b)],.int .i64 0]) ([])=(
(iI 0≤iI 3∧iI 3≤iI 255)∧(!bI (mvV 3 a b) 0 1 !=0)=true∧(bI (ptB x y) 0 1 !=0)=false∧((iI (-1)≤iI 0∧iI 0≤iI 1)∧(iI (-1)≤iI 1∧iI 1≤iI 1)∧(iI (-1)≤iI (-1)∧iI (-1)≤
iI 1)∧(iI (-1)≤iI 0∧iI 0≤iI 1)∧smP x y)∧inR IntKind.i64 (2*a)=true∧inR IntKind.i64 (0*x+1*y+2*a)=true∧inR IntKind.i64 (2*b)=true∧inR IntKind.i64 (-1*x+0*y+
2*b)=true∧(bI (ptB (0*x+1*y+2*a) (-1*x+0*y+2*b)) 0 1 !=0)=false∧0*x+1*y+2*a=mtX 3 x y+2*a∧ -1*x+0*y+2*b=mtY 3 x y+2*b∧iI 0=0∧True):=by kernel_rfl

theorem ob_o166_4 (a b x y:Int):fnP (TV166) G 10000 fe166 (.r [] 0 (.r [yL 132,yL 133,yL 134,yL 135] 505 (.ff (.r [] 447 (.r [] 73 (.r [] 3 (.ff (.r [] 3 .nil)))))))) ([.agg [.int .u8 4,.int .i64 a,.int .i64 b],.agg [.int .i64 x,.int .i64 y]]) ([.agg [.int .i64 (mtX 4 x y+2*a),.int .i64 (mtY 4 x y+2*b)],.int .i64 0]) ([])=(
(iI 0≤iI 4∧iI 4≤iI 255)∧(!bI (mvV 4 a b) 0 1 !=0)=true∧(bI (ptB x y) 0 1 !=0)=false∧((iI (-1)≤iI (-1)∧iI (-1)≤iI 1)∧(iI (-1)≤iI 0∧iI 0≤iI 1)∧(iI (-1)≤iI 0∧iI 0≤
iI 1)∧(iI (-1)≤iI 1∧iI 1≤iI 1)∧smP x y)∧inR IntKind.i64 (2*a)=true∧inR IntKind.i64 (-1*x+0*y+2*a)=true∧inR IntKind.i64 (2*b)=true∧inR IntKind.i64 (0*x+1*y+
2*b)=true∧(bI (ptB (-1*x+0*y+2*a) (0*x+1*y+2*b)) 0 1 !=0)=false∧ -1*x+0*y+2*a=mtX 4 x y+2*a∧0*x+1*y+2*b=mtY 4 x y+2*b∧iI 0=0∧True):=by kernel_rfl

theorem ob_o166_5 (a b x y:Int):fnP (TV166) G 10000 fe166 (.r [] 0 (.r [yL 132,yL 133,yL 134,yL 135] 505 (.ff (.r [] 447 (.r [] 73 (.r [] 3 (.ff (.r [] 3 .nil)))))))) ([.agg [.int .u8 5,.int .i64 a,.int .i64 b],.agg [.int .i64 x,.int .i64 y]]) ([.agg [.int .i64 (mtX 5 x y+2*a),.int .i64 (mtY 5 x y+2*b)],.int .i64 0]) ([])=(
(iI 0≤iI 5∧iI 5≤iI 255)∧(!bI (mvV 5 a b) 0 1 !=0)=true∧(bI (ptB x y) 0 1 !=0)=false∧((iI (-1)≤iI 0∧iI 0≤iI 1)∧(iI (-1)≤iI (-1)∧iI (-1)≤iI 1)∧(iI (-1)≤iI (-1)∧iI
(-1)≤iI 1)∧(iI (-1)≤iI 0∧iI 0≤iI 1)∧smP x y)∧inR IntKind.i64 (2*a)=true∧inR IntKind.i64 (0*x+ -1*y+2*a)=true∧inR IntKind.i64 (2*b)=true∧inR IntKind.i64 (-1*x+
0*y+2*b)=true∧(bI (ptB (0*x+ -1*y+2*a) (-1*x+0*y+2*b)) 0 1 !=0)=false∧0*x+ -1*y+2*a=mtX 5 x y+2*a∧ -1*x+0*y+2*b=mtY 5 x y+2*b∧iI 0=
0∧True):=by kernel_rfl

theorem ob_o166_6 (a b x y:Int):fnP (TV166) G 10000 fe166 (.r [] 0 (.r [yL 132,yL 133,yL 134,yL 135] 505 (.ff (.r [] 447 (.r [] 73 (.r [] 3 (.ff (.r [] 3 .nil)))))))) ([.agg [.int .u8 6,.int .i64 a,.int .i64 b],.agg [.int .i64 x,.int .i64 y]]) ([.agg [.int .i64 (mtX 6 x y+2*a),.int .i64 (mtY 6 x y+2*b)],.int .i64 0]) ([])=(
(iI 0≤iI 6∧iI 6≤iI 255)∧(!bI (mvV 6 a b) 0 1 !=0)=true∧(bI (ptB x y) 0 1 !=0)=false∧((iI (-1)≤iI 1∧iI 1≤iI 1)∧(iI (-1)≤iI 0∧iI 0≤iI 1)∧(iI (-1)≤iI 0∧iI 0≤iI 1)
∧(iI (-1)≤iI (-1)∧iI (-1)≤iI 1)∧smP x y)∧inR IntKind.i64 (2*a)=true∧inR IntKind.i64 (1*x+0*y+2*a)=true∧inR IntKind.i64 (2*b)=true∧inR IntKind.i64 (0*x+ -1*y+
2*b)=true∧(bI (ptB (1*x+0*y+2*a) (0*x+ -1*y+2*b)) 0 1 !=0)=false∧1*x+0*y+2*a=mtX 6 x y+2*a∧0*x+ -1*y+2*b=mtY 6 x y+2*b∧iI 0=0∧True):=by kernel_rfl

theorem ob_o166_7 (a b x y:Int):fnP (TV166) G 10000 fe166 (.r [] 0 (.r [yL 132,yL 133,yL 134,yL 135] 505 (.ff (.r [] 447 (.r [] 73 (.r [] 3 (.ff (.r [] 3 .nil)))))))) ([.agg [.int .u8 7,.int .i64 a,.int .i64 b],.agg [.int .i64 x,.int .i64 y]]) ([.agg [.int .i64 (mtX 7 x y+2*a),.int .i64 (mtY 7 x y+2*b)],.int .i64 0]) ([])=(
(iI 0≤iI 7∧iI 7≤iI 255)∧(!bI (mvV 7 a b) 0 1 !=0)=true∧(bI (ptB x y) 0 1 !=0)=false∧((iI (-1)≤iI 0∧iI 0≤iI 1)∧(iI (-1)≤iI 1∧iI 1≤iI 1)∧(iI (-1)≤iI 1∧iI 1≤iI 1)
∧(iI (-1)≤iI 0∧iI 0≤iI 1)∧smP x y)∧inR IntKind.i64 (2*a)=true∧inR IntKind.i64 (0*x+1*y+2*a)=true∧inR IntKind.i64 (2*b)=true∧inR IntKind.i64 (1*x+0*y+2*b)
=true∧(bI (ptB (0*x+1*y+2*a) (1*x+0*y+2*b)) 0 1 !=0)=false∧0*x+1*y+2*a=mtX 7 x y+2*a∧1*x+0*y+2*b=mtY 7 x y+2*b∧iI 0=0∧True):=by kernel_rfl

theorem ob_o132 (t a b x y q:Int):fnP (TV132) G 10000 fe132 (.r [] 0 (.r [(134,.auto,Dr.val [AV.int IntKind.i64 (sdX q),AV.int IntKind.i64 (sdY q)])] 389 (.r [] 59 (.r [] 3 (.r [] 59 (.r [] 1651 (.r [] 1 (.lp (l132 (mvQ t q) (hlf (mtX t (2*x+1) (2*y+1)+2*a)) (hlf (mtY t (2*x+1) (2*y+1)+2*b))) [] [] (fun b_1=>(.br (b_1.i==0) (.jn (jD 0 true) [] [] (.r [] 0 .nil) (fun b_2=>(.lit (.r [] 15 (.r [] 3 (.cnd (.r [] 3 (.r [] 1 .nil)) (.r [] 1 .nil))))))) (.br (b_1.i==1) (.jn (jD 1 true) [] [] (.r [] 0 .nil) (fun b_2=>(.lit (.r [] 15 (.r [] 3 (.cnd (.r [] 3 (.r [] 1 .nil)) (.r [] 1 .nil))))))) (.br (b_1.i==2) (.jn (jD 2 true) [] [] (.r [] 0 .nil) (fun b_2=>(.lit (.r [] 15 (.r [] 3 (.cnd (.r [] 3 (.r [] 1 .nil)) (.r [] 1 .nil))))))) (.br (b_1.i==3) (.jn (jD 3 true) [] [] (.r [] 0 .nil) (fun b_2=>(.lit (.r [] 15 (.r [] 3 (.cnd (.r [] 3 (.r [] 1 .nil)) (.r [] 1 .nil))))))) (.jn (jD 4 false) [] [] (.r [] 0 .nil) (fun b_2=>(.lit (.r [] 3 .nil))))))))))))))))) ([.agg [.int .u8 t,.int .i64 a,.int .i64 b],.agg [.int .i64 x,.int .i64 y,.int .u8 q]]) ([.agg [.int .i64 (mvX' t a x y),.int .i64 (mvY' t b x y),.int .u8 (mvQ t q)]]) ([])=(
smP x y∧leb 0 q=true∧ltb q 4=true∧(List.drop 0 (List.drop (Int.toNat q*17) [AV.int IntKind.i64 0,AV.int IntKind.i64 (-1),AV.int IntKind.u8 2,AV.int IntKind.i64 0,AV.int IntKind.i64 0,
AV.int IntKind.i64 (-1),AV.int IntKind.u8 2,AV.int IntKind.i64 0,AV.int IntKind.i64 0,AV.int IntKind.u8 1,AV.int IntKind.i64 0,AV.int IntKind.i64 0,AV.int IntKind.u8 3,AV.int IntKind.i64 0,
AV.int IntKind.i64 0,AV.int IntKind.i64 2,AV.int IntKind.i64 0,AV.int IntKind.i64 1,AV.int IntKind.i64 0,AV.int IntKind.u8 1,AV.int IntKind.i64 1,AV.int IntKind.i64 1,AV.int IntKind.i64 0,
AV.int IntKind.u8 3,AV.int IntKind.i64 0,AV.int IntKind.i64 0,AV.int IntKind.u8 0,AV.int IntKind.i64 0,AV.int IntKind.i64 0,AV.int IntKind.u8 2,AV.int IntKind.i64 2,AV.int IntKind.i64 2,
AV.int IntKind.i64 2,AV.int IntKind.i64 0,AV.int IntKind.i64 0,AV.int IntKind.i64 1,AV.int IntKind.u8 2,AV.int IntKind.i64 1,AV.int IntKind.i64 0,AV.int IntKind.i64 1,AV.int IntKind.u8 0,
AV.int IntKind.i64 0,AV.int IntKind.i64 0,AV.int IntKind.u8 3,AV.int IntKind.i64 0,AV.int IntKind.i64 0,AV.int IntKind.u8 1,AV.int IntKind.i64 2,AV.int IntKind.i64 2,AV.int IntKind.i64 0,
AV.int IntKind.i64 2,AV.int IntKind.i64 (-1),AV.int IntKind.i64 0,AV.int IntKind.u8 1,AV.int IntKind.i64 0,AV.int IntKind.i64 (-1),AV.int IntKind.i64 0,AV.int IntKind.u8 1,AV.int IntKind.i64
0,AV.int IntKind.i64 0,AV.int IntKind.u8 2,AV.int IntKind.i64 0,AV.int IntKind.i64 0,AV.int IntKind.u8 0,AV.int IntKind.i64 0,AV.int IntKind.i64 0,AV.int IntKind.i64 0,AV.int IntKind.i64
2]))[0]? =some (AV.int IntKind.i64 (sdX q))∧(List.drop 0 (List.drop (Int.toNat q*17) [AV.int IntKind.i64 0,AV.int IntKind.i64 (-1),AV.int IntKind.u8 2,AV.int IntKind.i64 0,AV.int IntKind.i64
0,AV.int IntKind.i64 (-1),AV.int IntKind.u8 2,AV.int IntKind.i64 0,AV.int IntKind.i64 0,AV.int IntKind.u8 1,AV.int IntKind.i64 0,AV.int IntKind.i64 0,AV.int IntKind.u8 3,AV.int IntKind.i64 0,
AV.int IntKind.i64 0,AV.int IntKind.i64 2,AV.int IntKind.i64 0,AV.int IntKind.i64 1,AV.int IntKind.i64 0,AV.int IntKind.u8 1,AV.int IntKind.i64 1,AV.int IntKind.i64 1,AV.int IntKind.i64 0,
AV.int IntKind.u8 3,AV.int IntKind.i64 0,AV.int IntKind.i64 0,AV.int IntKind.u8 0,AV.int IntKind.i64 0,AV.int IntKind.i64 0,AV.int IntKind.u8 2,AV.int IntKind.i64 2,AV.int IntKind.i64 2,
AV.int IntKind.i64 2,AV.int IntKind.i64 0,AV.int IntKind.i64 0,AV.int IntKind.i64 1,AV.int IntKind.u8 2,AV.int IntKind.i64 1,AV.int IntKind.i64 0,AV.int IntKind.i64 1,AV.int IntKind.u8 0,
AV.int IntKind.i64 0,AV.int IntKind.i64 0,AV.int IntKind.u8 3,AV.int IntKind.i64 0,AV.int IntKind.i64 0,AV.int IntKind.u8 1,AV.int IntKind.i64 2,AV.int IntKind.i64 2,AV.int IntKind.i64 0,
AV.int IntKind.i64 2,AV.int IntKind.i64 (-1),AV.int IntKind.i64 0,AV.int IntKind.u8 1,AV.int IntKind.i64 0,AV.int IntKind.i64 (-1),AV.int IntKind.i64 0,AV.int IntKind.u8 1,AV.int IntKind.i64
0,AV.int IntKind.i64 0,AV.int IntKind.u8 2,AV.int IntKind.i64 0,AV.int IntKind.i64 0,AV.int IntKind.u8 0,AV.int IntKind.i64 0,AV.int IntKind.i64 0,AV.int IntKind.i64 0,AV.int IntKind.i64
2]))[1]? =some (AV.int IntKind.i64 (sdY q))∧(mvO t a b∧s10k (2*x+1) (2*y+1))∧(mvO t 0 0∧s10k (sdX q) (sdY q))∧inR IntKind.i64 (mtX t (2*x+1) (2*y+1)+2*a-bitI BinOp.and
IntKind.i64 (mtX t (2*x+1) (2*y+1)+2*a) 1)=true∧inR IntKind.i64 (Int.tdiv (mtX t (2*x+1) (2*y+1)+2*a-bitI BinOp.and IntKind.i64 (mtX t (2*x+1) (2*y+1)+2*a) 1)
2)=true∧inR IntKind.i64 (mtY t (2*x+1) (2*y+1)+2*b-bitI BinOp.and IntKind.i64 (mtY t (2*x+1) (2*y+1)+2*b) 1)=true∧inR IntKind.i64 (Int.tdiv (mtY t (2*x+1) (2*y
+1)+2*b-bitI BinOp.and IntKind.i64 (mtY t (2*x+1) (2*y+1)+2*b) 1) 2)=true∧1=1∧t=t∧iI 0=0∧iI 0=0∧1=1∧x=x∧y=y∧q=q∧1=1∧iI 0=0∧iI 0=0∧iI
0=0∧1=1∧mtX t (2*x+1) (2*y+1)+2*a=mtX t (2*x+1) (2*y+1)+2*a∧mtY t (2*x+1) (2*y+1)+2*b=mtY t (2*x+1) (2*y+1)+2*b∧1=1∧mtX t (sdX q)
(sdY q)+0=mtX t (sdX q) (sdY q)+0∧mtY t (sdX q) (sdY q)+0=mtY t (sdX q) (sdY q)+0∧1=1∧Int.tdiv (mtX t (2*x+1) (2*y+1)+2*a-bitI BinOp.and IntKind.i64 (mtX t (2*x+
1) (2*y+1)+2*a) 1) 2=hlf (mtX t (2*x+1) (2*y+1)+2*a)∧Int.tdiv (mtY t (2*x+1) (2*y+1)+2*b-bitI BinOp.and IntKind.i64 (mtY t (2*x+1) (2*y+1)+2*b) 1) 2=
hlf (mtY t (2*x+1) (2*y+1)+2*b)∧iI 0=0∧0=0∧0=0∧0=0∧iI 0=0∧iI (-1)= -1∧iI 2=2∧iI 0=0∧iI 0=0∧iI (-1)= -1∧iI 2=2∧iI 0=0∧iI 0=0∧iI 1=1∧
iI 0=0∧iI 0=0∧iI 3=3∧iI 0=0∧iI 0=0∧iI 2=2∧iI 0=0∧iI 1=1∧iI 0=0∧iI 1=1∧iI 1=1∧iI 1=1∧iI 0=0∧iI 3=3∧iI 0=0∧iI 0=0∧iI 0=0∧iI 0=0∧iI
0=0∧iI 2=2∧iI 2=2∧iI 2=2∧iI 2=2∧iI 0=0∧iI 0=0∧iI 1=1∧iI 2=2∧iI 1=1∧iI 0=0∧iI 1=1∧iI 0=0∧iI 0=0∧iI 0=0∧iI 3=3∧iI 0=0∧iI 0=0∧iI 1
=1∧iI 2=2∧iI 2=2∧iI 0=0∧iI 2=2∧iI (-1)= -1∧iI 0=0∧iI 1=1∧iI 0=0∧iI (-1)= -1∧iI 0=0∧iI 1=1∧iI 0=0∧iI 0=0∧iI 2=2∧iI 0=0∧iI 0=0∧iI 0=0∧
iI 0=0∧iI 0=0∧iI 0=0∧iI 2=2∧iI 0=0∧(∃(n:Nat),0=(↑n:Int)∧n≤4∧0=kAft (mvQ t q) n)∧∀(b_1:L132),(∃(n:Nat),b_1.i=(↑n:Int)∧n≤4∧b_1.k=kAft (mvQ t q)
n)→((b_1.i==0)=true→(1=1∧t=t∧iI 0=0∧iI 0=0∧1=1∧x=x∧y=y∧q=q∧1=1∧iI 0=0∧iI 0=0∧iI 0=0∧1=1∧mtX t (2*x+1) (2*y+1)+2*a=mtX t (2*x
+1) (2*y+1)+2*a∧mtY t (2*x+1) (2*y+1)+2*b=mtY t (2*x+1) (2*y+1)+2*b∧1=1∧mtX t (sdX q) (sdY q)+0=mtX t (sdX q) (sdY q)+0∧mtY t (sdX q) (sdY q)+0=
mtY t (sdX q) (sdY q)+0∧1=1∧hlf (mtX t (2*x+1) (2*y+1)+2*a)=hlf (mtX t (2*x+1) (2*y+1)+2*a)∧hlf (mtY t (2*x+1) (2*y+1)+2*b)=hlf (mtY t (2*x+1) (2
*y+1)+2*b)∧b_1.k=b_1.k∧0=0∧0=0∧0=0∧iI 0=0∧iI (-1)= -1∧iI 2=2∧iI 0=0∧iI 0=0∧iI (-1)= -1∧iI 2=2∧iI 0=0∧iI 0=0∧iI 1=1∧iI 0=0∧iI 0=0∧
iI 3=3∧iI 0=0∧iI 0=0∧iI 2=2∧iI 0=0∧iI 1=1∧iI 0=0∧iI 1=1∧iI 1=1∧iI 1=1∧iI 0=0∧iI 3=3∧iI 0=0∧iI 0=0∧iI 0=0∧iI 0=0∧iI 0=0∧iI 2=2∧iI
2=2∧iI 2=2∧iI 2=2∧iI 0=0∧iI 0=0∧iI 1=1∧iI 2=2∧iI 1=1∧iI 0=0∧iI 1=1∧iI 0=0∧iI 0=0∧iI 0=0∧iI 3=3∧iI 0=0∧iI 0=0∧iI 1=1∧iI 2=2∧iI 2
=2∧iI 0=0∧iI 2=2∧iI (-1)= -1∧iI 0=0∧iI 1=1∧iI 0=0∧iI (-1)= -1∧iI 0=0∧iI 1=1∧iI 0=0∧iI 0=0∧iI 2=2∧iI 0=0∧iI 0=0∧iI 0=0∧iI 0=0∧iI 0=0∧
iI 0=0∧iI 2=2∧b_1.i=0∧ltb b_1.i 4=true∧True∧True)∧∀(b_2:Unit),True→((0==mtX t (sdX q) (sdY q)+0&& -1==mtY t (sdX q) (sdY q)+0)=true→1=1∧t=t∧iI 0=0∧iI
0=0∧1=1∧x=x∧y=y∧q=q∧1=1∧iI 0=0∧iI 0=0∧iI 0=0∧1=1∧mtX t (2*x+1) (2*y+1)+2*a=mtX t (2*x+1) (2*y+1)+2*a∧mtY t (2*x+1) (2*y+1)+
2*b=mtY t (2*x+1) (2*y+1)+2*b∧1=1∧mtX t (sdX q) (sdY q)+0=mtX t (sdX q) (sdY q)+0∧mtY t (sdX q) (sdY q)+0=mtY t (sdX q) (sdY q)+0∧1=1∧hlf (mtX t (2*x+1)
(2*y+1)+2*a)=hlf (mtX t (2*x+1) (2*y+1)+2*a)∧hlf (mtY t (2*x+1) (2*y+1)+2*b)=hlf (mtY t (2*x+1) (2*y+1)+2*b)∧iI 0=0∧0=0∧0=0∧0=0∧iI 0
=0∧iI (-1)= -1∧iI 2=2∧iI 0=0∧iI 0=0∧iI (-1)= -1∧iI 2=2∧iI 0=0∧iI 0=0∧iI 1=1∧iI 0=0∧iI 0=0∧iI 3=3∧iI 0=0∧iI 0=0∧iI 2=2∧iI 0=0∧iI 1=1∧
iI 0=0∧iI 1=1∧iI 1=1∧iI 1=1∧iI 0=0∧iI 3=3∧iI 0=0∧iI 0=0∧iI 0=0∧iI 0=0∧iI 0=0∧iI 2=2∧iI 2=2∧iI 2=2∧iI 2=2∧iI 0=0∧iI 0=0∧iI 1=1∧iI
2=2∧iI 1=1∧iI 0=0∧iI 1=1∧iI 0=0∧iI 0=0∧iI 0=0∧iI 3=3∧iI 0=0∧iI 0=0∧iI 1=1∧iI 2=2∧iI 2=2∧iI 0=0∧iI 2=2∧iI (-1)= -1∧iI 0=0∧iI 1=1∧
iI 0=0∧iI (-1)= -1∧iI 0=0∧iI 1=1∧iI 0=0∧iI 0=0∧iI 2=2∧iI 0=0∧iI 0=0∧iI 0=0∧iI 0=0∧iI 0=0∧iI 0=0∧iI 2=2∧iI 1=1∧(∃(n:Nat),1=(↑n:Int)∧
n≤4∧0=kAft (mvQ t q) n)∧3<4-Int.toNat b_1.i∧True)∧((0==mtX t (sdX q) (sdY q)+0&& -1==mtY t (sdX q) (sdY q)+0)=false→1=1∧t=t∧iI 0=0∧iI 0=0∧1=1∧x=x∧y
=y∧q=q∧1=1∧iI 0=0∧iI 0=0∧iI 0=0∧1=1∧mtX t (2*x+1) (2*y+1)+2*a=mtX t (2*x+1) (2*y+1)+2*a∧mtY t (2*x+1) (2*y+1)+2*b=mtY t (2*x+1)
(2*y+1)+2*b∧1=1∧mtX t (sdX q) (sdY q)+0=mtX t (sdX q) (sdY q)+0∧mtY t (sdX q) (sdY q)+0=mtY t (sdX q) (sdY q)+0∧1=1∧hlf (mtX t (2*x+1) (2*y+1)+2*a)=hlf
(mtX t (2*x+1) (2*y+1)+2*a)∧hlf (mtY t (2*x+1) (2*y+1)+2*b)=hlf (mtY t (2*x+1) (2*y+1)+2*b)∧b_1.k=b_1.k∧0=0∧0=0∧0=0∧iI 0=0∧iI (-1)= -1∧
iI 2=2∧iI 0=0∧iI 0=0∧iI (-1)= -1∧iI 2=2∧iI 0=0∧iI 0=0∧iI 1=1∧iI 0=0∧iI 0=0∧iI 3=3∧iI 0=0∧iI 0=0∧iI 2=2∧iI 0=0∧iI 1=1∧iI 0=0∧iI 1=1
∧iI 1=1∧iI 1=1∧iI 0=0∧iI 3=3∧iI 0=0∧iI 0=0∧iI 0=0∧iI 0=0∧iI 0=0∧iI 2=2∧iI 2=2∧iI 2=2∧iI 2=2∧iI 0=0∧iI 0=0∧iI 1=1∧iI 2=2∧iI 1=1∧
iI 0=0∧iI 1=1∧iI 0=0∧iI 0=0∧iI 0=0∧iI 3=3∧iI 0=0∧iI 0=0∧iI 1=1∧iI 2=2∧iI 2=2∧iI 0=0∧iI 2=2∧iI (-1)= -1∧iI 0=0∧iI 1=1∧iI 0=0∧iI (-1)=
-1∧iI 0=0∧iI 1=1∧iI 0=0∧iI 0=0∧iI 2=2∧iI 0=0∧iI 0=0∧iI 0=0∧iI 0=0∧iI 0=0∧iI 0=0∧iI 2=2∧iI 1=1∧(∃(n:Nat),1=(↑n:Int)∧n≤4∧b_1.k=kAft
(mvQ t q) n)∧3<4-Int.toNat b_1.i∧True))∧((b_1.i==0)=false→((b_1.i==1)=true→(1=1∧t=t∧iI 0=0∧iI 0=0∧1=1∧x=x∧y=y∧q=q∧1=1∧iI 0=0∧iI 0=0∧iI
0=0∧1=1∧mtX t (2*x+1) (2*y+1)+2*a=mtX t (2*x+1) (2*y+1)+2*a∧mtY t (2*x+1) (2*y+1)+2*b=mtY t (2*x+1) (2*y+1)+2*b∧1=1∧mtX t (sdX q)
(sdY q)+0=mtX t (sdX q) (sdY q)+0∧mtY t (sdX q) (sdY q)+0=mtY t (sdX q) (sdY q)+0∧1=1∧hlf (mtX t (2*x+1) (2*y+1)+2*a)=hlf (mtX t (2*x+1) (2*y+1)+2*a)∧
hlf (mtY t (2*x+1) (2*y+1)+2*b)=hlf (mtY t (2*x+1) (2*y+1)+2*b)∧b_1.k=b_1.k∧0=0∧0=0∧0=0∧iI 0=0∧iI (-1)= -1∧iI 2=2∧iI 0=0∧iI 0=0∧iI (-1)=
-1∧iI 2=2∧iI 0=0∧iI 0=0∧iI 1=1∧iI 0=0∧iI 0=0∧iI 3=3∧iI 0=0∧iI 0=0∧iI 2=2∧iI 0=0∧iI 1=1∧iI 0=0∧iI 1=1∧iI 1=1∧iI 1=1∧iI 0=0∧iI 3=3
∧iI 0=0∧iI 0=0∧iI 0=0∧iI 0=0∧iI 0=0∧iI 2=2∧iI 2=2∧iI 2=2∧iI 2=2∧iI 0=0∧iI 0=0∧iI 1=1∧iI 2=2∧iI 1=1∧iI 0=0∧iI 1=1∧iI 0=0∧iI 0=0∧
iI 0=0∧iI 3=3∧iI 0=0∧iI 0=0∧iI 1=1∧iI 2=2∧iI 2=2∧iI 0=0∧iI 2=2∧iI (-1)= -1∧iI 0=0∧iI 1=1∧iI 0=0∧iI (-1)= -1∧iI 0=0∧iI 1=1∧iI 0=0∧iI 0
=0∧iI 2=2∧iI 0=0∧iI 0=0∧iI 0=0∧iI 0=0∧iI 0=0∧iI 0=0∧iI 2=2∧b_1.i=1∧ltb b_1.i 4=true∧True∧True)∧∀(b_2:Unit),True→((1==mtX t (sdX q) (sdY q)+0&&
0==mtY t (sdX q) (sdY q)+0)=true→1=1∧t=t∧iI 0=0∧iI 0=0∧1=1∧x=x∧y=y∧q=q∧1=1∧iI 0=0∧iI 0=0∧iI 0=0∧1=1∧mtX t (2*x+1) (2*y+1)+2*a=
mtX t (2*x+1) (2*y+1)+2*a∧mtY t (2*x+1) (2*y+1)+2*b=mtY t (2*x+1) (2*y+1)+2*b∧1=1∧mtX t (sdX q) (sdY q)+0=mtX t (sdX q) (sdY q)+0∧mtY t (sdX q)
(sdY q)+0=mtY t (sdX q) (sdY q)+0∧1=1∧hlf (mtX t (2*x+1) (2*y+1)+2*a)=hlf (mtX t (2*x+1) (2*y+1)+2*a)∧hlf (mtY t (2*x+1) (2*y+1)+2*b)=hlf (mtY t
(2*x+1) (2*y+1)+2*b)∧iI 1=1∧0=0∧0=0∧0=0∧iI 0=0∧iI (-1)= -1∧iI 2=2∧iI 0=0∧iI 0=0∧iI (-1)= -1∧iI 2=2∧iI 0=0∧iI 0=0∧iI 1=1∧iI 0=0∧
iI 0=0∧iI 3=3∧iI 0=0∧iI 0=0∧iI 2=2∧iI 0=0∧iI 1=1∧iI 0=0∧iI 1=1∧iI 1=1∧iI 1=1∧iI 0=0∧iI 3=3∧iI 0=0∧iI 0=0∧iI 0=0∧iI 0=0∧iI 0=0∧iI
2=2∧iI 2=2∧iI 2=2∧iI 2=2∧iI 0=0∧iI 0=0∧iI 1=1∧iI 2=2∧iI 1=1∧iI 0=0∧iI 1=1∧iI 0=0∧iI 0=0∧iI 0=0∧iI 3=3∧iI 0=0∧iI 0=0∧iI 1=1∧iI 2
=2∧iI 2=2∧iI 0=0∧iI 2=2∧iI (-1)= -1∧iI 0=0∧iI 1=1∧iI 0=0∧iI (-1)= -1∧iI 0=0∧iI 1=1∧iI 0=0∧iI 0=0∧iI 2=2∧iI 0=0∧iI 0=0∧iI 0=0∧iI 0=0∧
iI 0=0∧iI 0=0∧iI 2=2∧iI 2=2∧(∃(n:Nat),2=(↑n:Int)∧n≤4∧1=kAft (mvQ t q) n)∧2<4-Int.toNat b_1.i∧True)∧((1==mtX t (sdX q) (sdY q)+0&&0==mtY t (sdX q) (sdY
q)+0)=false→1=1∧t=t∧iI 0=0∧iI 0=0∧1=1∧x=x∧y=y∧q=q∧1=1∧iI 0=0∧iI 0=0∧iI 0=0∧1=1∧mtX t (2*x+1) (2*y+1)+2*a=mtX t (2*x+1) (2*
y+1)+2*a∧mtY t (2*x+1) (2*y+1)+2*b=mtY t (2*x+1) (2*y+1)+2*b∧1=1∧mtX t (sdX q) (sdY q)+0=mtX t (sdX q) (sdY q)+0∧mtY t (sdX q) (sdY q)+0=mtY t (sdX
q) (sdY q)+0∧1=1∧hlf (mtX t (2*x+1) (2*y+1)+2*a)=hlf (mtX t (2*x+1) (2*y+1)+2*a)∧hlf (mtY t (2*x+1) (2*y+1)+2*b)=hlf (mtY t (2*x+1) (2*y+1)+
2*b)∧b_1.k=b_1.k∧0=0∧0=0∧0=0∧iI 0=0∧iI (-1)= -1∧iI 2=2∧iI 0=0∧iI 0=0∧iI (-1)= -1∧iI 2=2∧iI 0=0∧iI 0=0∧iI 1=1∧iI 0=0∧iI 0=0∧iI 3=3∧
iI 0=0∧iI 0=0∧iI 2=2∧iI 0=0∧iI 1=1∧iI 0=0∧iI 1=1∧iI 1=1∧iI 1=1∧iI 0=0∧iI 3=3∧iI 0=0∧iI 0=0∧iI 0=0∧iI 0=0∧iI 0=0∧iI 2=2∧iI 2=2∧iI
2=2∧iI 2=2∧iI 0=0∧iI 0=0∧iI 1=1∧iI 2=2∧iI 1=1∧iI 0=0∧iI 1=1∧iI 0=0∧iI 0=0∧iI 0=0∧iI 3=3∧iI 0=0∧iI 0=0∧iI 1=1∧iI 2=2∧iI 2=2∧iI 0
=0∧iI 2=2∧iI (-1)= -1∧iI 0=0∧iI 1=1∧iI 0=0∧iI (-1)= -1∧iI 0=0∧iI 1=1∧iI 0=0∧iI 0=0∧iI 2=2∧iI 0=0∧iI 0=0∧iI 0=0∧iI 0=0∧iI 0=0∧iI 0=0∧
iI 2=2∧iI 2=2∧(∃(n:Nat),2=(↑n:Int)∧n≤4∧b_1.k=kAft (mvQ t q) n)∧2<4-Int.toNat b_1.i∧True))∧((b_1.i==1)=false→((b_1.i==2)=true→(1=1∧t=t∧iI 0=0∧
iI 0=0∧1=1∧x=x∧y=y∧q=q∧1=1∧iI 0=0∧iI 0=0∧iI 0=0∧1=1∧mtX t (2*x+1) (2*y+1)+2*a=mtX t (2*x+1) (2*y+1)+2*a∧mtY t (2*x+1) (2*y+
1)+2*b=mtY t (2*x+1) (2*y+1)+2*b∧1=1∧mtX t (sdX q) (sdY q)+0=mtX t (sdX q) (sdY q)+0∧mtY t (sdX q) (sdY q)+0=mtY t (sdX q) (sdY q)+0∧1=1∧hlf (mtX t (2*x+
1) (2*y+1)+2*a)=hlf (mtX t (2*x+1) (2*y+1)+2*a)∧hlf (mtY t (2*x+1) (2*y+1)+2*b)=hlf (mtY t (2*x+1) (2*y+1)+2*b)∧b_1.k=b_1.k∧0=0∧0=0∧0=
0∧iI 0=0∧iI (-1)= -1∧iI 2=2∧iI 0=0∧iI 0=0∧iI (-1)= -1∧iI 2=2∧iI 0=0∧iI 0=0∧iI 1=1∧iI 0=0∧iI 0=0∧iI 3=3∧iI 0=0∧iI 0=0∧iI 2=2∧iI 0=0∧
iI 1=1∧iI 0=0∧iI 1=1∧iI 1=1∧iI 1=1∧iI 0=0∧iI 3=3∧iI 0=0∧iI 0=0∧iI 0=0∧iI 0=0∧iI 0=0∧iI 2=2∧iI 2=2∧iI 2=2∧iI 2=2∧iI 0=0∧iI 0=0∧iI
1=1∧iI 2=2∧iI 1=1∧iI 0=0∧iI 1=1∧iI 0=0∧iI 0=0∧iI 0=0∧iI 3=3∧iI 0=0∧iI 0=0∧iI 1=1∧iI 2=2∧iI 2=2∧iI 0=0∧iI 2=2∧iI (-1)= -1∧iI 0=0∧
iI 1=1∧iI 0=0∧iI (-1)= -1∧iI 0=0∧iI 1=1∧iI 0=0∧iI 0=0∧iI 2=2∧iI 0=0∧iI 0=0∧iI 0=0∧iI 0=0∧iI 0=0∧iI 0=0∧iI 2=2∧b_1.i=2∧ltb b_1.i 4=true
∧True∧True)∧∀(b_2:Unit),True→((0==mtX t (sdX q) (sdY q)+0&&1==mtY t (sdX q) (sdY q)+0)=true→1=1∧t=t∧iI 0=0∧iI 0=0∧1=1∧x=x∧y=y∧q=q∧1=1∧iI 0
=0∧iI 0=0∧iI 0=0∧1=1∧mtX t (2*x+1) (2*y+1)+2*a=mtX t (2*x+1) (2*y+1)+2*a∧mtY t (2*x+1) (2*y+1)+2*b=mtY t (2*x+1) (2*y+1)+2*b∧1=
1∧mtX t (sdX q) (sdY q)+0=mtX t (sdX q) (sdY q)+0∧mtY t (sdX q) (sdY q)+0=mtY t (sdX q) (sdY q)+0∧1=1∧hlf (mtX t (2*x+1) (2*y+1)+2*a)=hlf (mtX t (2*x+1) (2*y
+1)+2*a)∧hlf (mtY t (2*x+1) (2*y+1)+2*b)=hlf (mtY t (2*x+1) (2*y+1)+2*b)∧iI 2=2∧0=0∧0=0∧0=0∧iI 0=0∧iI (-1)= -1∧iI 2=2∧iI 0=0∧iI 0=0
∧iI (-1)= -1∧iI 2=2∧iI 0=0∧iI 0=0∧iI 1=1∧iI 0=0∧iI 0=0∧iI 3=3∧iI 0=0∧iI 0=0∧iI 2=2∧iI 0=0∧iI 1=1∧iI 0=0∧iI 1=1∧iI 1=1∧iI 1=1∧iI 0=
0∧iI 3=3∧iI 0=0∧iI 0=0∧iI 0=0∧iI 0=0∧iI 0=0∧iI 2=2∧iI 2=2∧iI 2=2∧iI 2=2∧iI 0=0∧iI 0=0∧iI 1=1∧iI 2=2∧iI 1=1∧iI 0=0∧iI 1=1∧iI 0=0
∧iI 0=0∧iI 0=0∧iI 3=3∧iI 0=0∧iI 0=0∧iI 1=1∧iI 2=2∧iI 2=2∧iI 0=0∧iI 2=2∧iI (-1)= -1∧iI 0=0∧iI 1=1∧iI 0=0∧iI (-1)= -1∧iI 0=0∧iI 1=1∧iI
0=0∧iI 0=0∧iI 2=2∧iI 0=0∧iI 0=0∧iI 0=0∧iI 0=0∧iI 0=0∧iI 0=0∧iI 2=2∧iI 3=3∧(∃(n:Nat),3=(↑n:Int)∧n≤4∧2=kAft (mvQ t q) n)∧1<4-Int.toNat
b_1.i∧True)∧((0==mtX t (sdX q) (sdY q)+0&&1==mtY t (sdX q) (sdY q)+0)=false→1=1∧t=t∧iI 0=0∧iI 0=0∧1=1∧x=x∧y=y∧q=q∧1=1∧iI 0=0∧iI 0=0∧iI 0=
0∧1=1∧mtX t (2*x+1) (2*y+1)+2*a=mtX t (2*x+1) (2*y+1)+2*a∧mtY t (2*x+1) (2*y+1)+2*b=mtY t (2*x+1) (2*y+1)+2*b∧1=1∧mtX t (sdX q) (sdY
q)+0=mtX t (sdX q) (sdY q)+0∧mtY t (sdX q) (sdY q)+0=mtY t (sdX q) (sdY q)+0∧1=1∧hlf (mtX t (2*x+1) (2*y+1)+2*a)=hlf (mtX t (2*x+1) (2*y+1)+2*a)∧hlf
(mtY t (2*x+1) (2*y+1)+2*b)=hlf (mtY t (2*x+1) (2*y+1)+2*b)∧b_1.k=b_1.k∧0=0∧0=0∧0=0∧iI 0=0∧iI (-1)= -1∧iI 2=2∧iI 0=0∧iI 0=0∧iI (-1)= -1
∧iI 2=2∧iI 0=0∧iI 0=0∧iI 1=1∧iI 0=0∧iI 0=0∧iI 3=3∧iI 0=0∧iI 0=0∧iI 2=2∧iI 0=0∧iI 1=1∧iI 0=0∧iI 1=1∧iI 1=1∧iI 1=1∧iI 0=0∧iI 3=3∧
iI 0=0∧iI 0=0∧iI 0=0∧iI 0=0∧iI 0=0∧iI 2=2∧iI 2=2∧iI 2=2∧iI 2=2∧iI 0=0∧iI 0=0∧iI 1=1∧iI 2=2∧iI 1=1∧iI 0=0∧iI 1=1∧iI 0=0∧iI 0=0∧iI
0=0∧iI 3=3∧iI 0=0∧iI 0=0∧iI 1=1∧iI 2=2∧iI 2=2∧iI 0=0∧iI 2=2∧iI (-1)= -1∧iI 0=0∧iI 1=1∧iI 0=0∧iI (-1)= -1∧iI 0=0∧iI 1=1∧iI 0=0∧iI 0=0
∧iI 2=2∧iI 0=0∧iI 0=0∧iI 0=0∧iI 0=0∧iI 0=0∧iI 0=0∧iI 2=2∧iI 3=3∧(∃(n:Nat),3=(↑n:Int)∧n≤4∧b_1.k=kAft (mvQ t q) n)∧1<4-Int.toNat b_1.i∧True))
∧((b_1.i==2)=false→((b_1.i==3)=true→(1=1∧t=t∧iI 0=0∧iI 0=0∧1=1∧x=x∧y=y∧q=q∧1=1∧iI 0=0∧iI 0=0∧iI 0=0∧1=1∧mtX t (2*x+1) (2*y+1)+
2*a=mtX t (2*x+1) (2*y+1)+2*a∧mtY t (2*x+1) (2*y+1)+2*b=mtY t (2*x+1) (2*y+1)+2*b∧1=1∧mtX t (sdX q) (sdY q)+0=mtX t (sdX q) (sdY q)+0∧mtY t
(sdX q) (sdY q)+0=mtY t (sdX q) (sdY q)+0∧1=1∧hlf (mtX t (2*x+1) (2*y+1)+2*a)=hlf (mtX t (2*x+1) (2*y+1)+2*a)∧hlf (mtY t (2*x+1) (2*y+1)+2*b)=hlf
(mtY t (2*x+1) (2*y+1)+2*b)∧b_1.k=b_1.k∧0=0∧0=0∧0=0∧iI 0=0∧iI (-1)= -1∧iI 2=2∧iI 0=0∧iI 0=0∧iI (-1)= -1∧iI 2=2∧iI 0=0∧iI 0=0∧iI 1=1∧
iI 0=0∧iI 0=0∧iI 3=3∧iI 0=0∧iI 0=0∧iI 2=2∧iI 0=0∧iI 1=1∧iI 0=0∧iI 1=1∧iI 1=1∧iI 1=1∧iI 0=0∧iI 3=3∧iI 0=0∧iI 0=0∧iI 0=0∧iI 0=0∧iI
0=0∧iI 2=2∧iI 2=2∧iI 2=2∧iI 2=2∧iI 0=0∧iI 0=0∧iI 1=1∧iI 2=2∧iI 1=1∧iI 0=0∧iI 1=1∧iI 0=0∧iI 0=0∧iI 0=0∧iI 3=3∧iI 0=0∧iI 0=0∧iI 1
=1∧iI 2=2∧iI 2=2∧iI 0=0∧iI 2=2∧iI (-1)= -1∧iI 0=0∧iI 1=1∧iI 0=0∧iI (-1)= -1∧iI 0=0∧iI 1=1∧iI 0=0∧iI 0=0∧iI 2=2∧iI 0=0∧iI 0=0∧iI 0=0∧
iI 0=0∧iI 0=0∧iI 0=0∧iI 2=2∧b_1.i=3∧ltb b_1.i 4=true∧True∧True)∧∀(b_2:Unit),True→((-1==mtX t (sdX q) (sdY q)+0&&0==mtY t (sdX q) (sdY q)+0)=true→1=1∧
t=t∧iI 0=0∧iI 0=0∧1=1∧x=x∧y=y∧q=q∧1=1∧iI 0=0∧iI 0=0∧iI 0=0∧1=1∧mtX t (2*x+1) (2*y+1)+2*a=mtX t (2*x+1) (2*y+1)+2*a∧mtY t (2
*x+1) (2*y+1)+2*b=mtY t (2*x+1) (2*y+1)+2*b∧1=1∧mtX t (sdX q) (sdY q)+0=mtX t (sdX q) (sdY q)+0∧mtY t (sdX q) (sdY q)+0=mtY t (sdX q) (sdY q)+0∧1=1∧
hlf (mtX t (2*x+1) (2*y+1)+2*a)=hlf (mtX t (2*x+1) (2*y+1)+2*a)∧hlf (mtY t (2*x+1) (2*y+1)+2*b)=hlf (mtY t (2*x+1) (2*y+1)+2*b)∧iI 3=3∧0=0
∧0=0∧0=0∧iI 0=0∧iI (-1)= -1∧iI 2=2∧iI 0=0∧iI 0=0∧iI (-1)= -1∧iI 2=2∧iI 0=0∧iI 0=0∧iI 1=1∧iI 0=0∧iI 0=0∧iI 3=3∧iI 0=0∧iI 0=0∧iI 2=2
∧iI 0=0∧iI 1=1∧iI 0=0∧iI 1=1∧iI 1=1∧iI 1=1∧iI 0=0∧iI 3=3∧iI 0=0∧iI 0=0∧iI 0=0∧iI 0=0∧iI 0=0∧iI 2=2∧iI 2=2∧iI 2=2∧iI 2=2∧iI 0=0∧
iI 0=0∧iI 1=1∧iI 2=2∧iI 1=1∧iI 0=0∧iI 1=1∧iI 0=0∧iI 0=0∧iI 0=0∧iI 3=3∧iI 0=0∧iI 0=0∧iI 1=1∧iI 2=2∧iI 2=2∧iI 0=0∧iI 2=2∧iI (-1)= -1
∧iI 0=0∧iI 1=1∧iI 0=0∧iI (-1)= -1∧iI 0=0∧iI 1=1∧iI 0=0∧iI 0=0∧iI 2=2∧iI 0=0∧iI 0=0∧iI 0=0∧iI 0=0∧iI 0=0∧iI 0=0∧iI 2=2∧iI 4=4∧(∃(n:
Nat),4=(↑n:Int)∧n≤4∧3=kAft (mvQ t q) n)∧0<4-Int.toNat b_1.i∧True)∧((-1==mtX t (sdX q) (sdY q)+0&&0==mtY t (sdX q) (sdY q)+0)=false→1=1∧t=t∧iI 0=0∧iI 0
=0∧1=1∧x=x∧y=y∧q=q∧1=1∧iI 0=0∧iI 0=0∧iI 0=0∧1=1∧mtX t (2*x+1) (2*y+1)+2*a=mtX t (2*x+1) (2*y+1)+2*a∧mtY t (2*x+1) (2*y+1)+2
*b=mtY t (2*x+1) (2*y+1)+2*b∧1=1∧mtX t (sdX q) (sdY q)+0=mtX t (sdX q) (sdY q)+0∧mtY t (sdX q) (sdY q)+0=mtY t (sdX q) (sdY q)+0∧1=1∧hlf (mtX t (2*x+1) (2
*y+1)+2*a)=hlf (mtX t (2*x+1) (2*y+1)+2*a)∧hlf (mtY t (2*x+1) (2*y+1)+2*b)=hlf (mtY t (2*x+1) (2*y+1)+2*b)∧b_1.k=b_1.k∧0=0∧0=0∧0=0∧iI
0=0∧iI (-1)= -1∧iI 2=2∧iI 0=0∧iI 0=0∧iI (-1)= -1∧iI 2=2∧iI 0=0∧iI 0=0∧iI 1=1∧iI 0=0∧iI 0=0∧iI 3=3∧iI 0=0∧iI 0=0∧iI 2=2∧iI 0=0∧iI 1=1
∧iI 0=0∧iI 1=1∧iI 1=1∧iI 1=1∧iI 0=0∧iI 3=3∧iI 0=0∧iI 0=0∧iI 0=0∧iI 0=0∧iI 0=0∧iI 2=2∧iI 2=2∧iI 2=2∧iI 2=2∧iI 0=0∧iI 0=0∧iI 1=1∧
iI 2=2∧iI 1=1∧iI 0=0∧iI 1=1∧iI 0=0∧iI 0=0∧iI 0=0∧iI 3=3∧iI 0=0∧iI 0=0∧iI 1=1∧iI 2=2∧iI 2=2∧iI 0=0∧iI 2=2∧iI (-1)= -1∧iI 0=0∧iI 1=1
∧iI 0=0∧iI (-1)= -1∧iI 0=0∧iI 1=1∧iI 0=0∧iI 0=0∧iI 2=2∧iI 0=0∧iI 0=0∧iI 0=0∧iI 0=0∧iI 0=0∧iI 0=0∧iI 2=2∧iI 4=4∧(∃(n:Nat),4=(↑n:Int)
∧n≤4∧b_1.k=kAft (mvQ t q) n)∧0<4-Int.toNat b_1.i∧True))∧((b_1.i==3)=false→(1=1∧t=t∧iI 0=0∧iI 0=0∧1=1∧x=x∧y=y∧q=q∧1=1∧iI 0=0∧iI 0=0∧iI
0=0∧1=1∧mtX t (2*x+1) (2*y+1)+2*a=mtX t (2*x+1) (2*y+1)+2*a∧mtY t (2*x+1) (2*y+1)+2*b=mtY t (2*x+1) (2*y+1)+2*b∧1=1∧mtX t (sdX q)
(sdY q)+0=mtX t (sdX q) (sdY q)+0∧mtY t (sdX q) (sdY q)+0=mtY t (sdX q) (sdY q)+0∧1=1∧hlf (mtX t (2*x+1) (2*y+1)+2*a)=hlf (mtX t (2*x+1) (2*y+1)+2*a)∧
hlf (mtY t (2*x+1) (2*y+1)+2*b)=hlf (mtY t (2*x+1) (2*y+1)+2*b)∧b_1.k=b_1.k∧0=0∧0=0∧0=0∧iI 0=0∧iI (-1)= -1∧iI 2=2∧iI 0=0∧iI 0=0∧iI (-1)=
-1∧iI 2=2∧iI 0=0∧iI 0=0∧iI 1=1∧iI 0=0∧iI 0=0∧iI 3=3∧iI 0=0∧iI 0=0∧iI 2=2∧iI 0=0∧iI 1=1∧iI 0=0∧iI 1=1∧iI 1=1∧iI 1=1∧iI 0=0∧iI 3=3
∧iI 0=0∧iI 0=0∧iI 0=0∧iI 0=0∧iI 0=0∧iI 2=2∧iI 2=2∧iI 2=2∧iI 2=2∧iI 0=0∧iI 0=0∧iI 1=1∧iI 2=2∧iI 1=1∧iI 0=0∧iI 1=1∧iI 0=0∧iI 0=0∧
iI 0=0∧iI 3=3∧iI 0=0∧iI 0=0∧iI 1=1∧iI 2=2∧iI 2=2∧iI 0=0∧iI 2=2∧iI (-1)= -1∧iI 0=0∧iI 1=1∧iI 0=0∧iI (-1)= -1∧iI 0=0∧iI 1=1∧iI 0=0∧iI 0
=0∧iI 2=2∧iI 0=0∧iI 0=0∧iI 0=0∧iI 0=0∧iI 0=0∧iI 0=0∧iI 2=2∧b_1.i=4∧ltb b_1.i 4=false∧True∧True)∧∀(b_2:Unit),True→hlf (mtX t (2*x+1) (2*y+1)
+2*a)=mvX' t a x y∧hlf (mtY t (2*x+1) (2*y+1)+2*b)=mvY' t b x y∧b_1.k=mvQ t q∧True))))):=by kernel_rfl

theorem ob_o93 (t a b x y q:Int):fnP (TV93) G 10000 fe93 (.r [] 0 (.r [yL 132,yL 133,yL 134,yL 135] 505 (.ff (.r [] 11 (.r [] 3 (.cnd (.r [] 1 .nil) (.r [] 3 .nil))))))) ([.agg [.int .u8 t,.int .i64 a,.int .i64 b],.agg [.int .i64 x,.int .i64 y,.int .u8 q]]) ([.agg [.int .i64 (bI (mvB t a b x y q) (mvX' t a x y) 0),.int .i64 (bI (mvB t a b x y q) (mvY' t b x y) 0),.int .u8 (bI (mvB t a b x y q) (mvQ t q) 0)],.int .i64 (bI (mvB t a b x y q) 0 3)]) ([])=(
(0≤t∧t≤255)∧(!bI (mvV t a b) 0 1 !=0)=true∧(bI (vldC (x,y,q)) 0 1 !=0)=false∧(mvO t a b∧vq x y q)∧((bI (vldC (mvX' t a x y,mvY' t b x y,mvQ t q)) 0 1 !=0)=true→0=bI
(mvB t a b x y q) (mvX' t a x y) 0∧0=bI (mvB t a b x y q) (mvY' t b x y) 0∧0=bI (mvB t a b x y q) (mvQ t q) 0∧3=bI (mvB t a b x y q) 0 3∧True)∧((bI (vldC (mvX' t a x y,mvY' t b x y,
mvQ t q)) 0 1 !=0)=false→mvX' t a x y=bI (mvB t a b x y q) (mvX' t a x y) 0∧mvY' t b x y=bI (mvB t a b x y q) (mvY' t b x y) 0∧mvQ t q=bI (mvB t a b x y q) (mvQ t q) 0∧0=bI (mvB t a
b x y q) 0 3∧True)):=by kernel_rfl

end Go.Proofs.YtmnaghfndigfkaaDoor.X
