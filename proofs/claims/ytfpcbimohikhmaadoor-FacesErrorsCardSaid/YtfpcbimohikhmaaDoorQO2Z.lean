/-
 What is to be shown of the functions (made by a program).
-/
import Derived.Test.YtfpcbimohikhmaaDoorQD5Z
import Derived.KernelRfl
set_option maxRecDepth 1000000
set_option linter.unusedVariables false
namespace Go.Proofs.YtfpcbimohikhmaaDoor.X
open Go Go.Ab
open List IntKind

theorem ob_o89 (x0 y0 x1 y1 x2 y2:Int):fnP (CB) G 10000 fe89 (.r [] 0 (.r [] 0 (.lp (l89 x0 y0 x1 y1 x2 y2) [] [] (fun b=>(.r [] 0 (.cnd (.r [(322,.auto,Dr.val [AV.int i64 (p3 x0 x1 x2 b.i),AV.int i64 (p3 y0 y1 y2 b.i)]),(327,.auto,Dr.val [AV.int i64 (p3 x0 x1 x2 (Int.tmod (b.i+1) 3)),AV.int i64 (p3 y0 y1 y2 (Int.tmod (b.i+1) 3))]),(332,.auto,Dr.val [AV.int i64 (p3 x0 x1 x2 (Int.tmod (b.i+2) 3)),AV.int i64 (p3 y0 y1 y2 (Int.tmod (b.i+2) 3))])] 460832 (.rs 5 [] 3 31 (.r [] 3 (.lit (.r [] 0 .nil))) (.r [] 15 (.cnd (.r [] 0 .nil) (.r [] 0 (.lp (m89 x0 y0 x1 y1 x2 y2 b.i) [] [] (fun b_1=>(.r [] 0 (.cnd (.r [] 409 (.r [] 5 (.rs 5 [] 15 57 (.rs 6 [] 63 63 (.r [] 3 (.lit (.r [] 3 .nil))) (.rs 5 [] 15 68 (.r [] 255 (.cnd (.r [] 3 .nil) (.r [] 0 .nil))) (.r [] 15 (.lit (.r [] 0 .nil))))) (.rs 11 [] 63 68 (.r [] 255 (.cnd (.r [] 3 .nil) (.r [] 0 .nil))) (.r [] 15 (.lit (.r [] 0 .nil))))))) (.r [] 0 .nil)))))))))) (.r [] 1 .nil))))))) ([.agg [.int .i64 x0,.int .i64 y0,.int .i64 x1,.int .i64 y1,.int .i64 x2,.int .i64 y2]]) ([.agg [.int .i64 (wX x0 y0 x1 y1 x2 y2),.int .i64 (wY x0 y0 x1 y1 x2 y2),.int .u8 (wQ x0 y0 x1 y1 x2 y2)]]) ([])=(
 1=1∧x0=x0∧y0=y0∧x1=x1∧y1=y1∧x2=x2∧y2=y2∧1=1∧iI 0=0∧iI 0=0∧iI 0=0∧0=0∧0=0∧iI 0=0∧(∃(n:Nat),0=(↑n:Int)∧n≤3∧wth x0 y0 x1 y1
 x2 y2 3 0=wth x0 y0 x1 y1 x2 y2 (3-n) (↑n:Int))∧∀(b:L89),(fun(zz9:Int)=>(fun(zz6:Bool)=>(fun(zz5:Prop)=>(fun(zz4:Int)=>(fun(zz3:Int)=>(∃(n:Nat),b.i=
 (↑n:Int)∧n≤3∧wth x0 y0 x1 y1 x2 y2 3 0=wth x0 y0 x1 y1 x2 y2 (3-n) (↑n:Int))→(ltb b.i 3=true→leb 0 b.i=true∧ltb b.i 3=true∧[AV.int i64 x0,AV.int i64 y0,AV.int
 i64 x1,AV.int i64 y1,AV.int i64 x2,AV.int i64 y2][Int.toNat b.i*2]? =some (AV.int i64 (p3 x0 x1 x2 b.i))∧[AV.int i64 x0,AV.int i64 y0,AV.int i64 x1,AV.int i64 y1,AV.int i64 x2,
 AV.int i64 y2][Int.toNat b.i*2+1]? =some (AV.int i64 (p3 y0 y1 y2 b.i))∧inR i64 (b.i+1)=true∧leb 0 zz3=true∧ltb zz3 3=true∧[AV.int i64 x0,AV.int i64 y0,AV.int i64 x1,
 AV.int i64 y1,AV.int i64 x2,AV.int i64 y2][Int.toNat zz3*2]? =some (AV.int i64 (p3 x0 x1 x2 zz3))∧[AV.int i64 x0,AV.int i64 y0,AV.int i64 x1,AV.int i64 y1,AV.int i64 x2,AV.int
 i64 y2][Int.toNat zz3*2+1]? =some (AV.int i64 (p3 y0 y1 y2 zz3))∧inR i64 (b.i+2)=true∧leb 0 zz4=true∧ltb zz4 3=true∧[AV.int i64 x0,AV.int i64 y0,AV.int i64 x1,AV.int
 i64 y1,AV.int i64 x2,AV.int i64 y2][Int.toNat zz4*2]? =some (AV.int i64 (p3 x0 x1 x2 zz4))∧[AV.int i64 x0,AV.int i64 y0,AV.int i64 x1,AV.int i64 y1,AV.int i64 x2,AV.int i64
 y2][Int.toNat zz4*2+1]? =some (AV.int i64 (p3 y0 y1 y2 zz4))∧((Int.tmod (p3 x0 x1 x2 b.i) 2==0)=true→inR i64 (b.i+1)=true∧1=1∧x0=x0∧y0=y0∧x1=x1∧y1=y1∧
 x2=x2∧y2=y2∧1=1∧iI 0=0∧iI 0=0∧iI 0=0∧0=0∧0=0∧b.i+1=b.i+1∧zz5∧3-Int.toNat (b.i+1)<3-Int.toNat b.i∧True)∧((Int.tmod (p3 x0 x1 x2 b.i) 2==
 0)=false→(zz6=true→inR i64 (b.i+1)=true∧1=1∧x0=x0∧y0=y0∧x1=x1∧y1=y1∧x2=x2∧y2=y2∧1=1∧iI 0=0∧iI 0=0∧iI 0=0∧0=0∧0=0∧b.i+1=
 b.i+1∧zz5∧3-Int.toNat (b.i+1)<3-Int.toNat b.i∧True)∧(zz6=false→1=1∧x0=x0∧y0=y0∧x1=x1∧y1=y1∧x2=x2∧y2=y2∧1=1∧iI 0=0∧iI 0=0∧iI 0=
 0∧1=1∧qx (p3 x0 x1 x2 b.i) (qx (p3 y0 y1 y2 b.i) (1=1∧qx (p3 x0 x1 x2 zz3) (qx (p3 y0 y1 y2 zz3) (1=1∧qx (p3 x0 x1 x2 zz4) (qx (p3 y0 y1 y2 zz4) (0=0∧0=0∧b.i=b.i∧0
 =0∧0=0∧0=0∧1=1∧qx (p3 y0 y1 y2 b.i) (qx zz9 (qx zz6 (iI 0=0∧(∃(n:Nat),0=(↑n:Int)∧n≤4∧fndQ (wthM x0 y0 x1 y1 x2 y2 b.i) 4 0=fndQ (wthM x0 y0 x1 y1 x2 y2
 b.i) (4-n) (↑n:Int))∧∀(b_1:L89),(fun(zz8:Bool)=>(fun(zz7:Bool)=>(fun(zz2:Prop)=>(fun(zz1:Bool)=>(fun(zz0:Bool)=>(∃(n:Nat),b_1.i=(↑n:Int)∧n≤4∧
 fndQ (wthM x0 y0 x1 y1 x2 y2 b.i) 4 0=fndQ (wthM x0 y0 x1 y1 x2 y2 b.i) (4-n) (↑n:Int))→(ltb b_1.i 4=true→inR i64 (p3 x0 x1 x2 b.i-1)=true∧inR i64 (Int.tdiv (p3 x0 x1 x2
 b.i-1) 2)=true∧inR i64 (p3 y0 y1 y2 b.i-1)=true∧inR i64 (Int.tdiv (p3 y0 y1 y2 b.i-1) 2)=true∧((-1000000≤Int.tdiv (p3 x0 x1 x2 b.i-1) 2∧Int.tdiv (p3 x0 x1 x2 b.i-1)
 2≤1000000)∧(-1000000≤Int.tdiv (p3 y0 y1 y2 b.i-1) 2∧Int.tdiv (p3 y0 y1 y2 b.i-1) 2≤1000000)∧0≤b_1.i∧b_1.i≤3)∧(zz8=true→(zz7=true→Int.tdiv (p3 x0 x1 x2 b.i-
 1) 2=wX x0 y0 x1 y1 x2 y2∧Int.tdiv (p3 y0 y1 y2 b.i-1) 2=wY x0 y0 x1 y1 x2 y2∧b_1.i=wQ x0 y0 x1 y1 x2 y2∧True)∧(zz7=false→(zz1=true→(zz0=true→Int.tdiv (p3 x0 x1
 x2 b.i-1) 2=wX x0 y0 x1 y1 x2 y2∧Int.tdiv (p3 y0 y1 y2 b.i-1) 2=wY x0 y0 x1 y1 x2 y2∧b_1.i=wQ x0 y0 x1 y1 x2 y2∧True)∧(zz0=false→inR u8 (b_1.i+1)=true∧1=1∧x0
 =x0∧y0=y0∧x1=x1∧y1=y1∧x2=x2∧y2=y2∧1=1∧iI 0=0∧iI 0=0∧iI 0=0∧1=1∧qx (p3 x0 x1 x2 b.i) (qx (p3 y0 y1 y2 b.i) (1=1∧qx (p3 x0 x1 x2 zz3) (qx (p3 y0
 y1 y2 zz3) (1=1∧qx (p3 x0 x1 x2 zz4) (qx (p3 y0 y1 y2 zz4) (0=0∧0=0∧b.i=b.i∧0=0∧0=0∧0=0∧1=1∧qx (p3 y0 y1 y2 b.i) (qx zz9 (qx zz6 (qx (b_1.i+1) (zz2∧4-
 Int.toNat (b_1.i+1)<4-Int.toNat b_1.i∧True))))))))))))∧(zz1=false→inR u8 (b_1.i+1)=true∧1=1∧x0=x0∧y0=y0∧x1=x1∧y1=y1∧x2=x2∧y2=y2∧1=1∧iI 0=
 0∧iI 0=0∧iI 0=0∧1=1∧qx (p3 x0 x1 x2 b.i) (qx (p3 y0 y1 y2 b.i) (1=1∧qx (p3 x0 x1 x2 zz3) (qx (p3 y0 y1 y2 zz3) (1=1∧qx (p3 x0 x1 x2 zz4) (qx (p3 y0 y1 y2 zz4) (0=0∧
 0=0∧b.i=b.i∧0=0∧0=0∧0=0∧1=1∧qx (p3 y0 y1 y2 b.i) (qx zz9 (qx zz6 (qx (b_1.i+1) (zz2∧4-Int.toNat (b_1.i+1)<4-Int.toNat b_1.i∧True)))))))))))))∧(zz8=
 false→(zz1=true→(zz0=true→Int.tdiv (p3 x0 x1 x2 b.i-1) 2=wX x0 y0 x1 y1 x2 y2∧Int.tdiv (p3 y0 y1 y2 b.i-1) 2=wY x0 y0 x1 y1 x2 y2∧b_1.i=wQ x0 y0 x1 y1 x2 y2∧True)∧
 (zz0=false→inR u8 (b_1.i+1)=true∧1=1∧x0=x0∧y0=y0∧x1=x1∧y1=y1∧x2=x2∧y2=y2∧1=1∧iI 0=0∧iI 0=0∧iI 0=0∧1=1∧qx (p3 x0 x1 x2 b.i) (qx (p3
 y0 y1 y2 b.i) (1=1∧qx (p3 x0 x1 x2 zz3) (qx (p3 y0 y1 y2 zz3) (1=1∧qx (p3 x0 x1 x2 zz4) (qx (p3 y0 y1 y2 zz4) (0=0∧0=0∧b.i=b.i∧0=0∧0=0∧0=0∧1=1∧qx (p3 y0
 y1 y2 b.i) (qx zz9 (qx zz6 (qx (b_1.i+1) (zz2∧4-Int.toNat (b_1.i+1)<4-Int.toNat b_1.i∧True))))))))))))∧(zz1=false→inR u8 (b_1.i+1)=true∧1=1∧x0=x0∧y0=y0∧
 x1=x1∧y1=y1∧x2=x2∧y2=y2∧1=1∧iI 0=0∧iI 0=0∧iI 0=0∧1=1∧qx (p3 x0 x1 x2 b.i) (qx (p3 y0 y1 y2 b.i) (1=1∧qx (p3 x0 x1 x2 zz3) (qx (p3 y0 y1 y2 zz3) (1=1
 ∧qx (p3 x0 x1 x2 zz4) (qx (p3 y0 y1 y2 zz4) (0=0∧0=0∧b.i=b.i∧0=0∧0=0∧0=0∧1=1∧qx (p3 y0 y1 y2 b.i) (qx zz9 (qx zz6 (qx (b_1.i+1) (zz2∧4-Int.toNat (b_1.i+
 1)<4-Int.toNat b_1.i∧True)))))))))))))∧(ltb b_1.i 4=false→inR i64 (b.i+1)=true∧1=1∧x0=x0∧y0=y0∧x1=x1∧y1=y1∧x2=x2∧y2=y2∧1=1∧iI 0=0∧iI 0=
 0∧iI 0=0∧0=0∧0=0∧b.i+1=b.i+1∧zz5∧3-Int.toNat (b.i+1)<3-Int.toNat b.i∧True)) (2*Int.tdiv (p3 x0 x1 x2 b.i-1) 2+gQ b_1.i==p3 x0 x1 x2 zz3&&2*
 Int.tdiv (p3 y0 y1 y2 b.i-1) 2+(2-gQ b_1.i)==p3 y0 y1 y2 zz3)) (2*Int.tdiv (p3 x0 x1 x2 b.i-1) 2+hQ b_1.i==p3 x0 x1 x2 zz4&&2*Int.tdiv (p3 y0 y1 y2 b.i-1) 2+hQ b_1.i
 ==p3 y0 y1 y2 zz4)) (∃(n:Nat),b_1.i+1=(↑n:Int)∧n≤4∧fndQ (wthM x0 y0 x1 y1 x2 y2 b.i) 4 0=fndQ (wthM x0 y0 x1 y1 x2 y2 b.i) (4-n) (↑n:Int))) (2*Int.tdiv (p3 x0 x1 x2
 b.i-1) 2+gQ b_1.i==p3 x0 x1 x2 zz4&&2*Int.tdiv (p3 y0 y1 y2 b.i-1) 2+(2-gQ b_1.i)==p3 y0 y1 y2 zz4)) (2*Int.tdiv (p3 x0 x1 x2 b.i-1) 2+hQ b_1.i==p3 x0 x1 x2 zz3&&
 2*Int.tdiv (p3 y0 y1 y2 b.i-1) 2+hQ b_1.i==p3 y0 y1 y2 zz3)))))))))))))∧(ltb b.i 3=false→0=wX x0 y0 x1 y1 x2 y2∧0=wY x0 y0 x1 y1 x2 y2∧4=wQ x0 y0 x1 y1 x2 y2∧True))
 (Int.tmod (b.i+1) 3)) (Int.tmod (b.i+2) 3)) (∃(n:Nat),b.i+1=(↑n:Int)∧n≤3∧wth x0 y0 x1 y1 x2 y2 3 0=wth x0 y0 x1 y1 x2 y2 (3-n) (↑n:Int))) (Int.tmod (p3 y0 y1 y2
 b.i) 2==0)) (Int.tmod (p3 y0 y1 y2 b.i) 2)):=by kernel_rfl

theorem ob_o64 (w h:Int):fnP (T0) G 10000 fe64 (.r [] 0 (.rs 4 [] 1 6 (.r [] 255 (.lit (.r [] 0 .nil))) (.rs 5 [] 7 11 (.r [] 63 (.lit (.r [] 0 .nil))) (.rs 5 [] 7 16 (.r [] 15 (.lit (.r [] 0 .nil))) (.rs 5 [] 7 21 (.r [] 3 (.lit (.r [] 0 .nil))) (.r [] 27 (.cnd (.r [] 0 .nil) (.r [] 0 .nil)))))))) ([.agg [.int .i64 w,.int .i64 h]]) ([.int .i64 (bI (okS w h) 0 1)]) ([])=(
 (ltb w 1=true→1=bI (okS w h) 0 1∧True)∧(ltb w 1=false→(ltb h 1=true→1=bI (okS w h) 0 1∧True)∧(ltb h 1=false→(ltb 256 w=true→1=bI (okS w h) 0 1∧True)∧(ltb 256 w=
 false→(ltb 256 h=true→1=bI (okS w h) 0 1∧True)∧(ltb 256 h=false→inR i64 (w*h)=true∧(ltb 256 (w*h)=true→1=bI (okS w h) 0 1∧True)∧(ltb 256 (w*h)=false→0=bI (okS
 w h) 0 1∧True)))))):=by kernel_rfl

theorem ob_o29 (w h:Int):fnP (T0) G 10000 fe29 (.r [] 0 (.rs 4 [] 1 6 (.r [] 255 (.lit (.r [] 0 .nil))) (.rs 5 [] 7 11 (.r [] 63 (.lit (.r [] 0 .nil))) (.rs 5 [] 7 16 (.r [] 15 (.lit (.r [] 0 .nil))) (.rs 5 [] 7 21 (.r [] 3 (.lit (.r [] 0 .nil))) (.r [] 27 (.cnd (.r [] 0 .nil) (.r [] 0 .nil)))))))) ([.agg [.int .i64 w,.int .i64 h]]) ([.int .i64 (bI (okS w h) 1 0)]) ([])=(
 (ltb w 1=true→0=bI (okS w h) 1 0∧True)∧(ltb w 1=false→(ltb h 1=true→0=bI (okS w h) 1 0∧True)∧(ltb h 1=false→(ltb 256 w=true→0=bI (okS w h) 1 0∧True)∧(ltb 256 w=
 false→(ltb 256 h=true→0=bI (okS w h) 1 0∧True)∧(ltb 256 h=false→inR i64 (w*h)=true∧(ltb 256 (w*h)=true→0=bI (okS w h) 1 0∧True)∧(ltb 256 (w*h)=false→1=bI (okS
 w h) 1 0∧True)))))):=by kernel_rfl

theorem ob_o92 (x y q:Int):fnP (T0) G 10000 fe92 (.r [] 0 (.rs 4 [] 1 6 (.r [] 255 (.lit (.r [] 0 .nil))) (.rs 5 [] 7 11 (.r [] 63 (.lit (.r [] 0 .nil))) (.rs 5 [] 7 16 (.r [] 15 (.lit (.r [] 0 .nil))) (.rs 5 [] 7 21 (.r [] 3 (.lit (.r [] 0 .nil))) (.r [] 7 (.cnd (.r [] 0 .nil) (.r [] 0 .nil)))))))) ([.agg [.int .i64 x,.int .i64 y,.int .u8 q]]) ([.int .i64 (bI (okCl x y q) 0 1)]) ([])=(
 (ltb x (-4096)=true→1=bI (okCl x y q) 0 1∧True)∧(ltb x (-4096)=false→(ltb 4096 x=true→1=bI (okCl x y q) 0 1∧True)∧(ltb 4096 x=false→(ltb y (-4096)=true→1=bI (okCl x y
 q) 0 1∧True)∧(ltb y (-4096)=false→(ltb 4096 y=true→1=bI (okCl x y q) 0 1∧True)∧(ltb 4096 y=false→(ltb 3 q=true→1=bI (okCl x y q) 0 1∧True)∧(ltb 3 q=false→0=bI
 (okCl x y q) 0 1∧True)))))):=by kernel_rfl

theorem ob_o90 (w h i:Int):fnP (T0) G 10000 fe90 (.r [] 0 (.rs 3 [] 0 7 (.r [] 53 .nil) (.r [] 3 .nil))) ([.agg [.int .i64 w,.int .i64 h],.int .i64 i]) ([.bool (hasB w h i)]) ([])=(
 (leb 0 i=true→inR i64 (4*w)=true∧inR i64 (4*w*h)=true∧ltb i (4*w*h)=hasB w h i∧True)∧(leb 0 i=false→false=hasB w h i∧True)):=by kernel_rfl

theorem ob_o91 (w h i:Int):fnP (T0) G 10000 fe91 (.r [] 0 (.r [] 2662 .nil)) ([.agg [.int .i64 w,.int .i64 h],.int .i64 i]) ([.agg [.int .i64 (qX w i),.int .i64 (qY w i),.int .u8 (qQ i)]]) ([])=(
 inR i64 (Int.tdiv i 4)=true∧(!w==0)=true∧inR i64 (Int.tdiv i 4)=true∧inR i64 (Int.tdiv (Int.tdiv i 4) w)=true∧(!w==0)=true∧inR u8 (Int.tmod i 4)=true∧Int.tmod (Int.tdiv i
 4) w=qX w i∧Int.tdiv (Int.tdiv i 4) w=qY w i∧Int.tmod i 4=qQ i∧True):=by kernel_rfl

theorem ob_o56 (w h i:Int):fnP (CS2) G 10000 fe56 (.r [] 0 (.r [] 3 (.r [] 0 (.cnd (.r [] 1 .nil) (.r [] 1 (.cnd (.r [] 1 .nil) (.r [] 5 .nil))))))) ([.agg [.int .i64 w,.int .i64 h],.int .i64 i]) ([.agg [.int .i64 (bI (okI w h i) (qX w i) 0),.int .i64 (bI (okI w h i) (qY w i) 0),.int .u8 (bI (okI w h i) (qQ i) 0)],.int .i64 (ceE w h i)]) ([])=(
 ((bI (okS w h) 0 1 !=0)=true→0=bI (okI w h i) (qX w i) 0∧0=bI (okI w h i) (qY w i) 0∧0=bI (okI w h i) (qQ i) 0∧bI (okS w h) 0 1=ceE w h i∧True)∧((bI (okS w h) 0 1 !=0)=false
 →okS w h=true∧((!hasB w h i)=true→0=bI (okI w h i) (qX w i) 0∧0=bI (okI w h i) (qY w i) 0∧0=bI (okI w h i) (qQ i) 0∧7=ceE w h i∧True)∧((!hasB w h i)=false→(okS w h=
 true∧hasB w h i=true)∧qX w i=bI (okI w h i) (qX w i) 0∧qY w i=bI (okI w h i) (qY w i) 0∧qQ i=bI (okI w h i) (qQ i) 0∧0=ceE w h i∧True))):=by kernel_rfl

theorem ob_o57 (w h x y q:Int):fnP (CS2) G 10000 fe57 (.r [] 0 (.r [] 3 (.r [] 0 (.cnd (.r [] 0 .nil) (.rs 4 [] 3 15 (.r [] 255 (.lit (.r [] 0 .nil))) (.rs 5 [] 7 20 (.r [] 63 (.lit (.r [] 0 .nil))) (.rs 7 [] 15 27 (.r [] 15 (.lit (.r [] 0 .nil))) (.rs 5 [] 7 32 (.r [] 3 (.lit (.r [] 0 .nil))) (.r [] 15 (.cnd (.r [] 0 .nil) (.r [] 75 .nil))))))))))) ([.agg [.int .i64 w,.int .i64 h],.agg [.int .i64 x,.int .i64 y,.int .u8 q]]) ([.int .i64 (bI (inB w h x y) (4*(y*w+x)+q) 0),.int .i64 (bI (inB w h x y) 0 7)]) ([])=(
 ((bI (okS w h) 0 1 !=0)=true→0=bI (inB w h x y) (4*(y*w+x)+q) 0∧bI (okS w h) 0 1=bI (inB w h x y) 0 7∧True)∧((bI (okS w h) 0 1 !=0)=false→((bI (okCl x y q) 0 1 !=0)=true
 →0=bI (inB w h x y) (4*(y*w+x)+q) 0∧7=bI (inB w h x y) 0 7∧True)∧((bI (okCl x y q) 0 1 !=0)=false→(ltb x 0=true→0=bI (inB w h x y) (4*(y*w+x)+q) 0∧7=bI (inB w
 h x y) 0 7∧True)∧(ltb x 0=false→(leb w x=true→0=bI (inB w h x y) (4*(y*w+x)+q) 0∧7=bI (inB w h x y) 0 7∧True)∧(leb w x=false→(ltb y 0=true→0=bI (inB w h x y) (4
 *(y*w+x)+q) 0∧7=bI (inB w h x y) 0 7∧True)∧(ltb y 0=false→(leb h y=true→0=bI (inB w h x y) (4*(y*w+x)+q) 0∧7=bI (inB w h x y) 0 7∧True)∧(leb h y=false→inR
 i64 (y*w)=true∧inR i64 (y*w+x)=true∧inR i64 (4*(y*w+x))=true∧inR i64 q=true∧inR i64 (4*(y*w+x)+q)=true∧4*(y*w+x)+q=bI (inB w h x y) (4*(y*w+x)+
 q) 0∧0=bI (inB w h x y) 0 7∧True))))))):=by kernel_rfl

theorem ob_o96 (x y q e:Int):fnP (CS2) G 10000 fe96 (.r [] 0 (.rs 4 [] 3 10 (.r [] 3 (.lit (.r [] 1 .nil))) (.r [] 3 (.cnd (.r [] 1 .nil) (.r [(262,.auto,Dr.val [AV.int i64 (nbX 0 q e),AV.int i64 (nbY 0 q e),AV.int u8 (nbQ q e)])] 257 (.r [] 219 (.r [] 3 (.cnd (.r [] 1 .nil) (.r [] 3 .nil))))))))) ([.agg [.int .i64 x,.int .i64 y,.int .u8 q],.int .u8 e]) ([.agg [.int .i64 (bI (decide (e≤2)) (nbX x q e) 0),.int .i64 (bI (decide (e≤2)) (nbY y q e) 0),.int .u8 (bI (decide (e≤2)) (nbQ q e) 0)],.int .i64 (bI (decide (e≤2)) 0 1)]) ([])=(
 (fun(zz1:Bool)=>(fun(zz0:Bool)=>((bI (okCl x y q) 0 1 !=0)=true→0=bI zz0 (nbX x q e) 0∧0=bI zz0 (nbY y q e) 0∧0=bI zz0 (nbQ q e) 0∧1=bI zz0 0 1∧True)∧((bI
 (okCl x y q) 0 1 !=0)=false→(ltb 2 e=true→0=bI zz0 (nbX x q e) 0∧0=bI zz0 (nbY y q e) 0∧0=bI zz0 (nbQ q e) 0∧1=bI zz0 0 1∧True)∧(ltb 2 e=false→leb 0 q=true∧
 ltb q 4=true∧leb 0 e=true∧ltb e 3=true∧(drop (Int.toNat e*3) (drop 4 (drop (Int.toNat q*17) [AV.int i64 0,AV.int i64 (-1),AV.int u8 2,AV.int i64 0,AV.int i64 0,AV.int
 i64 (-1),AV.int u8 2,AV.int i64 0,AV.int i64 0,AV.int u8 1,AV.int i64 0,AV.int i64 0,AV.int u8 3,AV.int i64 0,AV.int i64 0,AV.int i64 2,AV.int i64 0,AV.int i64 1,AV.int i64 0,
 AV.int u8 1,AV.int i64 1,AV.int i64 1,AV.int i64 0,AV.int u8 3,AV.int i64 0,AV.int i64 0,AV.int u8 0,AV.int i64 0,AV.int i64 0,AV.int u8 2,AV.int i64 2,AV.int i64 2,AV.int i64
 2,AV.int i64 0,AV.int i64 0,AV.int i64 1,AV.int u8 2,AV.int i64 1,AV.int i64 0,AV.int i64 1,AV.int u8 0,AV.int i64 0,AV.int i64 0,AV.int u8 3,AV.int i64 0,AV.int i64 0,AV.int
 u8 1,AV.int i64 2,AV.int i64 2,AV.int i64 0,AV.int i64 2,AV.int i64 (-1),AV.int i64 0,AV.int u8 1,AV.int i64 0,AV.int i64 (-1),AV.int i64 0,AV.int u8 1,AV.int i64 0,AV.int i64
 0,AV.int u8 2,AV.int i64 0,AV.int i64 0,AV.int u8 0,AV.int i64 0,AV.int i64 0,AV.int i64 0,AV.int i64 2])))[0]? =some (AV.int i64 (nbX 0 q e))∧(drop (Int.toNat e*3) (drop 4
 (drop (Int.toNat q*17) [AV.int i64 0,AV.int i64 (-1),AV.int u8 2,AV.int i64 0,AV.int i64 0,AV.int i64 (-1),AV.int u8 2,AV.int i64 0,AV.int i64 0,AV.int u8 1,AV.int i64 0,AV.int
 i64 0,AV.int u8 3,AV.int i64 0,AV.int i64 0,AV.int i64 2,AV.int i64 0,AV.int i64 1,AV.int i64 0,AV.int u8 1,AV.int i64 1,AV.int i64 1,AV.int i64 0,AV.int u8 3,AV.int i64 0,
 AV.int i64 0,AV.int u8 0,AV.int i64 0,AV.int i64 0,AV.int u8 2,AV.int i64 2,AV.int i64 2,AV.int i64 2,AV.int i64 0,AV.int i64 0,AV.int i64 1,AV.int u8 2,AV.int i64 1,AV.int i64
 0,AV.int i64 1,AV.int u8 0,AV.int i64 0,AV.int i64 0,AV.int u8 3,AV.int i64 0,AV.int i64 0,AV.int u8 1,AV.int i64 2,AV.int i64 2,AV.int i64 0,AV.int i64 2,AV.int i64 (-1),
 AV.int i64 0,AV.int u8 1,AV.int i64 0,AV.int i64 (-1),AV.int i64 0,AV.int u8 1,AV.int i64 0,AV.int i64 0,AV.int u8 2,AV.int i64 0,AV.int i64 0,AV.int u8 0,AV.int i64 0,AV.int
 i64 0,AV.int i64 0,AV.int i64 2])))[1]? =some (AV.int i64 (nbY 0 q e))∧(drop (Int.toNat e*3) (drop 4 (drop (Int.toNat q*17) [AV.int i64 0,AV.int i64 (-1),AV.int u8 2,AV.int i64
 0,AV.int i64 0,AV.int i64 (-1),AV.int u8 2,AV.int i64 0,AV.int i64 0,AV.int u8 1,AV.int i64 0,AV.int i64 0,AV.int u8 3,AV.int i64 0,AV.int i64 0,AV.int i64 2,AV.int i64 0,
 AV.int i64 1,AV.int i64 0,AV.int u8 1,AV.int i64 1,AV.int i64 1,AV.int i64 0,AV.int u8 3,AV.int i64 0,AV.int i64 0,AV.int u8 0,AV.int i64 0,AV.int i64 0,AV.int u8 2,AV.int i64
 2,AV.int i64 2,AV.int i64 2,AV.int i64 0,AV.int i64 0,AV.int i64 1,AV.int u8 2,AV.int i64 1,AV.int i64 0,AV.int i64 1,AV.int u8 0,AV.int i64 0,AV.int i64 0,AV.int u8 3,AV.int
 i64 0,AV.int i64 0,AV.int u8 1,AV.int i64 2,AV.int i64 2,AV.int i64 0,AV.int i64 2,AV.int i64 (-1),AV.int i64 0,AV.int u8 1,AV.int i64 0,AV.int i64 (-1),AV.int i64 0,AV.int u8
 1,AV.int i64 0,AV.int i64 0,AV.int u8 2,AV.int i64 0,AV.int i64 0,AV.int u8 0,AV.int i64 0,AV.int i64 0,AV.int i64 0,AV.int i64 2])))[2]? =some (AV.int u8 (nbQ q e))∧inR i64
 (nbX 0 q e+x)=true∧inR i64 (nbY 0 q e+y)=true∧(zz1=true→0=bI zz0 (nbX x q e) 0∧0=bI zz0 (nbY y q e) 0∧0=bI zz0 (nbQ q e) 0∧3=bI zz0 0 1∧True)∧(zz1=false→
 nbX 0 q e+x=bI zz0 (nbX x q e) 0∧nbY 0 q e+y=bI zz0 (nbY y q e) 0∧nbQ q e=bI zz0 (nbQ q e) 0∧0=bI zz0 0 1∧True)))) (decide (e≤2))) (bI (okCl (nbX 0 q e+x) (nbY 0 q e
 +y) (nbQ q e)) 0 1 !=0)):=by kernel_rfl

theorem ob_o70 (w h i e:Int):fnP (CS3) G 10000 fe70 (.r [] 0 (.r [] 31 (.r [] 0 (.cnd (.r [] 0 .nil) (.r [] 29 (.r [] 0 (.cnd (.r [] 0 .nil) (.r [] 27 .nil)))))))) ([.agg [.int .i64 w,.int .i64 h],.int .i64 i,.int .u8 e]) ([.int .i64 (bI (okN w h i e) (nbI w h i e) 0),.int .i64 (neE w h i e)]) ([])=(
 (fun(zz0:Bool)=>((ceE w h i !=0)=true→0=bI (okN w h i e) (nbI w h i e) 0∧ceE w h i=neE w h i e∧True)∧((ceE w h i !=0)=false→(-900≤bI (okI w h i) (qX w i) 0∧bI
 (okI w h i) (qX w i) 0≤900∧ -900≤bI (okI w h i) (qY w i) 0∧bI (okI w h i) (qY w i) 0≤900∧0≤bI (okI w h i) (qQ i) 0∧bI (okI w h i) (qQ i) 0≤3∧0≤e)∧((bI zz0 0 1 !=0)=
 true→0=bI (okN w h i e) (nbI w h i e) 0∧1=neE w h i e∧True)∧((bI zz0 0 1 !=0)=false→(okS w h=true∧0≤bI zz0 (nbQ (bI (okI w h i) (qQ i) 0) e) 0∧bI zz0 (nbQ (bI (okI w
 h i) (qQ i) 0) e) 0≤3∧(-1000≤bI zz0 (nbX (bI (okI w h i) (qX w i) 0) (bI (okI w h i) (qQ i) 0) e) 0∧bI zz0 (nbX (bI (okI w h i) (qX w i) 0) (bI (okI w h i) (qQ i) 0) e) 0≤1000)∧
 -1000≤bI zz0 (nbY (bI (okI w h i) (qY w i) 0) (bI (okI w h i) (qQ i) 0) e) 0∧bI zz0 (nbY (bI (okI w h i) (qY w i) 0) (bI (okI w h i) (qQ i) 0) e) 0≤1000)∧bI (inB w h (bI zz0 (nbX (bI
 (okI w h i) (qX w i) 0) (bI (okI w h i) (qQ i) 0) e) 0) (bI zz0 (nbY (bI (okI w h i) (qY w i) 0) (bI (okI w h i) (qQ i) 0) e) 0)) (4*(bI zz0 (nbY (bI (okI w h i) (qY w i) 0) (bI (okI w h
 i) (qQ i) 0) e) 0*w+bI zz0 (nbX (bI (okI w h i) (qX w i) 0) (bI (okI w h i) (qQ i) 0) e) 0)+bI zz0 (nbQ (bI (okI w h i) (qQ i) 0) e) 0) 0=bI (okN w h i e) (nbI w h i e) 0∧bI (inB w
 h (bI zz0 (nbX (bI (okI w h i) (qX w i) 0) (bI (okI w h i) (qQ i) 0) e) 0) (bI zz0 (nbY (bI (okI w h i) (qY w i) 0) (bI (okI w h i) (qQ i) 0) e) 0)) 0 7=neE w h i e∧True))) (decide (e≤
 2))):=by kernel_rfl

theorem ob_o58 (w h i e:Int):fnP (CS4) G 10000 fe58 (.r [] 0 (.r [] 13 (.r [] 0 (.cnd (.r [] 1 .nil) (.r [] 1 .nil))))) ([.agg [.int .i64 w,.int .i64 h],.int .i64 i,.int .u8 e]) ([.agg [.int .i64 (nmC w h i e),.int .u8 (nmE w h i e)],.int .i64 (neE w h i e)]) ([])=(
 0≤e∧((neE w h i e !=0)=true→0=nmC w h i e∧0=nmE w h i e∧neE w h i e=neE w h i e∧True)∧((neE w h i e !=0)=false→(if bI (okN w h i e) (nbI w h i e) 0<i then bI (okN w h i
 e) (nbI w h i e) 0 else i)=nmC w h i e∧e=nmE w h i e∧0=neE w h i e∧True)):=by kernel_rfl

theorem ob_o54 (w h x y q:Int):fnP (CS2) G 10000 fe54 (.r [] 0 (.rs 4 [] 1 8 (.r [] 255 (.lit (.r [] 0 .nil))) (.rs 5 [] 7 13 (.r [] 63 (.lit (.r [] 0 .nil))) (.rs 7 [] 15 20 (.r [] 15 (.lit (.r [] 0 .nil))) (.rs 7 [] 15 27 (.r [] 3 (.lit (.r [] 0 .nil))) (.r [] 7 (.cnd (.r [] 0 .nil) (.r [] 149 .nil)))))))) ([.agg [.int .i64 w,.int .i64 h],.agg [.int .i64 x,.int .i64 y,.int .u8 q]]) ([.int .i64 (idI w h x y q)]) ([])=(
 (ltb x 0=true→ -1=idI w h x y q∧True)∧(ltb x 0=false→(ltb y 0=true→ -1=idI w h x y q∧True)∧(ltb y 0=false→(leb w x=true→ -1=idI w h x y q∧True)∧(leb w x=false→
 (leb h y=true→ -1=idI w h x y q∧True)∧(leb h y=false→(ltb 3 q=true→ -1=idI w h x y q∧True)∧(ltb 3 q=false→inR i64 (4*w)=true∧inR i64 (4*w*y)=true∧inR i64 (4*
 x)=true∧inR i64 (4*w*y+4*x)=true∧inR i64 q=true∧inR i64 (4*w*y+4*x+q)=true∧4*w*y+4*x+q=idI w h x y q∧True)))))):=by kernel_rfl

theorem ob_o55a (x y q:Int):fnP (CD) G 10000 fe55 (.r [] 0 (.r [] 5 (.r [] 5 (.r [] 0 (.un (.r [] 0 (.lit (.r [] 239 (.r [] 1 (.un (.r [] 0 (.lit (.r [] 239 (.r [] 1 (.un (.r [] 0 (.lit (.r [] 239 (.r [] 1 (.un (.r [] 0 (.lit (.r [] 5 .nil))))))))))))))))))))))) ([.agg [.int .i64 x,.int .i64 y,.int .u8 q],.int .i64 0]) ([.agg [.int .i64 (nbX x q 0),.int .i64 (nbY y q 0),.int .u8 (nbQ q 0)]]) ([])=(
 (-100000≤x∧x≤100000∧ -100000≤y∧y≤100000∧0≤q∧q≤3∧iI 0≤iI 0∧iI 0≤iI 2)∧((-1000000≤x∧x≤1000000)∧(-1000000≤y∧y≤1000000)∧0≤q∧q≤3)∧((-1000000≤liC x y
 q 0∧liC x y q 0≤1000000)∧(-1000000≤2*x+1∧2*x+1≤1000000)∧ -1000000≤2*y+1∧2*y+1≤1000000)∧((-1000000≤liC x y q 0∧liC x y q 0≤1000000)∧(-1000000≤2*x+hQ q
 ∧2*x+hQ q≤1000000)∧ -1000000≤2*y+hQ q∧2*y+hQ q≤1000000)∧((-1000000≤liC x y q 0∧liC x y q 0≤1000000)∧(-1000000≤2*x+gQ q∧2*x+gQ q≤1000000)∧ -1000000≤2*
 y+(2-gQ q)∧2*y+(2-gQ q)≤1000000)∧((-1000≤2*x+1-rfD (liK x y q 0) (liC x y q 0) (2*x+1) (2*y+1)*acA (liK x y q 0)∧2*x+1-rfD (liK x y q 0) (liC x y q 0) (2*x
 +1) (2*y+1)*acA (liK x y q 0)≤1000)∧(-1000≤2*y+1-rfD (liK x y q 0) (liC x y q 0) (2*x+1) (2*y+1)*acB (liK x y q 0)∧2*y+1-rfD (liK x y q 0) (liC x y q 0) (2*x+
 1) (2*y+1)*acB (liK x y q 0)≤1000)∧(-1000≤2*x+hQ q-rfD (liK x y q 0) (liC x y q 0) (2*x+hQ q) (2*y+hQ q)*acA (liK x y q 0)∧2*x+hQ q-rfD (liK x y q 0) (liC x y q 0)
 (2*x+hQ q) (2*y+hQ q)*acA (liK x y q 0)≤1000)∧(-1000≤2*y+hQ q-rfD (liK x y q 0) (liC x y q 0) (2*x+hQ q) (2*y+hQ q)*acB (liK x y q 0)∧2*y+hQ q-rfD (liK x y q 0)
 (liC x y q 0) (2*x+hQ q) (2*y+hQ q)*acB (liK x y q 0)≤1000)∧(-1000≤2*x+gQ q-rfD (liK x y q 0) (liC x y q 0) (2*x+gQ q) (2*y+(2-gQ q))*acA (liK x y q 0)∧2*x+gQ q
 -rfD (liK x y q 0) (liC x y q 0) (2*x+gQ q) (2*y+(2-gQ q))*acA (liK x y q 0)≤1000)∧ -1000≤2*y+(2-gQ q)-rfD (liK x y q 0) (liC x y q 0) (2*x+gQ q) (2*y+(2-gQ q))*
 acB (liK x y q 0)∧2*y+(2-gQ q)-rfD (liK x y q 0) (liC x y q 0) (2*x+gQ q) (2*y+(2-gQ q))*acB (liK x y q 0)≤1000)∧wX (2*x+1-rfD (liK x y q 0) (liC x y q 0) (2*x+1)
 (2*y+1)*acA (liK x y q 0)) (2*y+1-rfD (liK x y q 0) (liC x y q 0) (2*x+1) (2*y+1)*acB (liK x y q 0)) (2*x+hQ q-rfD (liK x y q 0) (liC x y q 0) (2*x+hQ q) (2*y+hQ q)
 *acA (liK x y q 0)) (2*y+hQ q-rfD (liK x y q 0) (liC x y q 0) (2*x+hQ q) (2*y+hQ q)*acB (liK x y q 0)) (2*x+gQ q-rfD (liK x y q 0) (liC x y q 0) (2*x+gQ q) (2*y+(2-gQ
 q))*acA (liK x y q 0)) (2*y+(2-gQ q)-rfD (liK x y q 0) (liC x y q 0) (2*x+gQ q) (2*y+(2-gQ q))*acB (liK x y q 0))=nbX x q 0∧wY (2*x+1-rfD (liK x y q 0) (liC x y q 0) (2
 *x+1) (2*y+1)*acA (liK x y q 0)) (2*y+1-rfD (liK x y q 0) (liC x y q 0) (2*x+1) (2*y+1)*acB (liK x y q 0)) (2*x+hQ q-rfD (liK x y q 0) (liC x y q 0) (2*x+hQ q) (2*
 y+hQ q)*acA (liK x y q 0)) (2*y+hQ q-rfD (liK x y q 0) (liC x y q 0) (2*x+hQ q) (2*y+hQ q)*acB (liK x y q 0)) (2*x+gQ q-rfD (liK x y q 0) (liC x y q 0) (2*x+gQ q) (2*y
 +(2-gQ q))*acA (liK x y q 0)) (2*y+(2-gQ q)-rfD (liK x y q 0) (liC x y q 0) (2*x+gQ q) (2*y+(2-gQ q))*acB (liK x y q 0))=nbY y q 0∧wQ (2*x+1-rfD (liK x y q 0) (liC x
 y q 0) (2*x+1) (2*y+1)*acA (liK x y q 0)) (2*y+1-rfD (liK x y q 0) (liC x y q 0) (2*x+1) (2*y+1)*acB (liK x y q 0)) (2*x+hQ q-rfD (liK x y q 0) (liC x y q 0) (2*x+
 hQ q) (2*y+hQ q)*acA (liK x y q 0)) (2*y+hQ q-rfD (liK x y q 0) (liC x y q 0) (2*x+hQ q) (2*y+hQ q)*acB (liK x y q 0)) (2*x+gQ q-rfD (liK x y q 0) (liC x y q 0) (2*x+gQ
 q) (2*y+(2-gQ q))*acA (liK x y q 0)) (2*y+(2-gQ q)-rfD (liK x y q 0) (liC x y q 0) (2*x+gQ q) (2*y+(2-gQ q))*acB (liK x y q 0))=nbQ q 0∧True):=by kernel_rfl

theorem ob_o55b (x y q:Int):fnP (CD) G 10000 fe55 (.r [] 0 (.r [] 5 (.r [] 5 (.r [] 0 (.un (.r [] 0 (.lit (.r [] 239 (.r [] 1 (.un (.r [] 0 (.lit (.r [] 239 (.r [] 1 (.un (.r [] 0 (.lit (.r [] 239 (.r [] 1 (.un (.r [] 0 (.lit (.r [] 5 .nil))))))))))))))))))))))) ([.agg [.int .i64 x,.int .i64 y,.int .u8 q],.int .i64 1]) ([.agg [.int .i64 (nbX x q 1),.int .i64 (nbY y q 1),.int .u8 (nbQ q 1)]]) ([])=(
 (-100000≤x∧x≤100000∧ -100000≤y∧y≤100000∧0≤q∧q≤3∧iI 0≤iI 1∧iI 1≤iI 2)∧((-1000000≤x∧x≤1000000)∧(-1000000≤y∧y≤1000000)∧0≤q∧q≤3)∧((-1000000≤liC x y
 q 1∧liC x y q 1≤1000000)∧(-1000000≤2*x+1∧2*x+1≤1000000)∧ -1000000≤2*y+1∧2*y+1≤1000000)∧((-1000000≤liC x y q 1∧liC x y q 1≤1000000)∧(-1000000≤2*x+hQ q
 ∧2*x+hQ q≤1000000)∧ -1000000≤2*y+hQ q∧2*y+hQ q≤1000000)∧((-1000000≤liC x y q 1∧liC x y q 1≤1000000)∧(-1000000≤2*x+gQ q∧2*x+gQ q≤1000000)∧ -1000000≤2*
 y+(2-gQ q)∧2*y+(2-gQ q)≤1000000)∧((-1000≤2*x+1-rfD (liK x y q 1) (liC x y q 1) (2*x+1) (2*y+1)*acA (liK x y q 1)∧2*x+1-rfD (liK x y q 1) (liC x y q 1) (2*x
 +1) (2*y+1)*acA (liK x y q 1)≤1000)∧(-1000≤2*y+1-rfD (liK x y q 1) (liC x y q 1) (2*x+1) (2*y+1)*acB (liK x y q 1)∧2*y+1-rfD (liK x y q 1) (liC x y q 1) (2*x+
 1) (2*y+1)*acB (liK x y q 1)≤1000)∧(-1000≤2*x+hQ q-rfD (liK x y q 1) (liC x y q 1) (2*x+hQ q) (2*y+hQ q)*acA (liK x y q 1)∧2*x+hQ q-rfD (liK x y q 1) (liC x y q 1)
 (2*x+hQ q) (2*y+hQ q)*acA (liK x y q 1)≤1000)∧(-1000≤2*y+hQ q-rfD (liK x y q 1) (liC x y q 1) (2*x+hQ q) (2*y+hQ q)*acB (liK x y q 1)∧2*y+hQ q-rfD (liK x y q 1)
 (liC x y q 1) (2*x+hQ q) (2*y+hQ q)*acB (liK x y q 1)≤1000)∧(-1000≤2*x+gQ q-rfD (liK x y q 1) (liC x y q 1) (2*x+gQ q) (2*y+(2-gQ q))*acA (liK x y q 1)∧2*x+gQ q
 -rfD (liK x y q 1) (liC x y q 1) (2*x+gQ q) (2*y+(2-gQ q))*acA (liK x y q 1)≤1000)∧ -1000≤2*y+(2-gQ q)-rfD (liK x y q 1) (liC x y q 1) (2*x+gQ q) (2*y+(2-gQ q))*
 acB (liK x y q 1)∧2*y+(2-gQ q)-rfD (liK x y q 1) (liC x y q 1) (2*x+gQ q) (2*y+(2-gQ q))*acB (liK x y q 1)≤1000)∧wX (2*x+1-rfD (liK x y q 1) (liC x y q 1) (2*x+1)
 (2*y+1)*acA (liK x y q 1)) (2*y+1-rfD (liK x y q 1) (liC x y q 1) (2*x+1) (2*y+1)*acB (liK x y q 1)) (2*x+hQ q-rfD (liK x y q 1) (liC x y q 1) (2*x+hQ q) (2*y+hQ q)
 *acA (liK x y q 1)) (2*y+hQ q-rfD (liK x y q 1) (liC x y q 1) (2*x+hQ q) (2*y+hQ q)*acB (liK x y q 1)) (2*x+gQ q-rfD (liK x y q 1) (liC x y q 1) (2*x+gQ q) (2*y+(2-gQ
 q))*acA (liK x y q 1)) (2*y+(2-gQ q)-rfD (liK x y q 1) (liC x y q 1) (2*x+gQ q) (2*y+(2-gQ q))*acB (liK x y q 1))=nbX x q 1∧wY (2*x+1-rfD (liK x y q 1) (liC x y q 1) (2
 *x+1) (2*y+1)*acA (liK x y q 1)) (2*y+1-rfD (liK x y q 1) (liC x y q 1) (2*x+1) (2*y+1)*acB (liK x y q 1)) (2*x+hQ q-rfD (liK x y q 1) (liC x y q 1) (2*x+hQ q) (2*
 y+hQ q)*acA (liK x y q 1)) (2*y+hQ q-rfD (liK x y q 1) (liC x y q 1) (2*x+hQ q) (2*y+hQ q)*acB (liK x y q 1)) (2*x+gQ q-rfD (liK x y q 1) (liC x y q 1) (2*x+gQ q) (2*y
 +(2-gQ q))*acA (liK x y q 1)) (2*y+(2-gQ q)-rfD (liK x y q 1) (liC x y q 1) (2*x+gQ q) (2*y+(2-gQ q))*acB (liK x y q 1))=nbY y q 1∧wQ (2*x+1-rfD (liK x y q 1) (liC x
 y q 1) (2*x+1) (2*y+1)*acA (liK x y q 1)) (2*y+1-rfD (liK x y q 1) (liC x y q 1) (2*x+1) (2*y+1)*acB (liK x y q 1)) (2*x+hQ q-rfD (liK x y q 1) (liC x y q 1) (2*x+
 hQ q) (2*y+hQ q)*acA (liK x y q 1)) (2*y+hQ q-rfD (liK x y q 1) (liC x y q 1) (2*x+hQ q) (2*y+hQ q)*acB (liK x y q 1)) (2*x+gQ q-rfD (liK x y q 1) (liC x y q 1) (2*x+gQ
 q) (2*y+(2-gQ q))*acA (liK x y q 1)) (2*y+(2-gQ q)-rfD (liK x y q 1) (liC x y q 1) (2*x+gQ q) (2*y+(2-gQ q))*acB (liK x y q 1))=nbQ q 1∧True):=by kernel_rfl

theorem ob_o55c (x y q:Int):fnP (CD) G 10000 fe55 (.r [] 0 (.r [] 5 (.r [] 5 (.r [] 0 (.un (.r [] 0 (.lit (.r [] 239 (.r [] 1 (.un (.r [] 0 (.lit (.r [] 239 (.r [] 1 (.un (.r [] 0 (.lit (.r [] 239 (.r [] 1 (.un (.r [] 0 (.lit (.r [] 5 .nil))))))))))))))))))))))) ([.agg [.int .i64 x,.int .i64 y,.int .u8 q],.int .i64 2]) ([.agg [.int .i64 (nbX x q 2),.int .i64 (nbY y q 2),.int .u8 (nbQ q 2)]]) ([])=(
 (-100000≤x∧x≤100000∧ -100000≤y∧y≤100000∧0≤q∧q≤3∧iI 0≤iI 2∧iI 2≤iI 2)∧((-1000000≤x∧x≤1000000)∧(-1000000≤y∧y≤1000000)∧0≤q∧q≤3)∧((-1000000≤liC x y
 q 2∧liC x y q 2≤1000000)∧(-1000000≤2*x+1∧2*x+1≤1000000)∧ -1000000≤2*y+1∧2*y+1≤1000000)∧((-1000000≤liC x y q 2∧liC x y q 2≤1000000)∧(-1000000≤2*x+hQ q
 ∧2*x+hQ q≤1000000)∧ -1000000≤2*y+hQ q∧2*y+hQ q≤1000000)∧((-1000000≤liC x y q 2∧liC x y q 2≤1000000)∧(-1000000≤2*x+gQ q∧2*x+gQ q≤1000000)∧ -1000000≤2*
 y+(2-gQ q)∧2*y+(2-gQ q)≤1000000)∧((-1000≤2*x+1-rfD (liK x y q 2) (liC x y q 2) (2*x+1) (2*y+1)*acA (liK x y q 2)∧2*x+1-rfD (liK x y q 2) (liC x y q 2) (2*x
 +1) (2*y+1)*acA (liK x y q 2)≤1000)∧(-1000≤2*y+1-rfD (liK x y q 2) (liC x y q 2) (2*x+1) (2*y+1)*acB (liK x y q 2)∧2*y+1-rfD (liK x y q 2) (liC x y q 2) (2*x+
 1) (2*y+1)*acB (liK x y q 2)≤1000)∧(-1000≤2*x+hQ q-rfD (liK x y q 2) (liC x y q 2) (2*x+hQ q) (2*y+hQ q)*acA (liK x y q 2)∧2*x+hQ q-rfD (liK x y q 2) (liC x y q 2)
 (2*x+hQ q) (2*y+hQ q)*acA (liK x y q 2)≤1000)∧(-1000≤2*y+hQ q-rfD (liK x y q 2) (liC x y q 2) (2*x+hQ q) (2*y+hQ q)*acB (liK x y q 2)∧2*y+hQ q-rfD (liK x y q 2)
 (liC x y q 2) (2*x+hQ q) (2*y+hQ q)*acB (liK x y q 2)≤1000)∧(-1000≤2*x+gQ q-rfD (liK x y q 2) (liC x y q 2) (2*x+gQ q) (2*y+(2-gQ q))*acA (liK x y q 2)∧2*x+gQ q
 -rfD (liK x y q 2) (liC x y q 2) (2*x+gQ q) (2*y+(2-gQ q))*acA (liK x y q 2)≤1000)∧ -1000≤2*y+(2-gQ q)-rfD (liK x y q 2) (liC x y q 2) (2*x+gQ q) (2*y+(2-gQ q))*
 acB (liK x y q 2)∧2*y+(2-gQ q)-rfD (liK x y q 2) (liC x y q 2) (2*x+gQ q) (2*y+(2-gQ q))*acB (liK x y q 2)≤1000)∧wX (2*x+1-rfD (liK x y q 2) (liC x y q 2) (2*x+1)
 (2*y+1)*acA (liK x y q 2)) (2*y+1-rfD (liK x y q 2) (liC x y q 2) (2*x+1) (2*y+1)*acB (liK x y q 2)) (2*x+hQ q-rfD (liK x y q 2) (liC x y q 2) (2*x+hQ q) (2*y+hQ q)
 *acA (liK x y q 2)) (2*y+hQ q-rfD (liK x y q 2) (liC x y q 2) (2*x+hQ q) (2*y+hQ q)*acB (liK x y q 2)) (2*x+gQ q-rfD (liK x y q 2) (liC x y q 2) (2*x+gQ q) (2*y+(2-gQ
 q))*acA (liK x y q 2)) (2*y+(2-gQ q)-rfD (liK x y q 2) (liC x y q 2) (2*x+gQ q) (2*y+(2-gQ q))*acB (liK x y q 2))=nbX x q 2∧wY (2*x+1-rfD (liK x y q 2) (liC x y q 2) (2
 *x+1) (2*y+1)*acA (liK x y q 2)) (2*y+1-rfD (liK x y q 2) (liC x y q 2) (2*x+1) (2*y+1)*acB (liK x y q 2)) (2*x+hQ q-rfD (liK x y q 2) (liC x y q 2) (2*x+hQ q) (2*
 y+hQ q)*acA (liK x y q 2)) (2*y+hQ q-rfD (liK x y q 2) (liC x y q 2) (2*x+hQ q) (2*y+hQ q)*acB (liK x y q 2)) (2*x+gQ q-rfD (liK x y q 2) (liC x y q 2) (2*x+gQ q) (2*y
 +(2-gQ q))*acA (liK x y q 2)) (2*y+(2-gQ q)-rfD (liK x y q 2) (liC x y q 2) (2*x+gQ q) (2*y+(2-gQ q))*acB (liK x y q 2))=nbY y q 2∧wQ (2*x+1-rfD (liK x y q 2) (liC x
 y q 2) (2*x+1) (2*y+1)*acA (liK x y q 2)) (2*y+1-rfD (liK x y q 2) (liC x y q 2) (2*x+1) (2*y+1)*acB (liK x y q 2)) (2*x+hQ q-rfD (liK x y q 2) (liC x y q 2) (2*x+
 hQ q) (2*y+hQ q)*acA (liK x y q 2)) (2*y+hQ q-rfD (liK x y q 2) (liC x y q 2) (2*x+hQ q) (2*y+hQ q)*acB (liK x y q 2)) (2*x+gQ q-rfD (liK x y q 2) (liC x y q 2) (2*x+gQ
 q) (2*y+(2-gQ q))*acA (liK x y q 2)) (2*y+(2-gQ q)-rfD (liK x y q 2) (liC x y q 2) (2*x+gQ q) (2*y+(2-gQ q))*acB (liK x y q 2))=nbQ q 2∧True):=by kernel_rfl

theorem ob_o21 (w h i e:Int):fnP (CN) G 10000 fe21 (.r [] 0 (.r [] 1302 (.r [] 3 .nil))) ([.agg [.int .i64 w,.int .i64 h],.int .i64 i,.int .i64 e]) ([.int .i64 (nbI w h i e)]) ([])=(
 inR i64 (Int.tdiv i 4)=true∧(!w==0)=true∧inR i64 (4*w)=true∧inR i64 (Int.tdiv i (4*w))=true∧(!4*w==0)=true∧inR u8 (Int.tmod i 4)=true∧(0≤Int.tmod (Int.tdiv i 4) w∧
 Int.tmod (Int.tdiv i 4) w≤4∧0≤Int.tdiv i (4*w)∧Int.tdiv i (4*w)≤4∧0≤Int.tmod i 4∧Int.tmod i 4≤3∧0≤e∧e≤2)∧(okS w h=true∧0≤nbQ (Int.tmod i 4) e∧nbQ (Int.tmod i 4)
 e≤3∧(-1000≤nbX (Int.tmod (Int.tdiv i 4) w) (Int.tmod i 4) e∧nbX (Int.tmod (Int.tdiv i 4) w) (Int.tmod i 4) e≤1000)∧ -1000≤nbY (Int.tdiv i (4*w)) (Int.tmod i 4) e∧nbY (Int.tdiv i (4*
 w)) (Int.tmod i 4) e≤1000)∧idI w h (nbX (Int.tmod (Int.tdiv i 4) w) (Int.tmod i 4) e) (nbY (Int.tdiv i (4*w)) (Int.tmod i 4) e) (nbQ (Int.tmod i 4) e)=nbI w h i e∧True):=by kernel_rfl

end Go.Proofs.YtfpcbimohikhmaaDoor.X
