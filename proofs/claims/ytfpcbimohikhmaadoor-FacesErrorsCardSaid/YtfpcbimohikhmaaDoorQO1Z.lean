/-
 What is to be shown of the functions (made by a program).
-/
import Derived.Test.YtfpcbimohikhmaaDoorQDZ
import Derived.KernelRfl
set_option maxRecDepth 1000000
set_option linter.unusedVariables false
namespace Go.Proofs.YtfpcbimohikhmaaDoor.X
open Go Go.Ab
open List IntKind

theorem ob_o77 (k:Int):fnP (T0) G 10000 fe77 (.r [] 0 (.r [] 0 (.cnd (.r [] 0 .nil) (.r [] 0 (.cnd (.r [] 0 .nil) (.r [] 0 (.cnd (.r [] 0 .nil) (.r [] 0 .nil)))))))) ([.int .u8 k]) ([.int .i64 (acA k),.int .i64 (acB k)]) ([])=(
 ((k==1)=true→1=acA k∧0=acB k∧True)∧((k==1)=false→((k==2)=true→0=acA k∧1=acB k∧True)∧((k==2)=false→((k==3)=true→1=acA k∧1=acB k∧True)∧((k==
 3)=false→ -1=acA k∧1=acB k∧True)))):=by kernel_rfl

theorem ob_o102 (k c x y:Int):fnP (CA) G 10000 fe102 (.r [] 0 (.r [] 15 (.r [] 37 .nil))) ([.agg [.int .u8 k,.int .i64 c],.agg [.int .i64 x,.int .i64 y]]) ([.int .i64 (farI k c x y)]) ([])=(
 inR i64 (acA k*x)=true∧inR i64 (acB k*y)=true∧inR i64 (acA k*x+acB k*y)=true∧inR i64 (2*c)=true∧inR i64 (acA k*x+acB k*y-2*c)=true∧acA k*x+acB k*y-2*
 c=farI k c x y∧True):=by kernel_rfl

theorem ob_o76a (x y:Int):fnP (T0) G 10000 fe76 (.r [] 0 (.r [] 5 (.r [] 16 (.r [] 63 (.r [] 1 (.lit (.r [] 508 .nil))))))) ([.agg [.int .i64 x,.int .i64 y,.int .u8 0]]) ([.agg (corV x y 0)]) ([])=(
 inR i64 (2*x)=true∧inR i64 (2*y)=true∧inR i64 (2*x+2)=true∧inR i64 (2*x+2)=true∧inR i64 (2*y+2)=true∧inR i64 (2*y+2)=true∧inR i64 (2*x+1)=true∧inR
 i64 (2*y+1)=true∧2*x+1=2*x+1∧2*y+1=2*y+1∧2*x=2*x+0∧2*y=2*y+0∧2*x+2=2*x+2∧2*y=2*y+0∧True):=by kernel_rfl

theorem ob_o76b (x y:Int):fnP (T0) G 10000 fe76 (.r [] 0 (.r [] 5 (.r [] 16 (.r [] 63 (.r [] 1 (.lit (.r [] 0 (.r [] 508 .nil)))))))) ([.agg [.int .i64 x,.int .i64 y,.int .u8 1]]) ([.agg (corV x y 1)]) ([])=(
 inR i64 (2*x)=true∧inR i64 (2*y)=true∧inR i64 (2*x+2)=true∧inR i64 (2*x+2)=true∧inR i64 (2*y+2)=true∧inR i64 (2*y+2)=true∧inR i64 (2*x+1)=true∧inR
 i64 (2*y+1)=true∧2*x+1=2*x+1∧2*y+1=2*y+1∧2*x+2=2*x+2∧2*y+2=2*y+2∧2*x+2=2*x+2∧2*y=2*y+0∧True):=by kernel_rfl

theorem ob_o76c (x y:Int):fnP (T0) G 10000 fe76 (.r [] 0 (.r [] 5 (.r [] 16 (.r [] 63 (.r [] 1 (.lit (.r [] 508 .nil))))))) ([.agg [.int .i64 x,.int .i64 y,.int .u8 2]]) ([.agg (corV x y 2)]) ([])=(
 inR i64 (2*x)=true∧inR i64 (2*y)=true∧inR i64 (2*x+2)=true∧inR i64 (2*x+2)=true∧inR i64 (2*y+2)=true∧inR i64 (2*y+2)=true∧inR i64 (2*x+1)=true∧inR
 i64 (2*y+1)=true∧2*x+1=2*x+1∧2*y+1=2*y+1∧2*x+2=2*x+2∧2*y+2=2*y+2∧2*x=2*x+0∧2*y+2=2*y+2∧True):=by kernel_rfl

theorem ob_o76d (x y:Int):fnP (T0) G 10000 fe76 (.r [] 0 (.r [] 5 (.r [] 16 (.r [] 63 (.r [] 1 (.lit (.r [] 0 (.r [] 508 .nil)))))))) ([.agg [.int .i64 x,.int .i64 y,.int .u8 3]]) ([.agg (corV x y 3)]) ([])=(
 inR i64 (2*x)=true∧inR i64 (2*y)=true∧inR i64 (2*x+2)=true∧inR i64 (2*x+2)=true∧inR i64 (2*y+2)=true∧inR i64 (2*y+2)=true∧inR i64 (2*x+1)=true∧inR
 i64 (2*y+1)=true∧2*x+1=2*x+1∧2*y+1=2*y+1∧2*x=2*x+0∧2*y=2*y+0∧2*x=2*x+0∧2*y+2=2*y+2∧True):=by kernel_rfl

theorem ob_o88 (k c x y:Int):fnP (CB) G 10000 fe88 (.r [] 0 (.r [] 15 (.r [] 3 (.r [] 73 .nil)))) ([.agg [.int .u8 k,.int .i64 c],.agg [.int .i64 x,.int .i64 y]]) ([.agg [.int .i64 (x-rfD k c x y*acA k),.int .i64 (y-rfD k c x y*acB k)]]) ([])=(
 ((-1000000≤c∧c≤1000000)∧(-1000000≤x∧x≤1000000)∧ -1000000≤y∧y≤1000000)∧inR i64 (2*farI k c x y)=true∧inR i64 (acA k*acA k)=true∧inR i64 (acB k*acB k)=true∧inR
 i64 (acA k*acA k+acB k*acB k)=true∧inR i64 (Int.tdiv (2*farI k c x y) (acA k*acA k+acB k*acB k))=true∧(!acA k*acA k+acB k*acB k==0)=true∧inR i64 (Int.tdiv (2*farI k
 c x y) (acA k*acA k+acB k*acB k)*acA k)=true∧inR i64 (x-Int.tdiv (2*farI k c x y) (acA k*acA k+acB k*acB k)*acA k)=true∧inR i64 (Int.tdiv (2*farI k c x y) (acA k*acA k
 +acB k*acB k)*acB k)=true∧inR i64 (y-Int.tdiv (2*farI k c x y) (acA k*acA k+acB k*acB k)*acB k)=true∧x-Int.tdiv (2*farI k c x y) (acA k*acA k+acB k*acB k)*acA k=
 x-rfD k c x y*acA k∧y-Int.tdiv (2*farI k c x y) (acA k*acA k+acB k*acB k)*acB k=y-rfD k c x y*acB k∧True):=by kernel_rfl

theorem ob_o42a (x y q:Int):fnP (CB) G 10000 fe42 (.r [] 0 (.r [] 5 (.r [] 4095 (.r [] 0 (.r [] 0 (.lp (l42 (2*x+hQ q) (2*y+hQ q) (2*x+gQ q) (2*y+(2-gQ q))) [] [] (fun b=>(.r [] 0 (.cnd (.r [] 7 (.r [] 165 (.cnd (.r [] 197 (.r [] 0 .nil)) (.r [] 0 .nil)))) (.r [] 3 .nil)))))))))) ([.agg [.int .i64 x,.int .i64 y,.int .u8 q],.int .i64 0]) ([.agg [.int .u8 (liK x y q 0),.int .i64 (liC x y q 0)]]) ([])=(
 ((-1000000≤x∧x≤1000000)∧(-1000000≤y∧y≤1000000)∧0≤q∧q≤3)∧1=1∧x=x∧y=y∧q=q∧1=1∧iI 0=0∧iI 0=0∧3=3∧2*x+1=2*x+1∧2*y+1=2*
 y+1∧2*x+hQ q=2*x+hQ q∧2*y+hQ q=2*y+hQ q∧2*x+gQ q=2*x+gQ q∧2*y+(2-gQ q)=2*y+(2-gQ q)∧1=1∧2*x+hQ q=2*x+hQ q∧2*y+hQ q
 =2*y+hQ q∧1=1∧2*x+gQ q=2*x+gQ q∧2*y+(2-gQ q)=2*y+(2-gQ q)∧1=1∧iI 0=0∧iI 0=0∧0=0∧0=0∧0=0∧0=0∧iI 1=1∧(∃(n:Nat),1=
 (↑(n+1):Int)∧n≤4∧0=lnK (2*x+hQ q) (2*y+hQ q) (2*x+gQ q) (2*y+(2-gQ q)) n∧0=lnC (2*x+hQ q) (2*y+hQ q) (2*x+gQ q) (2*y+(2-gQ q)) n)∧∀(b:
 L42),(fun(zz0:Bool)=>(∃(n:Nat),b.k=(↑(n+1):Int)∧n≤4∧b.o=lnK (2*x+hQ q) (2*y+hQ q) (2*x+gQ q) (2*y+(2-gQ q)) n∧b.c=lnC (2*x+hQ q) (2*y+hQ
 q) (2*x+gQ q) (2*y+(2-gQ q)) n)→(leb b.k 4=true→inR i64 (acA b.k*(2*x+hQ q))=true∧inR i64 (acB b.k*(2*y+hQ q))=true∧inR i64 (acA b.k*(2*x+hQ q)+
 acB b.k*(2*y+hQ q))=true∧inR i64 (acA b.k*(2*x+gQ q))=true∧inR i64 (acB b.k*(2*y+(2-gQ q)))=true∧inR i64 (acA b.k*(2*x+gQ q)+acB b.k*(2*y+(2-
 gQ q)))=true∧(zz0=true→inR i64 (acA b.k*(2*x+hQ q))=true∧inR i64 (acB b.k*(2*y+hQ q))=true∧inR i64 (acA b.k*(2*x+hQ q)+acB b.k*(2*y+hQ q))=true∧
 inR i64 (Int.tdiv (acA b.k*(2*x+hQ q)+acB b.k*(2*y+hQ q)) 2)=true∧inR u8 (b.k+1)=true∧1=1∧x=x∧y=y∧q=q∧1=1∧iI 0=0∧iI 0=0∧3=3∧2*x+1
 =2*x+1∧2*y+1=2*y+1∧2*x+hQ q=2*x+hQ q∧2*y+hQ q=2*y+hQ q∧2*x+gQ q=2*x+gQ q∧2*y+(2-gQ q)=2*y+(2-gQ q)∧1=1∧2*x+hQ q
 =2*x+hQ q∧2*y+hQ q=2*y+hQ q∧1=1∧2*x+gQ q=2*x+gQ q∧2*y+(2-gQ q)=2*y+(2-gQ q)∧1=1∧b.k=b.k∧Int.tdiv (acA b.k*(2*x+hQ q)+acB
 b.k*(2*y+hQ q)) 2=Int.tdiv (acA b.k*(2*x+hQ q)+acB b.k*(2*y+hQ q)) 2∧0=0∧0=0∧0=0∧0=0∧b.k+1=b.k+1∧(∃(n:Nat),b.k+1=(↑(n+1):Int)∧n
 ≤4∧b.k=lnK (2*x+hQ q) (2*y+hQ q) (2*x+gQ q) (2*y+(2-gQ q)) n∧Int.tdiv (acA b.k*(2*x+hQ q)+acB b.k*(2*y+hQ q)) 2=lnC (2*x+hQ q) (2*y+hQ q) (2
 *x+gQ q) (2*y+(2-gQ q)) n)∧5-Int.toNat (b.k+1)<5-Int.toNat b.k∧True)∧(zz0=false→inR u8 (b.k+1)=true∧1=1∧x=x∧y=y∧q=q∧1=1∧iI 0=0∧iI 0=
 0∧3=3∧2*x+1=2*x+1∧2*y+1=2*y+1∧2*x+hQ q=2*x+hQ q∧2*y+hQ q=2*y+hQ q∧2*x+gQ q=2*x+gQ q∧2*y+(2-gQ q)=2*y+(2-gQ q)
 ∧1=1∧2*x+hQ q=2*x+hQ q∧2*y+hQ q=2*y+hQ q∧1=1∧2*x+gQ q=2*x+gQ q∧2*y+(2-gQ q)=2*y+(2-gQ q)∧1=1∧b.o=b.o∧b.c=b.c∧0=0∧
 0=0∧0=0∧0=0∧b.k+1=b.k+1∧(∃(n:Nat),b.k+1=(↑(n+1):Int)∧n≤4∧b.o=lnK (2*x+hQ q) (2*y+hQ q) (2*x+gQ q) (2*y+(2-gQ q)) n∧b.c=lnC (2*
 x+hQ q) (2*y+hQ q) (2*x+gQ q) (2*y+(2-gQ q)) n)∧5-Int.toNat (b.k+1)<5-Int.toNat b.k∧True))∧(leb b.k 4=false→b.o=liK x y q 0∧b.c=liC x y q 0∧True))
 (acA b.k*(2*x+hQ q)+acB b.k*(2*y+hQ q)==acA b.k*(2*x+gQ q)+acB b.k*(2*y+(2-gQ q)))):=by kernel_rfl

theorem ob_o42b (x y q:Int):fnP (CB) G 10000 fe42 (.r [] 0 (.r [] 5 (.r [] 4095 (.r [] 0 (.r [] 0 (.lp (l42 (2*x+gQ q) (2*y+(2-gQ q)) (2*x+1) (2*y+1)) [] [] (fun b=>(.r [] 0 (.cnd (.r [] 7 (.r [] 165 (.cnd (.r [] 197 (.r [] 0 .nil)) (.r [] 0 .nil)))) (.r [] 3 .nil)))))))))) ([.agg [.int .i64 x,.int .i64 y,.int .u8 q],.int .i64 1]) ([.agg [.int .u8 (liK x y q 1),.int .i64 (liC x y q 1)]]) ([])=(
 ((-1000000≤x∧x≤1000000)∧(-1000000≤y∧y≤1000000)∧0≤q∧q≤3)∧1=1∧x=x∧y=y∧q=q∧1=1∧iI 0=0∧iI 0=0∧3=3∧2*x+1=2*x+1∧2*y+1=2*
 y+1∧2*x+hQ q=2*x+hQ q∧2*y+hQ q=2*y+hQ q∧2*x+gQ q=2*x+gQ q∧2*y+(2-gQ q)=2*y+(2-gQ q)∧1=1∧2*x+gQ q=2*x+gQ q∧2*y+(2-
 gQ q)=2*y+(2-gQ q)∧1=1∧2*x+1=2*x+1∧2*y+1=2*y+1∧1=1∧iI 0=0∧iI 0=0∧0=0∧0=0∧0=0∧0=0∧iI 1=1∧(∃(n:Nat),1=(↑(n+1):
 Int)∧n≤4∧0=lnK (2*x+gQ q) (2*y+(2-gQ q)) (2*x+1) (2*y+1) n∧0=lnC (2*x+gQ q) (2*y+(2-gQ q)) (2*x+1) (2*y+1) n)∧∀(b:L42),(fun(zz0:Bool)
 =>(∃(n:Nat),b.k=(↑(n+1):Int)∧n≤4∧b.o=lnK (2*x+gQ q) (2*y+(2-gQ q)) (2*x+1) (2*y+1) n∧b.c=lnC (2*x+gQ q) (2*y+(2-gQ q)) (2*x+1) (2*y+
 1) n)→(leb b.k 4=true→inR i64 (acA b.k*(2*x+gQ q))=true∧inR i64 (acB b.k*(2*y+(2-gQ q)))=true∧inR i64 (acA b.k*(2*x+gQ q)+acB b.k*(2*y+(2-gQ q)))
 =true∧inR i64 (acA b.k*(2*x+1))=true∧inR i64 (acB b.k*(2*y+1))=true∧inR i64 (acA b.k*(2*x+1)+acB b.k*(2*y+1))=true∧(zz0=true→inR i64 (acA b.k*
 (2*x+gQ q))=true∧inR i64 (acB b.k*(2*y+(2-gQ q)))=true∧inR i64 (acA b.k*(2*x+gQ q)+acB b.k*(2*y+(2-gQ q)))=true∧inR i64 (Int.tdiv (acA b.k*(2*x+
 gQ q)+acB b.k*(2*y+(2-gQ q))) 2)=true∧inR u8 (b.k+1)=true∧1=1∧x=x∧y=y∧q=q∧1=1∧iI 0=0∧iI 0=0∧3=3∧2*x+1=2*x+1∧2*y+1=2*y
 +1∧2*x+hQ q=2*x+hQ q∧2*y+hQ q=2*y+hQ q∧2*x+gQ q=2*x+gQ q∧2*y+(2-gQ q)=2*y+(2-gQ q)∧1=1∧2*x+gQ q=2*x+gQ q∧2*y+(2-
 gQ q)=2*y+(2-gQ q)∧1=1∧2*x+1=2*x+1∧2*y+1=2*y+1∧1=1∧b.k=b.k∧Int.tdiv (acA b.k*(2*x+gQ q)+acB b.k*(2*y+(2-gQ q))) 2=Int.tdiv
 (acA b.k*(2*x+gQ q)+acB b.k*(2*y+(2-gQ q))) 2∧0=0∧0=0∧0=0∧0=0∧b.k+1=b.k+1∧(∃(n:Nat),b.k+1=(↑(n+1):Int)∧n≤4∧b.k=lnK (2*x+gQ
 q) (2*y+(2-gQ q)) (2*x+1) (2*y+1) n∧Int.tdiv (acA b.k*(2*x+gQ q)+acB b.k*(2*y+(2-gQ q))) 2=lnC (2*x+gQ q) (2*y+(2-gQ q)) (2*x+1) (2*y+1)
 n)∧5-Int.toNat (b.k+1)<5-Int.toNat b.k∧True)∧(zz0=false→inR u8 (b.k+1)=true∧1=1∧x=x∧y=y∧q=q∧1=1∧iI 0=0∧iI 0=0∧3=3∧2*x+1=2*x+
 1∧2*y+1=2*y+1∧2*x+hQ q=2*x+hQ q∧2*y+hQ q=2*y+hQ q∧2*x+gQ q=2*x+gQ q∧2*y+(2-gQ q)=2*y+(2-gQ q)∧1=1∧2*x+gQ q=2*x+
 gQ q∧2*y+(2-gQ q)=2*y+(2-gQ q)∧1=1∧2*x+1=2*x+1∧2*y+1=2*y+1∧1=1∧b.o=b.o∧b.c=b.c∧0=0∧0=0∧0=0∧0=0∧b.k+1=b.k+1∧
 (∃(n:Nat),b.k+1=(↑(n+1):Int)∧n≤4∧b.o=lnK (2*x+gQ q) (2*y+(2-gQ q)) (2*x+1) (2*y+1) n∧b.c=lnC (2*x+gQ q) (2*y+(2-gQ q)) (2*x+1) (2*y
 +1) n)∧5-Int.toNat (b.k+1)<5-Int.toNat b.k∧True))∧(leb b.k 4=false→b.o=liK x y q 1∧b.c=liC x y q 1∧True)) (acA b.k*(2*x+gQ q)+acB b.k*(2*y+(2-gQ
 q))==acA b.k*(2*x+1)+acB b.k*(2*y+1))):=by kernel_rfl

theorem ob_o42c (x y q:Int):fnP (CB) G 10000 fe42 (.r [] 0 (.r [] 5 (.r [] 4095 (.r [] 0 (.r [] 0 (.lp (l42 (2*x+1) (2*y+1) (2*x+hQ q) (2*y+hQ q)) [] [] (fun b=>(.r [] 0 (.cnd (.r [] 7 (.r [] 165 (.cnd (.r [] 197 (.r [] 0 .nil)) (.r [] 0 .nil)))) (.r [] 3 .nil)))))))))) ([.agg [.int .i64 x,.int .i64 y,.int .u8 q],.int .i64 2]) ([.agg [.int .u8 (liK x y q 2),.int .i64 (liC x y q 2)]]) ([])=(
 ((-1000000≤x∧x≤1000000)∧(-1000000≤y∧y≤1000000)∧0≤q∧q≤3)∧1=1∧x=x∧y=y∧q=q∧1=1∧iI 0=0∧iI 0=0∧3=3∧2*x+1=2*x+1∧2*y+1=2*
 y+1∧2*x+hQ q=2*x+hQ q∧2*y+hQ q=2*y+hQ q∧2*x+gQ q=2*x+gQ q∧2*y+(2-gQ q)=2*y+(2-gQ q)∧1=1∧2*x+1=2*x+1∧2*y+1=2*y
 +1∧1=1∧2*x+hQ q=2*x+hQ q∧2*y+hQ q=2*y+hQ q∧1=1∧iI 0=0∧iI 0=0∧0=0∧0=0∧0=0∧0=0∧iI 1=1∧(∃(n:Nat),1=(↑(n+1):Int)∧n≤4
 ∧0=lnK (2*x+1) (2*y+1) (2*x+hQ q) (2*y+hQ q) n∧0=lnC (2*x+1) (2*y+1) (2*x+hQ q) (2*y+hQ q) n)∧∀(b:L42),(fun(zz0:Bool)=>(∃(n:Nat),b.k=
 (↑(n+1):Int)∧n≤4∧b.o=lnK (2*x+1) (2*y+1) (2*x+hQ q) (2*y+hQ q) n∧b.c=lnC (2*x+1) (2*y+1) (2*x+hQ q) (2*y+hQ q) n)→(leb b.k 4=true→inR
 i64 (acA b.k*(2*x+1))=true∧inR i64 (acB b.k*(2*y+1))=true∧inR i64 (acA b.k*(2*x+1)+acB b.k*(2*y+1))=true∧inR i64 (acA b.k*(2*x+hQ q))=true∧inR
 i64 (acB b.k*(2*y+hQ q))=true∧inR i64 (acA b.k*(2*x+hQ q)+acB b.k*(2*y+hQ q))=true∧(zz0=true→inR i64 (acA b.k*(2*x+1))=true∧inR i64 (acB b.k*(2*
 y+1))=true∧inR i64 (acA b.k*(2*x+1)+acB b.k*(2*y+1))=true∧inR i64 (Int.tdiv (acA b.k*(2*x+1)+acB b.k*(2*y+1)) 2)=true∧inR u8 (b.k+1)=true∧1=
 1∧x=x∧y=y∧q=q∧1=1∧iI 0=0∧iI 0=0∧3=3∧2*x+1=2*x+1∧2*y+1=2*y+1∧2*x+hQ q=2*x+hQ q∧2*y+hQ q=2*y+hQ q∧2*x+gQ q=2
 *x+gQ q∧2*y+(2-gQ q)=2*y+(2-gQ q)∧1=1∧2*x+1=2*x+1∧2*y+1=2*y+1∧1=1∧2*x+hQ q=2*x+hQ q∧2*y+hQ q=2*y+hQ q∧1=1∧b.k
 =b.k∧Int.tdiv (acA b.k*(2*x+1)+acB b.k*(2*y+1)) 2=Int.tdiv (acA b.k*(2*x+1)+acB b.k*(2*y+1)) 2∧0=0∧0=0∧0=0∧0=0∧b.k+1=b.k+1∧(∃(n:
 Nat),b.k+1=(↑(n+1):Int)∧n≤4∧b.k=lnK (2*x+1) (2*y+1) (2*x+hQ q) (2*y+hQ q) n∧Int.tdiv (acA b.k*(2*x+1)+acB b.k*(2*y+1)) 2=lnC (2*x+1) (2
 *y+1) (2*x+hQ q) (2*y+hQ q) n)∧5-Int.toNat (b.k+1)<5-Int.toNat b.k∧True)∧(zz0=false→inR u8 (b.k+1)=true∧1=1∧x=x∧y=y∧q=q∧1=1∧iI 0=0∧
 iI 0=0∧3=3∧2*x+1=2*x+1∧2*y+1=2*y+1∧2*x+hQ q=2*x+hQ q∧2*y+hQ q=2*y+hQ q∧2*x+gQ q=2*x+gQ q∧2*y+(2-gQ q)=2*y+(2-
 gQ q)∧1=1∧2*x+1=2*x+1∧2*y+1=2*y+1∧1=1∧2*x+hQ q=2*x+hQ q∧2*y+hQ q=2*y+hQ q∧1=1∧b.o=b.o∧b.c=b.c∧0=0∧0=0∧0=0∧0
 =0∧b.k+1=b.k+1∧(∃(n:Nat),b.k+1=(↑(n+1):Int)∧n≤4∧b.o=lnK (2*x+1) (2*y+1) (2*x+hQ q) (2*y+hQ q) n∧b.c=lnC (2*x+1) (2*y+1) (2*x+hQ
 q) (2*y+hQ q) n)∧5-Int.toNat (b.k+1)<5-Int.toNat b.k∧True))∧(leb b.k 4=false→b.o=liK x y q 2∧b.c=liC x y q 2∧True)) (acA b.k*(2*x+1)+acB b.k*(2*y+
 1)==acA b.k*(2*x+hQ q)+acB b.k*(2*y+hQ q))):=by kernel_rfl

end Go.Proofs.YtfpcbimohikhmaaDoor.X
