/-
 What is to be shown of the functions (made by a program).
-/
import Derived.Test.YtfpcbimohikhmaaDoorQYD6Z
import Derived.KernelRfl
set_option maxRecDepth 1000000
set_option linter.unusedVariables false
namespace Go.Proofs.YtfpcbimohikhmaaDoor.X
open Go Go.Ab
open List IntKind

theorem ob_o81 (w h c e:Int)(l:List Cr):fnP (T0) G 10000 fe81 (.r [] 0 (.r [] 0 (.lp (l81 l c e) [] [] (fun b=>(.r [] 1 (.cnd (.rs 9 [(325,.auto,Dr.val [AV.int i64 (cC l b.i)])] 1 23 (.r [(334,.auto,Dr.val [AV.int u8 (cE l b.i)])] 97 (.cnd (.r [] 0 .nil) (.r [] 0 .nil))) (.r [(334,.auto,Dr.val [AV.int u8 (cE l b.i)])] 3 (.lit (.r [] 0 .nil)))) (.r [] 0 .nil))))))) ([patV w h l,.int .i64 c,.int .u8 e]) ([.int .i64 (crI l c e)]) ([])=(
 1=1∧w=w∧h=h∧qx (Cont.vals (flatC l)) (length l=length l∧c=c∧e=e∧0=0∧iI 0=0∧(∃(n:Nat),0=(↑n:Int)∧n≤length l∧crI l c e=crI (drop n l) c e)∧∀
 (b:L1),(fun(zz0:Prop)=>(∃(n:Nat),b.i=(↑n:Int)∧n≤length l∧crI l c e=crI (drop n l) c e)→(ltb b.i (↑(length l):Int)=true→leb 0 b.i=true∧ltb b.i (↑(length l)
 :Int)=true∧ltn 0 (Cont.size (Cont.vals (flatC l)))=true∧(drop 0 (drop (Int.toNat b.i*3) (flatC l)))[0]? =some (AV.int i64 (cC l b.i))∧((cC l b.i==c)=true→leb 0 b.i=true
 ∧ltb b.i (↑(length l):Int)=true∧ltn 0 (Cont.size (Cont.vals (flatC l)))=true∧(drop 1 (drop (Int.toNat b.i*3) (flatC l)))[0]? =some (AV.int u8 (cE l b.i))∧((cE l b.i==e)=
 true→1=crI l c e∧True)∧((cE l b.i==e)=false→inR i64 (b.i+1)=true∧1=1∧w=w∧h=h∧qx (Cont.vals (flatC l)) (length l=length l∧c=c∧e=e∧0=0∧b.i+1=
 b.i+1∧zz0∧length l-Int.toNat (b.i+1)<length l-Int.toNat b.i∧True)))∧((cC l b.i==c)=false→inR i64 (b.i+1)=true∧1=1∧w=w∧h=h∧qx (Cont.vals (flatC l))
 (length l=length l∧c=c∧e=e∧0=0∧b.i+1=b.i+1∧zz0∧length l-Int.toNat (b.i+1)<length l-Int.toNat b.i∧True)))∧(ltb b.i (↑(length l):Int)=false→0=crI
 l c e∧True)) (∃(n:Nat),b.i+1=(↑n:Int)∧n≤length l∧crI l c e=crI (drop n l) c e))):=by kernel_rfl

theorem ob_o45 (w h:Int)(l:List Cr):fnP (YR) G 10000 fe45 (.r [] 0 (.r [] 5 (.r [] 0 (.r [] 0 (.lp (a45 w h) [] [] (fun b=>(.r [] 0 (.cnd (.r [] 0 (.r [] 0 .nil)) (.r [] 1 (.r [] 0 (.r [] 0 (.gho 7 9001 2 (Cont.vals []) (.lp (b45 w h l) [] [] (fun b_1=>(.r [] 0 (.cnd (.r [(837,.auto,Dr.val [AV.int i64 (uC (units w h) b_1.i)]),(842,.auto,Dr.val [AV.int u8 (uE (units w h) b_1.i)])] 1 (.cnd (.r [(901,.auto,Dr.val [AV.int i64 (uC (units w h) b_1.i)]),(908,.auto,Dr.val [AV.int i64 (uC (units w h) b_1.i)]),(913,.auto,Dr.val [AV.int u8 (uE (units w h) b_1.i)])] 131088 (.r [] 0 .nil)) (.r [] 0 .nil))) (.frz 7 0 (.r [] 0 (.lp (c45 w h l) [] [] (fun b_2=>(.r [] 0 (.cnd (.r [] 0 (.r [] 0 (.lp (d45 w h l b_2.m) [] [] (fun b_3=>(.r [] 0 (.cnd (.r [(1348,.auto,Dr.val [AV.int i64 (paI w h l b_3.i)]),(1353,.auto,Dr.val [AV.int i64 (pbI w h l b_3.i)])] 1560 (.r [] 0 (.cnd (.r [] 0 (.r [] 0 (.r [] 0 (.r [] 0 .nil)))) (.r [] 0 .nil)))) .nil)))))) (.r [] 0 (.r [] 0 (.r [] 0 (.lp (f45 w h l) [] [] (fun b_3=>(.r [] 0 (.cnd (.r [] 0 (.r [] 0 (.cnd (.r [] 0 (.r [] 0 (.r [] 0 .nil))) (.r [] 0 .nil)))) (.r [] 0 .nil)))))))))))))))))))))))))))))) ([patV w h l]) ([.full 0 (nC w h)]) ([⟨.ints .i64 (facL w h l),1,nC w h,some (nC w h),some false,true,false⟩])=(
 (fun(zz12:Nat)=>(fun(zz3:Nat)=>(fun(zz1:Nat)=>inR i64 (4*w)=true∧inR i64 (4*w*h)=true∧leb 0 (4*w*h)=true∧leb (4*w*h) (4*w*h)=true∧leb (4*w
 *h*8) 140737488355328=true∧1=1∧w=w∧h=h∧qx (Cont.vals (flatC l)) (length l=length l∧Int.toNat (4*w*h)=nC w h∧Int.toNat (4*w*h)=nC w h∧qx (replicate zz1
 (0:Int)) (0=0∧qx (4*w*h) (qx zz1 (iI 0=0∧(∃(n:Nat),0=(↑n:Int)∧n≤nC w h∧replicate zz1 (0:Int)=ownL (nC w h) n)∧∀(b:LI1),(fun(zz6:Bool)=>(∃(n:
 Nat),b.i=(↑n:Int)∧n≤nC w h∧b.m=ownL (nC w h) n)→(ltb b.i (4*w*h)=true→leb 0 b.i=true∧ltb b.i (↑zz1:Int)=true∧nC w h=Int.toNat (4*w*h)∧nC w h=
 Int.toNat (4*w*h)∧len' (Int.toNat b.i+1) (Cont.size (Cont.ints i64 b.m))=true∧inR i64 (b.i+1)=true∧1=1∧w=w∧h=h∧qx (Cont.vals (flatC l)) (length l=length l∧
 nC w h=nC w h∧nC w h=nC w h∧qx (set b.m (Int.toNat b.i) b.i) (0=0∧qx (4*w*h) (qx zz1 (b.i+1=b.i+1∧(∃(n:Nat),b.i+1=(↑n:Int)∧n≤nC w h∧set b.m (Int.toNat
 b.i) b.i=ownL (nC w h) n)∧nC w h-Int.toNat (b.i+1)<nC w h-Int.toNat b.i∧True)))))∧(ltb b.i (4*w*h)=false→s5 w h∧1=1∧w=w∧h=h∧qx (Cont.vals (flatC l))
 (length l=length l∧nC w h=nC w h∧nC w h=nC w h∧b.m=b.m∧0=0∧([]:List AV)=[]∧0=0∧qx (4*w*h) (qx zz1 (qx zz6 (qx (Cont.vals (flatU (units w h))) (qx zz3 (0=0
 ∧iI 0=0∧(∃(k:Nat),0=(↑k:Int)∧k≤length (units w h)∧[]=pfl w h (opn l (take k (units w h)))∧0=length (opn l (take k (units w h))))∧∀(b_1:LI2),(fun(zz10:Bool)
 =>(fun(zz8:Bool)=>(∃(k:Nat),b_1.i=(↑k:Int)∧k≤length (units w h)∧b_1.l=pfl w h (opn l (take k (units w h)))∧b_1.n=length (opn l (take k (units w h))))→(ltb b_1.i
 (↑zz3:Int)=true→leb 0 b_1.i=true∧ltb b_1.i (↑zz3:Int)=true∧ltn 0 (Cont.size (Cont.vals (flatU (units w h))))=true∧(drop 0 (drop (Int.toNat b_1.i*2) (flatU (units w
 h))))[0]? =some (AV.int i64 (uC (units w h) b_1.i))∧leb 0 b_1.i=true∧ltb b_1.i (↑zz3:Int)=true∧ltn 0 (Cont.size (Cont.vals (flatU (units w h))))=true∧(drop 1 (drop
 (Int.toNat b_1.i*2) (flatU (units w h))))[0]? =some (AV.int u8 (uE (units w h) b_1.i))∧okA (flatC l) (length l)∧(zz10=true→leb 0 b_1.i=true∧ltb b_1.i (↑zz3:Int)=true∧ltn
 0 (Cont.size (Cont.vals (flatU (units w h))))=true∧(drop 0 (drop (Int.toNat b_1.i*2) (flatU (units w h))))[0]? =some (AV.int i64 (uC (units w h) b_1.i))∧leb 0 b_1.i=true∧ltb
 b_1.i (↑zz3:Int)=true∧ltn 0 (Cont.size (Cont.vals (flatU (units w h))))=true∧(drop 0 (drop (Int.toNat b_1.i*2) (flatU (units w h))))[0]? =some (AV.int i64 (uC (units w h)
 b_1.i))∧leb 0 b_1.i=true∧ltb b_1.i (↑zz3:Int)=true∧ltn 0 (Cont.size (Cont.vals (flatU (units w h))))=true∧(drop 1 (drop (Int.toNat b_1.i*2) (flatU (units w h))))[0]? =some
 (AV.int u8 (uE (units w h) b_1.i))∧inR i64 (uE (units w h) b_1.i)=true∧(s5 w h∧0≤uC (units w h) b_1.i∧uC (units w h) b_1.i<4*w*h∧0≤uE (units w h) b_1.i∧uE (units w h)
 b_1.i≤2)∧b_1.n=b_1.n∧len' ((b_1.n+1)*16) 140737488355328=true∧inR i64 (b_1.i+1)=true∧1=1∧w=w∧h=h∧qx (Cont.vals (flatC l)) (length l=length l∧nC w h=nC
 w h∧nC w h=nC w h∧b.m=b.m∧qx (b_1.n+1) (b_1.l++[AV.int i64 (uC (units w h) b_1.i),AV.int i64 (nbI w h (uC (units w h) b_1.i) (uE (units w h) b_1.i))]=b_1.l++[AV.int i64
 (uC (units w h) b_1.i),AV.int i64 (nbI w h (uC (units w h) b_1.i) (uE (units w h) b_1.i))]∧0=0∧qx (4*w*h) (qx zz1 (qx zz6 (qx (Cont.vals (flatU (units w h))) (qx zz3 (qx (b_1.n+
 1) (qx (b_1.i+1) ((∃(k:Nat),b_1.i+1=(↑k:Int)∧k≤length (units w h)∧b_1.l++[AV.int i64 (uC (units w h) b_1.i),AV.int i64 (nbI w h (uC (units w h) b_1.i) (uE (units w h)
 b_1.i))]=pfl w h (opn l (take k (units w h)))∧b_1.n+1=length (opn l (take k (units w h))))∧length (units w h)-Int.toNat (b_1.i+1)<length (units w h)-Int.toNat b_1.i∧
 True))))))))))∧(zz10=false→inR i64 (b_1.i+1)=true∧1=1∧w=w∧h=h∧qx (Cont.vals (flatC l)) (length l=length l∧nC w h=nC w h∧nC w h=nC w h∧b.m=b.m∧b_1.n=
 b_1.n∧b_1.l=b_1.l∧0=0∧qx (4*w*h) (qx zz1 (qx zz6 (qx (Cont.vals (flatU (units w h))) (qx zz3 (b_1.n=b_1.n∧qx (b_1.i+1) ((∃(k:Nat),b_1.i+1=(↑k:Int)∧k≤length
 (units w h)∧b_1.l=pfl w h (opn l (take k (units w h)))∧b_1.n=length (opn l (take k (units w h))))∧length (units w h)-Int.toNat (b_1.i+1)<length (units w h)-Int.toNat b_1.i
 ∧True)))))))))∧(ltb b_1.i (↑zz3:Int)=false→b_1.n=b_1.n∧1=1∧w=w∧h=h∧qx (Cont.vals (flatC l)) (length l=length l∧nC w h=nC w h∧nC w h=nC w h∧b.m=b.m∧
 b_1.n=b_1.n∧b_1.l=b_1.l∧qx (4*w*h) (qx zz1 (qx zz6 (qx (Cont.vals b_1.l) (b_1.n=b_1.n∧qx zz8 (true=true∧(LIv w h l b.m∧(true=false→eqUp w h l b.m zz12))∧∀(b_2:
 LI3),LIv w h l b_2.m∧(b_2.b=false→eqUp w h l b_2.m zz12)→(b_2.b=true→1=1∧w=w∧h=h∧qx (Cont.vals (flatC l)) (length l=length l∧nC w h=nC w h∧nC w h=nC w h∧
 b_2.m=b_2.m∧b_1.n=b_1.n∧b_1.l=b_1.l∧qx (4*w*h) (qx zz1 (qx zz6 (qx (Cont.vals b_1.l) (b_1.n=b_1.n∧qx zz8 (false=false∧iI 0=0∧(∃(n:Nat),0=(↑n:Int)∧n≤
 length (opn l (units w h))∧LIv w h l b_2.m∧(false=false→b_2.m=b_2.m∧eqUp w h l b_2.m n)∧(false=true→sumI b_2.m<sumI b_2.m))∧∀(b_3:LI4),(fun(zz4:Nat)=>(fun(zz2
 :Nat)=>(fun(zz0:List Int)=>(fun(zz9:List Int)=>(∃(n:Nat),b_3.i=(↑n:Int)∧n≤length (opn l (units w h))∧LIv w h l b_3.m∧(b_3.b=false→b_3.m=b_2.m∧eqUp w h l
 b_3.m n)∧(b_3.b=true→sumI b_3.m<sumI b_2.m))→(ltb b_3.i (↑b_1.n:Int)=true→leb 0 b_3.i=true∧ltb b_3.i (↑b_1.n:Int)=true∧ltn 0 (Cont.size (Cont.vals b_1.l))=true∧
 (drop 0 (drop (Int.toNat b_3.i*2) b_1.l))[0]? =some (AV.int i64 (paI w h l b_3.i))∧leb 0 b_3.i=true∧ltb b_3.i (↑b_1.n:Int)=true∧ltn 0 (Cont.size (Cont.vals b_1.l))=true∧
 (drop 1 (drop (Int.toNat b_3.i*2) b_1.l))[0]? =some (AV.int i64 (pbI w h l b_3.i))∧leb 0 (paI w h l b_3.i)=true∧ltb (paI w h l b_3.i) (↑zz1:Int)=true∧nC w h=Int.toNat (4*w
 *h)∧nC w h=Int.toNat (4*w*h)∧ltn zz2 (Cont.size (Cont.ints i64 b_3.m))=true∧leb 0 (pbI w h l b_3.i)=true∧ltb (pbI w h l b_3.i) (↑zz1:Int)=true∧nC w h=Int.toNat (4
 *w*h)∧nC w h=Int.toNat (4*w*h)∧ltn zz4 (Cont.size (Cont.ints i64 b_3.m))=true∧((getD b_3.m zz2 0 !=getD b_3.m zz4 0)=true→leb 0 (paI w h l b_3.i)=true∧ltb (paI w h
 l b_3.i) (↑zz1:Int)=true∧nC w h=Int.toNat (4*w*h)∧nC w h=Int.toNat (4*w*h)∧ltn zz2 (Cont.size (Cont.ints i64 b_3.m))=true∧leb 0 (pbI w h l b_3.i)=true∧ltb (pbI
 w h l b_3.i) (↑zz1:Int)=true∧nC w h=Int.toNat (4*w*h)∧nC w h=Int.toNat (4*w*h)∧ltn zz4 (Cont.size (Cont.ints i64 b_3.m))=true∧leb 0 (paI w h l b_3.i)=true∧ltb
 (paI w h l b_3.i) (↑zz1:Int)=true∧nC w h=Int.toNat (4*w*h)∧nC w h=Int.toNat (4*w*h)∧len' (Int.toNat (paI w h l b_3.i)+1) (Cont.size (Cont.ints i64 b_3.m))=true∧
 leb 0 (paI w h l b_3.i)=true∧ltb (paI w h l b_3.i) (↑zz1:Int)=true∧nC w h=Int.toNat (4*w*h)∧nC w h=Int.toNat (4*w*h)∧ltn zz2 (Cont.size (Cont.ints i64 zz0))=true
 ∧leb 0 (pbI w h l b_3.i)=true∧ltb (pbI w h l b_3.i) (↑zz1:Int)=true∧nC w h=Int.toNat (4*w*h)∧nC w h=Int.toNat (4*w*h)∧len' (Int.toNat (pbI w h l b_3.i)+1)
 (Cont.size (Cont.ints i64 zz0))=true∧inR i64 (b_3.i+1)=true∧1=1∧w=w∧h=h∧qx (Cont.vals (flatC l)) (length l=length l∧nC w h=nC w h∧nC w h=nC w h∧qx zz9
 (b_1.n=b_1.n∧b_1.l=b_1.l∧qx (4*w*h) (qx zz1 (qx zz6 (qx (Cont.vals b_1.l) (b_1.n=b_1.n∧qx zz8 (true=true∧qx (b_3.i+1) ((∃(n:Nat),b_3.i+1=(↑n:Int)∧n≤length
 (opn l (units w h))∧LIv w h l zz9∧(true=false→set zz0 zz4 (getD zz0 zz2 0)=b_2.m∧eqUp w h l zz9 n)∧(true=true→sumI zz9<sumI b_2.m))∧length (opn l (units w h))-
 Int.toNat (b_3.i+1)<length (opn l (units w h))-Int.toNat b_3.i∧True)))))))))∧((getD b_3.m zz2 0 !=getD b_3.m zz4 0)=false→inR i64 (b_3.i+1)=true∧1=1∧w=w∧h=h∧
 qx (Cont.vals (flatC l)) (length l=length l∧nC w h=nC w h∧nC w h=nC w h∧b_3.m=b_3.m∧b_1.n=b_1.n∧b_1.l=b_1.l∧qx (4*w*h) (qx zz1 (qx zz6 (qx (Cont.vals b_1.l)
 (b_1.n=b_1.n∧qx zz8 (b_3.b=b_3.b∧qx (b_3.i+1) ((∃(n:Nat),b_3.i+1=(↑n:Int)∧n≤length (opn l (units w h))∧LIv w h l b_3.m∧(b_3.b=false→b_3.m=b_2.m∧eqUp w h l
 b_3.m n)∧(b_3.b=true→sumI b_3.m<sumI b_2.m))∧length (opn l (units w h))-Int.toNat (b_3.i+1)<length (opn l (units w h))-Int.toNat b_3.i∧True)))))))))∧(ltb b_3.i (↑b_1.n
 :Int)=false→1=1∧w=w∧h=h∧qx (Cont.vals (flatC l)) (length l=length l∧nC w h=nC w h∧nC w h=nC w h∧b_3.m=b_3.m∧b_1.n=b_1.n∧b_1.l=b_1.l∧qx (4*w*h)
 (qx zz1 (qx zz6 (qx (Cont.vals b_1.l) (b_1.n=b_1.n∧qx zz8 (b_3.b=b_3.b∧(LIv w h l b_3.m∧(b_3.b=false→eqUp w h l b_3.m zz12))∧((2*Int.toNat (sumI b_3.m)+bif b_3.b then 1
 else 0)<2*Int.toNat (sumI b_2.m)+bif b_2.b then 1 else 0)∧True)))))))) (set zz0 zz4 (getD zz0 zz2 0))) (set b_3.m zz2 (if getD b_3.m zz4 0<getD b_3.m zz2 0 then getD b_3.m zz4 0
 else getD b_3.m zz2 0))) (Int.toNat (paI w h l b_3.i))) (Int.toNat (pbI w h l b_3.i)))))))))∧(b_2.b=false→leb 0 (4*w*h)=true∧leb (4*w*h) (4*w*h)=true∧leb (4*w*h
 *8) 140737488355328=true∧1=1∧w=w∧h=h∧qx (Cont.vals (flatC l)) (length l=length l∧nC w h=nC w h∧nC w h=nC w h∧b_2.m=b_2.m∧b_1.n=b_1.n∧b_1.l=b_1.l∧
 Int.toNat (4*w*h)=nC w h∧Int.toNat (4*w*h)=nC w h∧qx (replicate zz1 (0:Int)) (qx (4*w*h) (qx zz1 (qx zz6 (qx zz8 (b_2.b=b_2.b∧iI 0=0∧qx zz1 (iI 0=0∧(∃(n:
 Nat),0=(↑n:Int)∧n≤nC w h∧0=kP w h l n∧replicate zz1 (0:Int)=numL w h l n)∧∀(b_3:LI5),(fun(zz7:Nat)=>(fun(zz11:Int)=>(fun(zz5:List Int)=>(∃(n:Nat),
 b_3.i=(↑n:Int)∧n≤nC w h∧b_3.k=kP w h l n∧b_3.o=numL w h l n)→(ltb b_3.i (4*w*h)=true→leb 0 b_3.i=true∧ltb b_3.i (↑zz1:Int)=true∧nC w h=Int.toNat (4*w
 *h)∧nC w h=Int.toNat (4*w*h)∧ltn zz7 (Cont.size (Cont.ints i64 b_2.m))=true∧leb 0 zz11=true∧ltb zz11 (↑zz1:Int)=true∧nC w h=Int.toNat (4*w*h)∧nC w h=
 Int.toNat (4*w*h)∧ltn (Int.toNat zz11) (Cont.size (Cont.ints i64 b_3.o))=true∧leb 0 b_3.i=true∧ltb b_3.i (↑zz1:Int)=true∧nC w h=Int.toNat (4*w*h)∧nC w h=
 Int.toNat (4*w*h)∧len' (Int.toNat b_3.i+1) (Cont.size (Cont.ints i64 b_3.o))=true∧leb 0 b_3.i=true∧ltb b_3.i (↑zz1:Int)=true∧nC w h=Int.toNat (4*w*h)∧nC w h=
 Int.toNat (4*w*h)∧ltn zz7 (Cont.size (Cont.ints i64 b_2.m))=true∧((getD b_2.m zz7 0==b_3.i)=true→leb 0 b_3.i=true∧ltb b_3.i (↑zz1:Int)=true∧nC w h=Int.toNat (4*
 w*h)∧nC w h=Int.toNat (4*w*h)∧len' (Int.toNat b_3.i+1) (Cont.size (Cont.ints i64 zz5))=true∧inR i64 (b_3.k+1)=true∧inR i64 (b_3.i+1)=true∧1=1∧w=w∧h=h
 ∧qx (Cont.vals (flatC l)) (length l=length l∧nC w h=nC w h∧nC w h=nC w h∧b_2.m=b_2.m∧b_1.n=b_1.n∧b_1.l=b_1.l∧nC w h=nC w h∧nC w h=nC w h∧qx (set zz5 zz7
 b_3.k) (qx (4*w*h) (qx zz1 (qx zz6 (qx zz8 (b_2.b=b_2.b∧qx (b_3.k+1) (qx zz1 (qx (b_3.i+1) ((∃(n:Nat),b_3.i+1=(↑n:Int)∧n≤nC w h∧b_3.k+1=kP w h l n∧set zz5
 zz7 b_3.k=numL w h l n)∧nC w h-Int.toNat (b_3.i+1)<nC w h-Int.toNat b_3.i∧True))))))))))∧((getD b_2.m zz7 0==b_3.i)=false→inR i64 (b_3.i+1)=true∧1=1∧w=w∧h
 =h∧qx (Cont.vals (flatC l)) (length l=length l∧nC w h=nC w h∧nC w h=nC w h∧b_2.m=b_2.m∧b_1.n=b_1.n∧b_1.l=b_1.l∧nC w h=nC w h∧nC w h=nC w h∧qx zz5 (qx (4*
 w*h) (qx zz1 (qx zz6 (qx zz8 (b_2.b=b_2.b∧b_3.k=b_3.k∧qx zz1 (qx (b_3.i+1) ((∃(n:Nat),b_3.i+1=(↑n:Int)∧n≤nC w h∧b_3.k=kP w h l n∧set b_3.o zz7 (getD b_3.o
 (Int.toNat zz11) 0)=numL w h l n)∧nC w h-Int.toNat (b_3.i+1)<nC w h-Int.toNat b_3.i∧True))))))))))∧(ltb b_3.i (4*w*h)=false→nC w h=nC w h∧nC w h=nC w h∧b_3.o
 =facL w h l∧Int.toNat (4*w*h)=nC w h∧True)) (set b_3.o zz7 (getD b_3.o (Int.toNat zz11) 0))) (getD b_2.m zz7 0)) (Int.toNat b_3.i))))))))))))))))) (ltb b_1.i (↑zz3:Int))) (crI
 (unC (flatC l)) (uC (units w h) b_1.i) (uE (units w h) b_1.i)==0))))))))) (ltb b.i (4*w*h))))))) (Int.toNat (4*w*h))) (length (units w h))) (length (opn l (units w h)))):=by kernel_rfl

end Go.Proofs.YtfpcbimohikhmaaDoor.X
