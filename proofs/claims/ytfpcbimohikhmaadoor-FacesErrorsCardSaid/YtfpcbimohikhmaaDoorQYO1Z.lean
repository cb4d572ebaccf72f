/-
 What is to be shown of the functions (made by a program).
-/
import Derived.Test.YtfpcbimohikhmaaDoorQYD1Z
import Derived.KernelRfl
set_option maxRecDepth 1000000
set_option linter.unusedVariables false
namespace Go.Proofs.YtfpcbimohikhmaaDoor.X
open Go Go.Ab
open List IntKind

theorem ob_o83 (w h:Int)(l:List Cr):fnP (T0) G 10000 fe83 (.r [] 0 (.r [] 1 (.r [] 1 (.lp (l83 l) [] [] (fun b=>(.r [] 0 (.cnd (.r [(321,.auto,Dr.val (crV l b.i))] 64 (.r [] 3 (.r [] 0 .nil))) (.r [] 0 .nil)))))))) ([patV w h l]) ([.mp 0]) ([blkMf (crF l).1 (crF l).2])=(
 1=1∧w=w∧h=h∧qx (Cont.vals (flatC l)) (length l=length l∧0=0∧([]:List Ent3)=[]∧0=0∧qx (Cont.vals (flatC l)) (length l=length l∧ql l (iI 0=0∧(∃(n:Nat),
 0=(↑n:Int)∧n≤length l∧[]=(crF (take n l)).fst∧0=(crF (take n l)).snd)∧∀(b:L83),(∃(n:Nat),b.i=(↑n:Int)∧n≤length l∧b.es=(crF (take n l)).fst∧b.ck=(crF
 (take n l)).snd)→(ltb b.i (↑(length l):Int)=true→leb 0 b.i=true∧ltb b.i (↑(length l):Int)=true∧ltn 0 (Cont.size (Cont.vals (flatC l)))=true∧(drop (Int.toNat b.i*3)
 (flatC l))[0]? =some (AV.int i64 (cC l b.i))∧(drop (Int.toNat b.i*3) (flatC l))[1]? =some (AV.int u8 (cE l b.i))∧(drop (Int.toNat b.i*3) (flatC l))[2]? =some (AV.int u8 (cK l
 b.i))∧inR i64 (b.i+1)=true∧1=1∧w=w∧h=h∧qx (Cont.vals (flatC l)) (length l=length l∧0=0∧mput b.es [cC l b.i,cE l b.i] [1] b.ck=mput b.es [cC l b.i,cE l b.i]
 [1] b.ck∧mck b.es [cC l b.i,cE l b.i] b.ck=mck b.es [cC l b.i,cE l b.i] b.ck∧qx (Cont.vals (flatC l)) (length l=length l∧ql l (b.i+1=b.i+1∧(∃(n:Nat),b.i+1=(↑n:
 Int)∧n≤length l∧mput b.es [cC l b.i,cE l b.i] [1] b.ck=(crF (take n l)).fst∧mck b.es [cC l b.i,cE l b.i] b.ck=(crF (take n l)).snd)∧length l-Int.toNat (b.i+1)<length l
 -Int.toNat b.i∧True))))∧(ltb b.i (↑(length l):Int)=false→0=0∧b.es=(crF l).fst∧b.ck=(crF l).snd∧True))))):=by kernel_rfl

theorem ob_o122 (y:Int):fnP (T0) G 10000 fe122 (.r [] 0 (.r [] 0 (.r [] 1 (.r [] 0 (.r [] 1 (.r [] 0 (.r [] 2 (.r [] 0 (.r [] 1 (.r [] 0 (.r [] 4 (.r [] 0 .nil)))))))))))) ([.int .u64 1,.int .u64 y]) ([.int .u64 0,.int .u64 y]) ([])=(
 inR u64 (1*bitI BinOp.and u64 y 4294967295)=true∧inR u64 (0*bitI BinOp.and u64 y 4294967295)=true∧inR u64 (0*bitI BinOp.and u64 y 4294967295+Int.fdiv (1*bitI BinOp.and u64 y
 4294967295) 4294967296)=true∧inR u64 (1*Int.fdiv y 4294967296)=true∧inR u64 (bitI BinOp.and u64 (0*bitI BinOp.and u64 y 4294967295+Int.fdiv (1*bitI BinOp.and u64 y 4294967295)
 4294967296) 4294967295+1*Int.fdiv y 4294967296)=true∧inR u64 (0*Int.fdiv y 4294967296)=true∧inR u64 (0*Int.fdiv y 4294967296+Int.fdiv (0*bitI BinOp.and u64 y 4294967295+Int.fdiv
 (1*bitI BinOp.and u64 y 4294967295) 4294967296) 4294967296)=true∧inR u64 (0*Int.fdiv y 4294967296+Int.fdiv (0*bitI BinOp.and u64 y 4294967295+Int.fdiv (1*bitI BinOp.and u64 y
 4294967295) 4294967296) 4294967296+Int.fdiv (bitI BinOp.and u64 (0*bitI BinOp.and u64 y 4294967295+Int.fdiv (1*bitI BinOp.and u64 y 4294967295) 4294967296) 4294967295+1*Int.fdiv y
 4294967296) 4294967296)=true∧inR u64 (1*y)=true∧0*Int.fdiv y 4294967296+Int.fdiv (0*bitI BinOp.and u64 y 4294967295+Int.fdiv (1*bitI BinOp.and u64 y 4294967295) 4294967296)
 4294967296+Int.fdiv (bitI BinOp.and u64 (0*bitI BinOp.and u64 y 4294967295+Int.fdiv (1*bitI BinOp.and u64 y 4294967295) 4294967296) 4294967295+1*Int.fdiv y 4294967296) 4294967296=0∧1*
 y=y∧True):=by kernel_rfl

theorem ob_o99 (y:Int):fnP (YA) G 10000 fe99 (.r [] 0 (.lit (.r [] 6 (.r [] 0 .nil)))) ([.int .u64 1,.int .u64 y]) ([.int .u64 0,.int .u64 y]) ([])=(
 (iI 1=1∧0≤y∧y<101)∧iI 0=0∧y=y∧True):=by kernel_rfl

theorem ob_o84 (x z:Int):fnP (YB) G 10000 fe84 (.r [] 0 (.r [] 0 (.ff (.r [] 25 (.r [] 3 (.ff (.jn (j84 z) [6,26] [] (.r [] 0 .nil) (fun b=>(.r [] 9 (.lp (l84 x (b.k+1)) [] [] (fun b_1=>(.r [] 0 (.cnd (.br (leb (2*b_1.i) (↑(b.k+1):Int)) (.r [(643,.auto,Dr.pk false),(646,.auto,Dr.wrap)] 0 .nil) (.r [(643,.auto,Dr.pk false),(646,.auto,Dr.wrap),(647,.auto,Dr.pk false)] 0 .nil)) (.r [] 0 .nil)))))))))))))) ([.imm (.ints .i64 [x]) 1 none,.int .i64 z]) ([.full 0 z.toNat]) ([rpB x z.toNat])=(
 ltb z 0=false∧inR u64 z=true∧(iI 1=1∧0≤z∧z<101)∧ltb 9223372036854775807 z=false∧(inR i64 z=true∧leb 0 z=true∧leb z z=true∧leb (z*8) 140737488355328=
 true∧Int.toNat z=Int.toNat z-1+1∧Int.toNat z=Int.toNat z-1+1∧qx (replicate (Int.toNat z) (0:Int)) (Cont.ints i64 [x]=Cont.ints i64 [x]∧1=1∧Int.toNat z=Int.toNat
 z-1+1∧(length (replicate (Int.toNat z) (0:Int))=Int.toNat z-1+1∧(↑(Int.toNat z-1):Int)+1=z)∧True))∧∀(b:J84),length b.l=b.k+1∧(↑b.k:Int)+1=z→
 Nat.ble (0+(b.k+1)) (length b.l)=true∧b.k+1=Option.getD (some (b.k+1)) (b.k+1)∧b.k+1=b.k+1∧b.k+1=b.k+1∧x::drop 1 b.l=x::drop 1 b.l∧b.k+1=b.k+1
 ∧iI 1=1∧(∃(m:Nat),1=(↑m:Int)∧0<m∧m≤b.k+1∧length (x::drop 1 b.l)=b.k+1∧∀(j:Nat),j<m→getD (x::drop 1 b.l) j 0=x)∧∀(b_1:L84),(fun(zz0:Nat)
 =>(∃(m:Nat),b_1.i=(↑m:Int)∧0<m∧m≤b.k+1∧length b_1.l=b.k+1∧∀(j:Nat),j<m→getD b_1.l j 0=x)→b.k+1=b.k+1∧(ltb b_1.i (↑(b.k+1):Int)=true→
 (leb (2*b_1.i) (↑(b.k+1):Int)=true→b.k+1=b.k+1∧leb 0 b_1.i=true∧ltn zz0 (b.k+1)=true∧b.k+1=b.k+1∧leb 0 b_1.i=true∧len' zz0 (b.k+1)=true∧Nat.ble
 zz0 (b.k+1-Int.toNat b_1.i)=true∧Nat.ble (Int.toNat b_1.i+(b.k+1-Int.toNat b_1.i)) (length b_1.l)=true∧b.k+1=Option.getD (some (b.k+1)) (b.k+1)∧b.k+1=b.k+1
 ∧inR i64 (b_1.i+(↑zz0:Int))=true∧b.k+1=b.k+1∧b.k+1=b.k+1∧qx (putA b_1.l (take zz0 (drop 0 b_1.l)) zz0 zz0) (b.k+1=b.k+1∧qx (b_1.i+(↑zz0:Int)) ((∃(m:
 Nat),b_1.i+(↑zz0:Int)=(↑m:Int)∧0<m∧m≤b.k+1∧length (putA b_1.l (take zz0 (drop 0 b_1.l)) zz0 zz0)=b.k+1∧∀(j:Nat),j<m→getD (putA b_1.l (take zz0 (drop 0
 b_1.l)) zz0 zz0) j 0=x)∧b.k+1-Int.toNat (b_1.i+(↑zz0:Int))<b.k+1-Int.toNat b_1.i∧True)))∧(leb (2*b_1.i) (↑(b.k+1):Int)=false→b.k+1=b.k+1∧leb 0 b_1.i=
 true∧ltn zz0 (b.k+1)=true∧b.k+1=b.k+1∧leb 0 b_1.i=true∧len' zz0 (b.k+1)=true∧Nat.ble (b.k+1-Int.toNat b_1.i) zz0=true∧Nat.ble (Int.toNat b_1.i+(b.k+1-
 Int.toNat b_1.i)) (length b_1.l)=true∧b.k+1=Option.getD (some (b.k+1)) (b.k+1)∧b.k+1=b.k+1∧inR i64 (b_1.i+(↑(b.k+1-Int.toNat b_1.i):Int))=true∧b.k+1=b.k
 +1∧b.k+1=b.k+1∧qx (putA b_1.l (take (b.k+1-Int.toNat b_1.i) (take zz0 (drop 0 b_1.l))) zz0 (b.k+1-Int.toNat b_1.i)) (b.k+1=b.k+1∧qx (b_1.i+(↑(b.k+1-Int.toNat
 b_1.i):Int)) ((∃(m:Nat),b_1.i+(↑(b.k+1-Int.toNat b_1.i):Int)=(↑m:Int)∧0<m∧m≤b.k+1∧length (putA b_1.l (take (b.k+1-Int.toNat b_1.i) (take zz0 (drop 0
 b_1.l))) zz0 (b.k+1-Int.toNat b_1.i))=b.k+1∧∀(j:Nat),j<m→getD (putA b_1.l (take (b.k+1-Int.toNat b_1.i) (take zz0 (drop 0 b_1.l))) zz0 (b.k+1-Int.toNat b_1.i)) j 0
 =x)∧b.k+1-Int.toNat (b_1.i+(↑(b.k+1-Int.toNat b_1.i):Int))<b.k+1-Int.toNat b_1.i∧True))))∧(ltb b_1.i (↑(b.k+1):Int)=false→b.k+1=Int.toNat z∧b.k+1=
 Int.toNat z∧b_1.l=replicate (Int.toNat z) x∧b.k+1=Int.toNat z∧True)) (Int.toNat b_1.i)):=by kernel_rfl

theorem ob_o85 (w h:Int):fnP (YC) G 10000 fe85 (.r [] 0 (.r [] 3 (.cnd (.r [] 0 .nil) (.r [] 5 .nil)))) ([.agg [.int .i64 w,.int .i64 h]]) ([.int .i64 (bI (okS w h) (4*w*h) 0)]) ([])=(
 ((bI (okS w h) 0 1 !=0)=true→0=bI (okS w h) (4*w*h) 0∧True)∧((bI (okS w h) 0 1 !=0)=false→inR i64 (4*w)=true∧inR i64 (4*w*h)=true∧4*w*h=bI (okS w h) (4*w*h)
 0∧True)):=by kernel_rfl

theorem ob_o82 (a:List Int):fnP (T0) G 10000 fe82 (.r [] 0 (.r [] 5 .nil)) ([.imm (.ints .i64 a) a.length none]) ([.imm (.ints .i64 a) a.length (some a.length)]) ([])=(
 Int.toNat (↑(length a):Int)=length a∧Int.toNat (↑(length a):Int)=length a∧Cont.size (Cont.ints i64 a)=length a∧Cont.ints i64 a=Cont.ints i64 a∧length a=length a∧length a=
 length a∧True):=by kernel_rfl

theorem ob_o78 (a:List Int):fnP (T0) G 10000 fe78 (.r [] 0 (.r [] 0 (.ff (.r [] 1 (.r [] 0 (.lp (l78 a) [] [] (fun b=>(.r [] 0 (.cnd (.r [] 0 (.r [] 0 .nil)) (.r [] 0 .nil)))))))))) ([.imm (.ints .i64 a) a.length none]) ([.int .i64 (maxL a)]) ([])=(
 ltb (↑(length a):Int) 1=false∧ltb 0 (↑(length a):Int)=true∧ltn 0 (Cont.size (Cont.ints i64 a))=true∧ltn 0 (Cont.size (Cont.ints i64 (drop 0 a)))=true∧qs i64 a (getD (drop
 0 a) 0 0=(1,getD (drop 0 a) 0 0).snd∧iI 1=1∧(∃(n:Nat),1=(↑n:Int)∧1≤n∧n≤length a∧(1,getD (drop 0 a) 0 0).snd=maxL (take n a))∧∀(b:Int×Int),(fun(zz0:
 List Int)=>(∃(n:Nat),b.fst=(↑n:Int)∧1≤n∧n≤length a∧b.snd=maxL (take n a))→(ltb b.fst (↑(length a):Int)=true→rd i64 a b.fst (inR i64 (b.fst+1)=true∧qs i64
 a ((if getD zz0 0 0>b.snd then getD zz0 0 0 else b.snd)=(b.fst+1,if getD zz0 0 0>b.snd then getD zz0 0 0 else b.snd).snd∧b.fst+1=(b.fst+1,if getD zz0 0 0>b.snd then getD
 zz0 0 0 else b.snd).fst∧(∃(n:Nat),(b.fst+1,if getD zz0 0 0>b.snd then getD zz0 0 0 else b.snd).fst=(↑n:Int)∧1≤n∧n≤length a∧(b.fst+1,if getD zz0 0 0>b.snd then
 getD zz0 0 0 else b.snd).snd=maxL (take n a))∧length a-Int.toNat (b.fst+1)<length a-Int.toNat b.fst∧True)))∧(ltb b.fst (↑(length a):Int)=false→b.snd=maxL a∧True))
 (drop (Int.toNat b.fst) a))):=by kernel_rfl

theorem ob_d_86 (w h:Int)(l:List Cr)(m:Nat):fnD (YG) G 10000 (fe86) (.r [] 3 (.r [(129,.auto,Dr.pk true)] 0 (.lp (l86 w h l m) [] [] (fun b=>(.r [] 0 (.cnd (.r [] 65 (.r [] 0 (.lp (m86 w h l m (getD b.q b.d 0) (unl b.out+(length b.q-(b.d+1)))) [] [] (fun b_1=>(.r [] 0 (.cnd (.r [] 0 (.r [] 13 (.rs 3 [] 0 38 (.rs 7 [] 193 45 (.r [] 7 (.cnd (.r [] 1 (.r [] 4 (.r [] 0 .nil))) (.r [] 0 .nil))) (.r [] 3 (.lit (.r [] 0 .nil)))) (.r [] 15 (.lit (.r [] 0 .nil)))))) .nil)))))) .nil)))))) ([.int .i64 m,.int .i64 (kP w h l m),.ptr 389 0,.ptr 64 0,.ptr 322 0]) (hpF w h l (labF w h l m)) ([]) ([(24832,rowO (labF w h l (m+1)) (nC w h))])=(
 (fun(zz3:List Int)=>ltb (↑m:Int) (↑(nC w h):Int)=true∧nC w h=nC w h∧nC w h=nC w h∧len' (Int.toNat (↑m:Int)+1) (Cont.size (Cont.ints i64 (labF w h l m)))=true∧0=
 0∧(crF l).fst=(crF l).fst∧(crF l).snd=(crF l).snd∧1=1∧1=1∧w=w∧h=h∧qx (Cont.vals (flatC l)) (length l=length l∧nC w h=nC w h∧nC w h=nC w h∧qx zz3 (1=1
 ∧nC w h=nC w h∧[(↑m:Int)]=[(↑m:Int)]∧0=0∧qx (kP w h l m) (0=0∧0=0∧0=0∧0=0∧0=0∧(0≤1∧unl zz3+1≤nC w h+1∧∃(cur:Int),GI w h l m zz3 [(↑m:
 Int)] cur 3)∧∀(b:LG),(fun(zz4:Int)=>(fun(zz0:Int)=>(b.d≤length b.q∧unl b.out+(length b.q-b.d)≤nC w h+1∧∃(cur:Int),GI w h l m b.out (drop b.d b.q) cur 3)→
 b.v=b.v∧(ltb 0 (↑(length b.q-b.d):Int)=true→ltn (b.d+0) (length b.q)=true∧b.v=b.v∧b.v=b.v∧ltn (b.d+0) (length b.q)=true∧b.v=b.v∧len' (b.d+1) (length
 b.q)=true∧0=0∧(crF l).fst=(crF l).fst∧(crF l).snd=(crF l).snd∧1=1∧1=1∧w=w∧h=h∧qx (Cont.vals (flatC l)) (length l=length l∧nC w h=nC w h∧nC w h=nC w
 h∧b.out=b.out∧1=1∧nC w h=nC w h∧b.q=b.q∧b.v=b.v∧qx (kP w h l m) (0=0∧0=0∧0=0∧b.v=b.v∧b.d+1=b.d+1∧qx zz0 (iI 0=0∧(b.d+1≤length b.q∧iI 0
 ≤iI 0∧iI 0≤iI 3∧GI w h l m b.out (drop (b.d+1) b.q) zz4 0∧unl b.out+(length b.q-(b.d+1))=unl b.out+(length b.q-(b.d+1)))∧∀(b_1:LH),(fun(zz5:List Int)=>
 (fun(zz2:Bool)=>(fun(zz1:Nat)=>b_1.d≤length b_1.q∧0≤b_1.k∧b_1.k≤3∧GI w h l m b_1.out zz5 zz4 b_1.k∧unl b_1.out+(length b_1.q-b_1.d)=unl b.out+(length b.q-
 (b.d+1))→(ltb b_1.k 3=true→0≤b_1.k∧((neE w h zz0 b_1.k==0)=true→leb 0 (bI (okN w h zz0 b_1.k) (nbI w h zz0 b_1.k) 0)=true∧ltb (bI (okN w h zz0 b_1.k) (nbI w h zz0
 b_1.k) 0) (↑(nC w h):Int)=true∧nC w h=nC w h∧nC w h=nC w h∧ltn zz1 (Cont.size (Cont.ints i64 b_1.out))=true∧(ltb (getD b_1.out zz1 0) 0=true→(zz2=true→leb 0 (bI
 (okN w h zz0 b_1.k) (nbI w h zz0 b_1.k) 0)=true∧ltb (bI (okN w h zz0 b_1.k) (nbI w h zz0 b_1.k) 0) (↑(nC w h):Int)=true∧nC w h=nC w h∧nC w h=nC w h∧len' (Int.toNat (bI (okN
 w h zz0 b_1.k) (nbI w h zz0 b_1.k) 0)+1) (Cont.size (Cont.ints i64 b_1.out))=true∧b_1.v=b_1.v∧len' ((length b_1.q-b_1.d+1)*8) 140737488355328=true∧inR u8 (b_1.k+1)=
 true∧0=0∧(crF l).fst=(crF l).fst∧(crF l).snd=(crF l).snd∧1=1∧1=1∧w=w∧h=h∧qx (Cont.vals (flatC l)) (length l=length l∧nC w h=nC w h∧nC w h=nC w h∧qx
 (set b_1.out zz1 (kP w h l m)) (1=1∧nC w h=nC w h∧drop b_1.d b_1.q++[bI (okN w h zz0 b_1.k) (nbI w h zz0 b_1.k) 0]=drop b_1.d b_1.q++[bI (okN w h zz0 b_1.k) (nbI w h zz0 b_1.k)
 0]∧qx (b_1.v+1) (qx (kP w h l m) (0=0∧0=0∧0=0∧qx (b_1.v+1) (0=0∧qx zz0 (qx (b_1.k+1) ((0≤length (drop b_1.d b_1.q++[bI (okN w h zz0 b_1.k) (nbI w h zz0 b_1.k) 0])
 ∧0≤b_1.k+1∧b_1.k+1≤3∧GI w h l m (set b_1.out zz1 (kP w h l m)) (drop 0 (drop b_1.d b_1.q++[bI (okN w h zz0 b_1.k) (nbI w h zz0 b_1.k) 0])) zz4 (b_1.k+1)∧unl (set b_1.out
 zz1 (kP w h l m))+(length (drop b_1.d b_1.q++[bI (okN w h zz0 b_1.k) (nbI w h zz0 b_1.k) 0])-0)=unl b.out+(length b.q-(b.d+1)))∧3-Int.toNat (b_1.k+1)<3-Int.toNat
 b_1.k∧True))))))))∧(zz2=false→inR u8 (b_1.k+1)=true∧0=0∧(crF l).fst=(crF l).fst∧(crF l).snd=(crF l).snd∧1=1∧1=1∧w=w∧h=h∧qx (Cont.vals (flatC l))
 (length l=length l∧nC w h=nC w h∧nC w h=nC w h∧b_1.out=b_1.out∧1=1∧nC w h=nC w h∧b_1.q=b_1.q∧b_1.v=b_1.v∧qx (kP w h l m) (0=0∧0=0∧0=0∧b_1.v=
 b_1.v∧b_1.d=b_1.d∧qx zz0 (qx (b_1.k+1) ((b_1.d≤length b_1.q∧0≤b_1.k+1∧b_1.k+1≤3∧GI w h l m b_1.out zz5 zz4 (b_1.k+1)∧unl b_1.out+(length b_1.q-b_1.d)=unl
 b.out+(length b.q-(b.d+1)))∧3-Int.toNat (b_1.k+1)<3-Int.toNat b_1.k∧True))))))∧(ltb (getD b_1.out zz1 0) 0=false→inR u8 (b_1.k+1)=true∧0=0∧(crF l).fst=
 (crF l).fst∧(crF l).snd=(crF l).snd∧1=1∧1=1∧w=w∧h=h∧qx (Cont.vals (flatC l)) (length l=length l∧nC w h=nC w h∧nC w h=nC w h∧b_1.out=b_1.out∧1=1∧nC w
 h=nC w h∧b_1.q=b_1.q∧b_1.v=b_1.v∧qx (kP w h l m) (0=0∧0=0∧0=0∧b_1.v=b_1.v∧b_1.d=b_1.d∧qx zz0 (qx (b_1.k+1) ((b_1.d≤length b_1.q∧0≤b_1.k+1∧b_1.k+
 1≤3∧GI w h l m b_1.out zz5 zz4 (b_1.k+1)∧unl b_1.out+(length b_1.q-b_1.d)=unl b.out+(length b.q-(b.d+1)))∧3-Int.toNat (b_1.k+1)<3-Int.toNat b_1.k∧True))))))∧
 ((neE w h zz0 b_1.k==0)=false→inR u8 (b_1.k+1)=true∧0=0∧(crF l).fst=(crF l).fst∧(crF l).snd=(crF l).snd∧1=1∧1=1∧w=w∧h=h∧qx (Cont.vals (flatC l))
 (length l=length l∧nC w h=nC w h∧nC w h=nC w h∧b_1.out=b_1.out∧1=1∧nC w h=nC w h∧b_1.q=b_1.q∧b_1.v=b_1.v∧qx (kP w h l m) (0=0∧0=0∧0=0∧b_1.v=
 b_1.v∧b_1.d=b_1.d∧qx zz0 (qx (b_1.k+1) ((b_1.d≤length b_1.q∧0≤b_1.k+1∧b_1.k+1≤3∧GI w h l m b_1.out zz5 zz4 (b_1.k+1)∧unl b_1.out+(length b_1.q-b_1.d)=unl
 b.out+(length b.q-(b.d+1)))∧3-Int.toNat (b_1.k+1)<3-Int.toNat b_1.k∧True))))))∧(ltb b_1.k 3=false→0=0∧(crF l).fst=(crF l).fst∧(crF l).snd=(crF l).snd∧1=
 1∧1=1∧w=w∧h=h∧qx (Cont.vals (flatC l)) (length l=length l∧nC w h=nC w h∧nC w h=nC w h∧b_1.out=b_1.out∧1=1∧nC w h=nC w h∧b_1.q=b_1.q∧b_1.v=b_1.v∧
 qx (kP w h l m) (0=0∧0=0∧0=0∧b_1.v=b_1.v∧b_1.d=b_1.d∧(b_1.d≤length b_1.q∧unl b_1.out+(length b_1.q-b_1.d)≤nC w h+1∧∃(cur:Int),GI w h l m b_1.out zz5 cur
 3)∧unl b_1.out+(length b_1.q-b_1.d)<unl b.out+(length b.q-b.d)∧True)))) (Int.toNat (bI (okN w h zz0 b_1.k) (nbI w h zz0 b_1.k) 0))) (!getD (Option.getD (mget (crF l).fst [if bI
 (okN w h zz0 b_1.k) (nbI w h zz0 b_1.k) 0<getD b.q (b.d+0) 0 then bI (okN w h zz0 b_1.k) (nbI w h zz0 b_1.k) 0 else getD b.q (b.d+0) 0,b_1.k]) []) 0 0 !=0)) (drop b_1.d b_1.q)))))∧
 (ltb 0 (↑(length b.q-b.d):Int)=false→0=0∧(crF l).fst=(crF l).fst∧(crF l).snd=(crF l).snd∧1=1∧1=1∧w=w∧h=h∧qx (Cont.vals (flatC l)) (length l=length l∧
 nC w h=nC w h∧nC w h=nC w h∧b.out=labF w h l (m+1)∧1=1∧nC w h=nC w h∧True))) (getD b.q (b.d+0) 0)) (getD b.q b.d 0))))) (set (labF w h l m) (Int.toNat (↑m:Int)) (kP
 w h l m))):=by kernel_rfl

end Go.Proofs.YtfpcbimohikhmaaDoor.X
