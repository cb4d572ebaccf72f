/-
 What is to be shown of the functions (made by a program).
-/
import Derived.Test.YtfpcbimohikhmaaDoorQYD8Z
import Derived.KernelRfl
set_option maxRecDepth 1000000
set_option linter.unusedVariables false
namespace Go.Proofs.YtfpcbimohikhmaaDoor.X
open Go Go.Ab
open List IntKind

theorem ob_o41 (w h:Int):fnP (T0) G 10000 fe41 (.r [] 0 (.r [] 0 (.r [] 0 (.gho 3 9001 3 (Cont.vals []) (.lp (l41 w h) [] [] (fun b=>(.r [] 1 (.cnd (.r [] 0 (.lp (m41 w b.i) [] [] (fun b_1=>(.r [] 1 (.cnd (.r [] 0 (.lp (kc41 w b.i b_1.i) [] [] (fun b_2=>(.r [] 0 (.cnd (.r [] 4 (.r [] 0 .nil)) (.r [] 0 .nil)))))) (.r [] 0 .nil)))))) (.r [] 0 (.frz 2 0 .nil)))))))))) ([.agg [.int .i64 w,.int .i64 h]]) ([.imm (.vals (cvA w (nC w h))) (nC w h) none]) ([])=(
 1=1∧w=w∧h=h∧0=0∧([]:List AV)=[]∧0=0∧0=0∧iI 0=0∧(∃(y:Nat),0=(↑y:Int)∧(↑y:Int)≤h∧0=4*(y*Int.toNat w)∧([]:List AV)=[])∧∀(b:LI2),(∃(y:
 Nat),b.i=(↑y:Int)∧(↑y:Int)≤h∧b.n=4*(y*Int.toNat w)∧b.l=cvA w b.n)→(ltb b.i h=true→1=1∧w=w∧h=h∧b.n=b.n∧b.l=b.l∧0=0∧b.n=b.n∧b.i=b.i∧iI 0=0
 ∧(∃(x:Nat),0=(↑x:Int)∧(↑x:Int)≤w∧b.n=4*(Int.toNat b.i*Int.toNat w+x)∧b.l=cvA w b.n)∧∀(b_1:LI2),(∃(x:Nat),b_1.i=(↑x:Int)∧(↑x:Int)≤w∧b_1.n=4*
 (Int.toNat b.i*Int.toNat w+x)∧b_1.l=cvA w b_1.n)→(ltb b_1.i w=true→1=1∧w=w∧h=h∧b_1.n=b_1.n∧b_1.l=b_1.l∧0=0∧b_1.n=b_1.n∧b.i=b.i∧b_1.i=b_1.i∧iI 0=0∧
 (∃(q:Nat),0=(↑q:Int)∧q≤4∧b_1.n=4*(Int.toNat b.i*Int.toNat w+Int.toNat b_1.i)+q∧b_1.l=cvA w b_1.n)∧∀(b_2:LI2),(∃(q:Nat),b_2.i=(↑q:Int)∧q≤4∧b_2.n=4*
 (Int.toNat b.i*Int.toNat w+Int.toNat b_1.i)+q∧b_2.l=cvA w b_2.n)→(ltb b_2.i 4=true→b_2.n=b_2.n∧len' ((b_2.n+1)*24) 140737488355328=true∧inR u8 (b_2.i+1)=true∧1=1∧
 w=w∧h=h∧b_2.n+1=b_2.n+1∧b_2.l++[AV.int i64 b_1.i,AV.int i64 b.i,AV.int u8 b_2.i]=b_2.l++[AV.int i64 b_1.i,AV.int i64 b.i,AV.int u8 b_2.i]∧0=0∧b_2.n+1=b_2.n+1∧
 b.i=b.i∧b_1.i=b_1.i∧b_2.i+1=b_2.i+1∧(∃(q:Nat),b_2.i+1=(↑q:Int)∧q≤4∧b_2.n+1=4*(Int.toNat b.i*Int.toNat w+Int.toNat b_1.i)+q∧b_2.l++[AV.int i64 b_1.i,
 AV.int i64 b.i,AV.int u8 b_2.i]=cvA w (b_2.n+1))∧4-Int.toNat (b_2.i+1)<4-Int.toNat b_2.i∧True)∧(ltb b_2.i 4=false→inR i64 (b_1.i+1)=true∧1=1∧w=w∧h=h∧b_2.n=
 b_2.n∧b_2.l=b_2.l∧0=0∧b_2.n=b_2.n∧b.i=b.i∧b_1.i+1=b_1.i+1∧(∃(x:Nat),b_1.i+1=(↑x:Int)∧(↑x:Int)≤w∧b_2.n=4*(Int.toNat b.i*Int.toNat w+x)∧b_2.l=cvA
 w b_2.n)∧Int.toNat w-Int.toNat (b_1.i+1)<Int.toNat w-Int.toNat b_1.i∧True))∧(ltb b_1.i w=false→inR i64 (b.i+1)=true∧1=1∧w=w∧h=h∧b_1.n=b_1.n∧b_1.l=b_1.l∧0=
 0∧b_1.n=b_1.n∧b.i+1=b.i+1∧(∃(y:Nat),b.i+1=(↑y:Int)∧(↑y:Int)≤h∧b_1.n=4*(y*Int.toNat w)∧b_1.l=cvA w b_1.n)∧Int.toNat h-Int.toNat (b.i+1)<Int.toNat h-
 Int.toNat b.i∧True))∧(ltb b.i h=false→b.n=b.n∧Cont.vals b.l=Cont.vals (cvA w (nC w h))∧b.n=nC w h∧True)):=by kernel_rfl

theorem ob_o10 (W H:Int)(ls:List Int):fnP (T10) G 10000 fe10 (.r [] 0 (.r [] 0 (.cnd (.r [] 0 .nil) (.r [] 5 (.r [] 1 (.r [] 1 (.r [] 1 (.r [] 0 (.lp (l10 (dim5 W) (units (dim5 W) (dim5 H)) ls) [] [] (fun b=>(.r [] 0 (.cnd (.r [(714,.auto,Dr.val [AV.int i64 (uC (units (dim5 W) (dim5 H)) (modU (units (dim5 W) (dim5 H)) (gI ls (Int.toNat b.i)))),AV.int u8 (uE (units (dim5 W) (dim5 H)) (modU (units (dim5 W) (dim5 H)) (gI ls (Int.toNat b.i))))])] 2048 (.r [(772,.auto,Dr.val [AV.int i64 (qX (dim5 W) (uC (units (dim5 W) (dim5 H)) (modU (units (dim5 W) (dim5 H)) (gI ls (Int.toNat b.i))))),AV.int i64 (qY (dim5 W) (uC (units (dim5 W) (dim5 H)) (modU (units (dim5 W) (dim5 H)) (gI ls (Int.toNat b.i))))),AV.int u8 (qQ (uC (units (dim5 W) (dim5 H)) (modU (units (dim5 W) (dim5 H)) (gI ls (Int.toNat b.i)))))])] 1153 (.r [] 0 (.lp (m10 (dim5 W) (units (dim5 W) (dim5 H)) ls b.i) [] [] (fun b_1=>(.r [] 0 (.cnd (.r [(1029,.auto,Dr.val [AV.int i64 (uC (units (dim5 W) (dim5 H)) b_1.i)]),(1031,.auto,Dr.val [AV.int i64 (qX (dim5 W) (uC (units (dim5 W) (dim5 H)) b_1.i)),AV.int i64 (qY (dim5 W) (uC (units (dim5 W) (dim5 H)) b_1.i)),AV.int u8 (qQ (uC (units (dim5 W) (dim5 H)) b_1.i))]),(1036,.auto,Dr.val [AV.int u8 (uE (units (dim5 W) (dim5 H)) b_1.i)])] 65536 (.cnd (.r [] 0 (.r [] 0 .nil)) (.r [] 0 .nil))) (.r [] 0 .nil)))))))) (.r [] 9 (.r [] 25 (.r [] 25 (.r [yL 1347,yL 1348,yL 1349,yL 1350,yL 1351,yL 1352,yL 1353,yL 1354,yL 1355,yL 1356,yL 1357,yL 1358,yL 1359] 32639 (.ff (.r [] 0 (.lp (kc10 (facL (dim5 W) (dim5 H) (lnP (dim5 W) (dim5 H) ls))) [] [] (fun b_1=>(.r [] 0 (.cnd (.r [] 25 (.r [yL 1731,yL 1732] 15 (.ff (.r [] 0 .nil)))) (.r [] 1 .nil))))))))))))))))))))))) ([.agg [.int .u8 W,.int .u8 H],.imm (.ints .u8 ls) ls.length none]) ([.bool true]) ([])=(
 (fun(zz0:Nat)=>(fun(zz3:Nat)=>(ltb 6 (↑(length ls):Int)=true→true=true∧True)∧(ltb 6 (↑(length ls):Int)=false→(0≤W∧W≤255∧0≤H∧H≤255)∧s5 (dim5 W)
 (dim5 H)∧s5 (dim5 W) (dim5 H)∧leb (↑zz0:Int) (↑zz0:Int)=true∧leb ((↑zz0:Int)*1) 140737488355328=true∧1=1∧W=W∧H=H∧1=1∧dim5 W=dim5 W∧dim5 H=dim5 H∧
 Int.toNat (↑zz0:Int)=length (units (dim5 W) (dim5 H))∧Int.toNat (↑zz0:Int)=length (units (dim5 W) (dim5 H))∧qx (replicate zz3 (0:Int)) (qs u8 ls (0=0∧qx (Cont.vals (flatU
 (units (dim5 W) (dim5 H)))) (qx zz0 (qx (Cont.vals (cvA (dim5 W) (nC (dim5 W) (dim5 H)))) (qx (nC (dim5 W) (dim5 H)) (qx zz3 (iI 0=0∧(∃(n:Nat),0=(↑n:Int)∧n≤length ls∧
 replicate zz3 (0:Int)=kdM (dim5 W) (units (dim5 W) (dim5 H)) ls n 0)∧∀(b:LI1),(fun(zz2:Int)=>(fun(zz1:Nat)=>(∃(n:Nat),b.i=(↑n:Int)∧n≤length ls∧b.m=kdM
 (dim5 W) (units (dim5 W) (dim5 H)) ls n 0)→(ltb b.i (↑(length ls):Int)=true→rd u8 ls b.i (inR i64 (getD (drop (Int.toNat b.i) ls) 0 0)=true∧(!(↑zz0:Int)==0)=true∧leb 0
 zz2=true∧ltb zz2 (↑zz0:Int)=true∧ltn 0 (Cont.size (Cont.vals (flatU (units (dim5 W) (dim5 H)))))=true∧(drop (Int.toNat zz2*2) (flatU (units (dim5 W) (dim5 H))))[0]? =some
 (AV.int i64 (uC (units (dim5 W) (dim5 H)) (modU (units (dim5 W) (dim5 H)) (gI ls (Int.toNat b.i)))))∧(drop (Int.toNat zz2*2) (flatU (units (dim5 W) (dim5 H))))[1]? =some (AV.int u8 (uE
 (units (dim5 W) (dim5 H)) (modU (units (dim5 W) (dim5 H)) (gI ls (Int.toNat b.i)))))∧leb 0 (uC (units (dim5 W) (dim5 H)) (modU (units (dim5 W) (dim5 H)) (gI ls (Int.toNat b.i))))=true∧
 ltb (uC (units (dim5 W) (dim5 H)) (modU (units (dim5 W) (dim5 H)) (gI ls (Int.toNat b.i)))) (↑(nC (dim5 W) (dim5 H)):Int)=true∧ltn 0 (Cont.size (Cont.vals (cvA (dim5 W) (nC (dim5 W)
 (dim5 H)))))=true∧(drop (Int.toNat (uC (units (dim5 W) (dim5 H)) (modU (units (dim5 W) (dim5 H)) (gI ls (Int.toNat b.i))))*3) (cvA (dim5 W) (nC (dim5 W) (dim5 H))))[0]? =some (AV.int
 i64 (qX (dim5 W) (uC (units (dim5 W) (dim5 H)) (modU (units (dim5 W) (dim5 H)) (gI ls (Int.toNat b.i))))))∧(drop (Int.toNat (uC (units (dim5 W) (dim5 H)) (modU (units (dim5 W) (dim5 H))
 (gI ls (Int.toNat b.i))))*3) (cvA (dim5 W) (nC (dim5 W) (dim5 H))))[1]? =some (AV.int i64 (qY (dim5 W) (uC (units (dim5 W) (dim5 H)) (modU (units (dim5 W) (dim5 H)) (gI ls (Int.toNat
 b.i))))))∧(drop (Int.toNat (uC (units (dim5 W) (dim5 H)) (modU (units (dim5 W) (dim5 H)) (gI ls (Int.toNat b.i))))*3) (cvA (dim5 W) (nC (dim5 W) (dim5 H))))[2]? =some (AV.int u8 (qQ (uC
 (units (dim5 W) (dim5 H)) (modU (units (dim5 W) (dim5 H)) (gI ls (Int.toNat b.i))))))∧inR i64 (uE (units (dim5 W) (dim5 H)) (modU (units (dim5 W) (dim5 H)) (gI ls (Int.toNat b.i))))=true
 ∧(-100000≤qX (dim5 W) (uC (units (dim5 W) (dim5 H)) (modU (units (dim5 W) (dim5 H)) (gI ls (Int.toNat b.i))))∧qX (dim5 W) (uC (units (dim5 W) (dim5 H)) (modU (units (dim5 W) (dim5 H))
 (gI ls (Int.toNat b.i))))≤100000∧ -100000≤qY (dim5 W) (uC (units (dim5 W) (dim5 H)) (modU (units (dim5 W) (dim5 H)) (gI ls (Int.toNat b.i))))∧qY (dim5 W) (uC (units (dim5 W) (dim5 H))
 (modU (units (dim5 W) (dim5 H)) (gI ls (Int.toNat b.i))))≤100000∧0≤qQ (uC (units (dim5 W) (dim5 H)) (modU (units (dim5 W) (dim5 H)) (gI ls (Int.toNat b.i))))∧qQ (uC (units (dim5 W)
 (dim5 H)) (modU (units (dim5 W) (dim5 H)) (gI ls (Int.toNat b.i))))≤3∧0≤uE (units (dim5 W) (dim5 H)) (modU (units (dim5 W) (dim5 H)) (gI ls (Int.toNat b.i)))∧uE (units (dim5 W) (dim5
 H)) (modU (units (dim5 W) (dim5 H)) (gI ls (Int.toNat b.i)))≤2)∧1=1∧W=W∧H=H∧1=1∧dim5 W=dim5 W∧dim5 H=dim5 H∧qx zz0 (qx zz0 (b.m=b.m∧1=1∧qx (uC (units
 (dim5 W) (dim5 H)) (modU (units (dim5 W) (dim5 H)) (gI ls (Int.toNat b.i)))) (qx (uE (units (dim5 W) (dim5 H)) (modU (units (dim5 W) (dim5 H)) (gI ls (Int.toNat b.i)))) (1=1∧qx (liK (qX
 (dim5 W) (uC (units (dim5 W) (dim5 H)) (modU (units (dim5 W) (dim5 H)) (gI ls (Int.toNat b.i))))) (qY (dim5 W) (uC (units (dim5 W) (dim5 H)) (modU (units (dim5 W) (dim5 H)) (gI ls (Int.toNat
 b.i))))) (qQ (uC (units (dim5 W) (dim5 H)) (modU (units (dim5 W) (dim5 H)) (gI ls (Int.toNat b.i))))) (uE (units (dim5 W) (dim5 H)) (modU (units (dim5 W) (dim5 H)) (gI ls (Int.toNat b.i)))))
 (qx (liC (qX (dim5 W) (uC (units (dim5 W) (dim5 H)) (modU (units (dim5 W) (dim5 H)) (gI ls (Int.toNat b.i))))) (qY (dim5 W) (uC (units (dim5 W) (dim5 H)) (modU (units (dim5 W) (dim5 H)) (gI
 ls (Int.toNat b.i))))) (qQ (uC (units (dim5 W) (dim5 H)) (modU (units (dim5 W) (dim5 H)) (gI ls (Int.toNat b.i))))) (uE (units (dim5 W) (dim5 H)) (modU (units (dim5 W) (dim5 H)) (gI ls
 (Int.toNat b.i))))) (qs u8 ls (0=0∧qx (Cont.vals (flatU (units (dim5 W) (dim5 H)))) (qx zz0 (qx (Cont.vals (cvA (dim5 W) (nC (dim5 W) (dim5 H)))) (qx (nC (dim5 W) (dim5 H)) (qx zz3 (b.i
 =b.i∧0=0∧iI 0=0∧(∃(k:Nat),0=(↑k:Int)∧k≤length (units (dim5 W) (dim5 H))∧b.m=kdM (dim5 W) (units (dim5 W) (dim5 H)) ls (Int.toNat b.i) k)∧∀(b_1:LI1),(∃(k:
 Nat),b_1.i=(↑k:Int)∧k≤length (units (dim5 W) (dim5 H))∧b_1.m=kdM (dim5 W) (units (dim5 W) (dim5 H)) ls (Int.toNat b.i) k)→(ltb b_1.i (↑zz0:Int)=true→leb 0 b_1.i=true∧
 ltb b_1.i (↑zz0:Int)=true∧ltn 0 (Cont.size (Cont.vals (flatU (units (dim5 W) (dim5 H)))))=true∧(drop 0 (drop (Int.toNat b_1.i*2) (flatU (units (dim5 W) (dim5 H)))))[0]? =some
 (AV.int i64 (uC (units (dim5 W) (dim5 H)) b_1.i))∧leb 0 (uC (units (dim5 W) (dim5 H)) b_1.i)=true∧ltb (uC (units (dim5 W) (dim5 H)) b_1.i) (↑(nC (dim5 W) (dim5 H)):Int)=true∧ltn
 0 (Cont.size (Cont.vals (cvA (dim5 W) (nC (dim5 W) (dim5 H)))))=true∧(drop (Int.toNat (uC (units (dim5 W) (dim5 H)) b_1.i)*3) (cvA (dim5 W) (nC (dim5 W) (dim5 H))))[0]? =some (AV.int
 i64 (qX (dim5 W) (uC (units (dim5 W) (dim5 H)) b_1.i)))∧(drop (Int.toNat (uC (units (dim5 W) (dim5 H)) b_1.i)*3) (cvA (dim5 W) (nC (dim5 W) (dim5 H))))[1]? =some (AV.int i64 (qY (dim5
 W) (uC (units (dim5 W) (dim5 H)) b_1.i)))∧(drop (Int.toNat (uC (units (dim5 W) (dim5 H)) b_1.i)*3) (cvA (dim5 W) (nC (dim5 W) (dim5 H))))[2]? =some (AV.int u8 (qQ (uC (units (dim5 W)
 (dim5 H)) b_1.i)))∧leb 0 b_1.i=true∧ltb b_1.i (↑zz0:Int)=true∧ltn 0 (Cont.size (Cont.vals (flatU (units (dim5 W) (dim5 H)))))=true∧(drop 1 (drop (Int.toNat b_1.i*2) (flatU
 (units (dim5 W) (dim5 H)))))[0]? =some (AV.int u8 (uE (units (dim5 W) (dim5 H)) b_1.i))∧inR i64 (uE (units (dim5 W) (dim5 H)) b_1.i)=true∧(-100000≤qX (dim5 W) (uC (units (dim5 W)
 (dim5 H)) b_1.i)∧qX (dim5 W) (uC (units (dim5 W) (dim5 H)) b_1.i)≤100000∧ -100000≤qY (dim5 W) (uC (units (dim5 W) (dim5 H)) b_1.i)∧qY (dim5 W) (uC (units (dim5 W) (dim5 H)) b_1.i)≤
 100000∧0≤qQ (uC (units (dim5 W) (dim5 H)) b_1.i)∧qQ (uC (units (dim5 W) (dim5 H)) b_1.i)≤3∧0≤uE (units (dim5 W) (dim5 H)) b_1.i∧uE (units (dim5 W) (dim5 H)) b_1.i≤2)∧((liK
 (qX (dim5 W) (uC (units (dim5 W) (dim5 H)) b_1.i)) (qY (dim5 W) (uC (units (dim5 W) (dim5 H)) b_1.i)) (qQ (uC (units (dim5 W) (dim5 H)) b_1.i)) (uE (units (dim5 W) (dim5 H)) b_1.i)==liK
 (qX (dim5 W) (uC (units (dim5 W) (dim5 H)) (modU (units (dim5 W) (dim5 H)) (gI ls (Int.toNat b.i))))) (qY (dim5 W) (uC (units (dim5 W) (dim5 H)) (modU (units (dim5 W) (dim5 H)) (gI ls
 (Int.toNat b.i))))) (qQ (uC (units (dim5 W) (dim5 H)) (modU (units (dim5 W) (dim5 H)) (gI ls (Int.toNat b.i))))) (uE (units (dim5 W) (dim5 H)) (modU (units (dim5 W) (dim5 H)) (gI ls
 (Int.toNat b.i))))&&liC (qX (dim5 W) (uC (units (dim5 W) (dim5 H)) b_1.i)) (qY (dim5 W) (uC (units (dim5 W) (dim5 H)) b_1.i)) (qQ (uC (units (dim5 W) (dim5 H)) b_1.i)) (uE (units (dim5 W)
 (dim5 H)) b_1.i)==liC (qX (dim5 W) (uC (units (dim5 W) (dim5 H)) (modU (units (dim5 W) (dim5 H)) (gI ls (Int.toNat b.i))))) (qY (dim5 W) (uC (units (dim5 W) (dim5 H)) (modU (units (dim5 W)
 (dim5 H)) (gI ls (Int.toNat b.i))))) (qQ (uC (units (dim5 W) (dim5 H)) (modU (units (dim5 W) (dim5 H)) (gI ls (Int.toNat b.i))))) (uE (units (dim5 W) (dim5 H)) (modU (units (dim5 W) (dim5
 H)) (gI ls (Int.toNat b.i)))))=true→leb 0 b_1.i=true∧ltb b_1.i (↑zz3:Int)=true∧length (units (dim5 W) (dim5 H))=Int.toNat (↑zz0:Int)∧length (units (dim5 W) (dim5 H))=
 Int.toNat (↑zz0:Int)∧len' (Int.toNat b_1.i+1) (Cont.size (Cont.ints u8 b_1.m))=true∧inR i64 (b_1.i+1)=true∧1=1∧W=W∧H=H∧1=1∧dim5 W=dim5 W∧dim5 H=dim5 H∧
 qx zz0 (qx zz0 (qx (set b_1.m (Int.toNat b_1.i) 2) (1=1∧qx (uC (units (dim5 W) (dim5 H)) (modU (units (dim5 W) (dim5 H)) (gI ls (Int.toNat b.i)))) (qx (uE (units (dim5 W) (dim5 H)) (modU
 (units (dim5 W) (dim5 H)) (gI ls (Int.toNat b.i)))) (1=1∧qx (liK (qX (dim5 W) (uC (units (dim5 W) (dim5 H)) (modU (units (dim5 W) (dim5 H)) (gI ls (Int.toNat b.i))))) (qY (dim5 W) (uC
 (units (dim5 W) (dim5 H)) (modU (units (dim5 W) (dim5 H)) (gI ls (Int.toNat b.i))))) (qQ (uC (units (dim5 W) (dim5 H)) (modU (units (dim5 W) (dim5 H)) (gI ls (Int.toNat b.i))))) (uE (units
 (dim5 W) (dim5 H)) (modU (units (dim5 W) (dim5 H)) (gI ls (Int.toNat b.i))))) (qx (liC (qX (dim5 W) (uC (units (dim5 W) (dim5 H)) (modU (units (dim5 W) (dim5 H)) (gI ls (Int.toNat b.i)))))
 (qY (dim5 W) (uC (units (dim5 W) (dim5 H)) (modU (units (dim5 W) (dim5 H)) (gI ls (Int.toNat b.i))))) (qQ (uC (units (dim5 W) (dim5 H)) (modU (units (dim5 W) (dim5 H)) (gI ls (Int.toNat
 b.i))))) (uE (units (dim5 W) (dim5 H)) (modU (units (dim5 W) (dim5 H)) (gI ls (Int.toNat b.i))))) (qs u8 ls (0=0∧qx (Cont.vals (flatU (units (dim5 W) (dim5 H)))) (qx zz0 (qx (Cont.vals
 (cvA (dim5 W) (nC (dim5 W) (dim5 H)))) (qx (nC (dim5 W) (dim5 H)) (qx zz3 (b.i=b.i∧0=0∧qx (b_1.i+1) ((∃(k:Nat),b_1.i+1=(↑k:Int)∧k≤length (units (dim5 W) (dim5 H))∧
 set b_1.m (Int.toNat b_1.i) 2=kdM (dim5 W) (units (dim5 W) (dim5 H)) ls (Int.toNat b.i) k)∧length (units (dim5 W) (dim5 H))-Int.toNat (b_1.i+1)<length (units (dim5 W) (dim5 H))-
 Int.toNat b_1.i∧True)))))))))))))))∧((liK (qX (dim5 W) (uC (units (dim5 W) (dim5 H)) b_1.i)) (qY (dim5 W) (uC (units (dim5 W) (dim5 H)) b_1.i)) (qQ (uC (units (dim5 W) (dim5 H)) b_1.i))
 (uE (units (dim5 W) (dim5 H)) b_1.i)==liK (qX (dim5 W) (uC (units (dim5 W) (dim5 H)) (modU (units (dim5 W) (dim5 H)) (gI ls (Int.toNat b.i))))) (qY (dim5 W) (uC (units (dim5 W) (dim5 H))
 (modU (units (dim5 W) (dim5 H)) (gI ls (Int.toNat b.i))))) (qQ (uC (units (dim5 W) (dim5 H)) (modU (units (dim5 W) (dim5 H)) (gI ls (Int.toNat b.i))))) (uE (units (dim5 W) (dim5 H)) (modU
 (units (dim5 W) (dim5 H)) (gI ls (Int.toNat b.i))))&&liC (qX (dim5 W) (uC (units (dim5 W) (dim5 H)) b_1.i)) (qY (dim5 W) (uC (units (dim5 W) (dim5 H)) b_1.i)) (qQ (uC (units (dim5 W) (dim5
 H)) b_1.i)) (uE (units (dim5 W) (dim5 H)) b_1.i)==liC (qX (dim5 W) (uC (units (dim5 W) (dim5 H)) (modU (units (dim5 W) (dim5 H)) (gI ls (Int.toNat b.i))))) (qY (dim5 W) (uC (units (dim5 W)
 (dim5 H)) (modU (units (dim5 W) (dim5 H)) (gI ls (Int.toNat b.i))))) (qQ (uC (units (dim5 W) (dim5 H)) (modU (units (dim5 W) (dim5 H)) (gI ls (Int.toNat b.i))))) (uE (units (dim5 W) (dim5
 H)) (modU (units (dim5 W) (dim5 H)) (gI ls (Int.toNat b.i)))))=false→inR i64 (b_1.i+1)=true∧1=1∧W=W∧H=H∧1=1∧dim5 W=dim5 W∧dim5 H=dim5 H∧qx zz0 (qx zz0
 (b_1.m=b_1.m∧1=1∧qx (uC (units (dim5 W) (dim5 H)) (modU (units (dim5 W) (dim5 H)) (gI ls (Int.toNat b.i)))) (qx (uE (units (dim5 W) (dim5 H)) (modU (units (dim5 W) (dim5 H)) (gI ls
 (Int.toNat b.i)))) (1=1∧qx (liK (qX (dim5 W) (uC (units (dim5 W) (dim5 H)) (modU (units (dim5 W) (dim5 H)) (gI ls (Int.toNat b.i))))) (qY (dim5 W) (uC (units (dim5 W) (dim5 H)) (modU
 (units (dim5 W) (dim5 H)) (gI ls (Int.toNat b.i))))) (qQ (uC (units (dim5 W) (dim5 H)) (modU (units (dim5 W) (dim5 H)) (gI ls (Int.toNat b.i))))) (uE (units (dim5 W) (dim5 H)) (modU (units
 (dim5 W) (dim5 H)) (gI ls (Int.toNat b.i))))) (qx (liC (qX (dim5 W) (uC (units (dim5 W) (dim5 H)) (modU (units (dim5 W) (dim5 H)) (gI ls (Int.toNat b.i))))) (qY (dim5 W) (uC (units (dim5 W)
 (dim5 H)) (modU (units (dim5 W) (dim5 H)) (gI ls (Int.toNat b.i))))) (qQ (uC (units (dim5 W) (dim5 H)) (modU (units (dim5 W) (dim5 H)) (gI ls (Int.toNat b.i))))) (uE (units (dim5 W) (dim5
 H)) (modU (units (dim5 W) (dim5 H)) (gI ls (Int.toNat b.i))))) (qs u8 ls (0=0∧qx (Cont.vals (flatU (units (dim5 W) (dim5 H)))) (qx zz0 (qx (Cont.vals (cvA (dim5 W) (nC (dim5 W) (dim5
 H)))) (qx (nC (dim5 W) (dim5 H)) (qx zz3 (b.i=b.i∧0=0∧qx (b_1.i+1) ((∃(k:Nat),b_1.i+1=(↑k:Int)∧k≤length (units (dim5 W) (dim5 H))∧b_1.m=kdM (dim5 W) (units (dim5
 W) (dim5 H)) ls (Int.toNat b.i) k)∧length (units (dim5 W) (dim5 H))-Int.toNat (b_1.i+1)<length (units (dim5 W) (dim5 H))-Int.toNat b_1.i∧True)))))))))))))))∧(ltb b_1.i (↑zz0:
 Int)=false→inR i64 (b.i+1)=true∧1=1∧W=W∧H=H∧1=1∧dim5 W=dim5 W∧dim5 H=dim5 H∧qx zz0 (qx zz0 (b_1.m=b_1.m∧qs u8 ls (0=0∧qx (Cont.vals (flatU (units
 (dim5 W) (dim5 H)))) (qx zz0 (qx (Cont.vals (cvA (dim5 W) (nC (dim5 W) (dim5 H)))) (qx (nC (dim5 W) (dim5 H)) (qx zz3 (b.i+1=b.i+1∧(∃(n:Nat),b.i+1=(↑n:Int)∧n≤length ls
 ∧b_1.m=kdM (dim5 W) (units (dim5 W) (dim5 H)) ls n 0)∧length ls-Int.toNat (b.i+1)<length ls-Int.toNat b.i∧True)))))))))))))))))))))))∧(ltb b.i (↑(length ls):Int)=false→
 length (units (dim5 W) (dim5 H))=Int.toNat (↑zz0:Int)∧(s5 (dim5 W) (dim5 H)∧Int.toNat (↑zz0:Int)=length b.m∧length b.m<1000000000)∧qx zz1 ((s5 (dim5 W) (dim5 H)∧okV (dim5
 W) (dim5 H) (flatC (wthL (units (dim5 W) (dim5 H)) b.m)) zz1)∧qx zz1 ((s5 (dim5 W) (dim5 H)∧okV (dim5 W) (dim5 H) (flatC (wthL (units (dim5 W) (dim5 H)) b.m)) zz1)∧(!lseJ (jnC (dim5 W)
 (dim5 H) (unC (flatC (wthL (units (dim5 W) (dim5 H)) b.m)))))=true∧(!(maxL (facL (dim5 W) (dim5 H) (unC (flatC (wthL (units (dim5 W) (dim5 H)) b.m))))+1==1)==((↑(length ls):Int)
 ==0))=false∧1=1∧W=W∧H=H∧1=1∧dim5 W=dim5 W∧dim5 H=dim5 H∧qx zz0 (qx zz0 (b.m=b.m∧qx zz1 (qx (flatC (wthL (units (dim5 W) (dim5 H)) b.m)) (1=1∧dim5 W=
 dim5 W∧dim5 H=dim5 H∧qx zz1 (qx (ltb b.i (↑(length ls):Int)) (0=0∧maxL (facL (dim5 W) (dim5 H) (unC (flatC (wthL (units (dim5 W) (dim5 H)) b.m))))+1=maxL (facL (dim5 W) (dim5
 H) (unC (flatC (wthL (units (dim5 W) (dim5 H)) b.m))))+1∧iI 0=0∧(∃(n:Nat),0=(↑n:Int)∧(↑n:Int)≤maxL (facL (dim5 W) (dim5 H) (wthL (units (dim5 W) (dim5 H)) (kdM (dim5 W)
 (units (dim5 W) (dim5 H)) ls (length ls) 0)))+1)∧∀(b_1:L1),(∃(n:Nat),b_1.i=(↑n:Int)∧(↑n:Int)≤maxL (facL (dim5 W) (dim5 H) (wthL (units (dim5 W) (dim5 H)) (kdM (dim5 W)
 (units (dim5 W) (dim5 H)) ls (length ls) 0)))+1)→(ltb b_1.i (maxL (facL (dim5 W) (dim5 H) (unC (flatC (wthL (units (dim5 W) (dim5 H)) b.m))))+1)=true→qx zz1 ((s5 (dim5 W) (dim5 H)
 ∧okV (dim5 W) (dim5 H) (flatC (wthL (units (dim5 W) (dim5 H)) b.m)) zz1∧celL (facL (dim5 W) (dim5 H) (unC (flatC (wthL (units (dim5 W) (dim5 H)) b.m)))) b_1.i≠[])∧(!cvB (dim5 W) (celL
 (facL (dim5 W) (dim5 H) (unC (flatC (wthL (units (dim5 W) (dim5 H)) b.m)))) b_1.i))=false∧inR i64 (b_1.i+1)=true∧1=1∧W=W∧H=H∧1=1∧dim5 W=dim5 W∧dim5 H=dim5 H∧
 qx zz0 (qx zz0 (b.m=b.m∧qx zz1 (qx (flatC (wthL (units (dim5 W) (dim5 H)) b.m)) (1=1∧dim5 W=dim5 W∧dim5 H=dim5 H∧qx zz1 (qx (ltb b.i (↑(length ls):Int)) (0=0∧maxL (facL
 (dim5 W) (dim5 H) (unC (flatC (wthL (units (dim5 W) (dim5 H)) b.m))))+1=maxL (facL (dim5 W) (dim5 H) (unC (flatC (wthL (units (dim5 W) (dim5 H)) b.m))))+1∧qx (b_1.i+1) ((∃(n:
 Nat),b_1.i+1=(↑n:Int)∧(↑n:Int)≤maxL (facL (dim5 W) (dim5 H) (wthL (units (dim5 W) (dim5 H)) (kdM (dim5 W) (units (dim5 W) (dim5 H)) ls (length ls) 0)))+1)∧Int.toNat (maxL
 (facL (dim5 W) (dim5 H) (wthL (units (dim5 W) (dim5 H)) (kdM (dim5 W) (units (dim5 W) (dim5 H)) ls (length ls) 0)))+1)-Int.toNat (b_1.i+1)<Int.toNat (maxL (facL (dim5 W) (dim5 H)
 (wthL (units (dim5 W) (dim5 H)) (kdM (dim5 W) (units (dim5 W) (dim5 H)) ls (length ls) 0)))+1)-Int.toNat b_1.i∧True)))))))))∧(ltb b_1.i (maxL (facL (dim5 W) (dim5 H) (unC (flatC
 (wthL (units (dim5 W) (dim5 H)) b.m))))+1)=false→true=true∧True))))))))))) (length (wthL (units (dim5 W) (dim5 H)) b.m))) (Int.tmod (getD (drop (Int.toNat b.i) ls) 0 0) (↑zz0:
 Int))))))))))) (Int.toNat (↑zz0:Int))) (length (units (dim5 W) (dim5 H)))):=by kernel_rfl

end Go.Proofs.YtfpcbimohikhmaaDoor.X
