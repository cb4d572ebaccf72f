/-
 What is to be shown of the functions (made by a program).
-/
import Derived.Test.YtfpcbimohikhmaaDoorQD5Z
import Derived.KernelRfl
set_option maxRecDepth 1000000
set_option linter.unusedVariables false
namespace Go.Proofs.YtfpcbimohikhmaaDoor.X
open Go Go.Ab
open List IntKind

theorem ob_o30 (w h:Int)(l:List Cr):fnP (CQ4) G 10000 fe30 (.r [] 0 (.r [] 3 (.cnd (.r [] 0 .nil) (.r [] 0 (.lp (k30 l) [] [] (fun b=>(.r [] 1 (.cnd (.rs 8 [(453,.auto,Dr.val [AV.int u8 (cK l b.i)])] 1 28 (.r [(461,.auto,Dr.val [AV.int u8 (cK l b.i)])] 3 (.lit (.r [] 0 .nil))) (.r [(461,.auto,Dr.val [AV.int u8 (cK l b.i)])] 97 (.cnd (.r [] 0 .nil) (.r [] 0 .nil)))) (.r [] 1 (.r [] 0 (.r [] 0 (.r [] 0 (.lp (l30 (units w h) l) [] [] (fun b_1=>(.r [] 1 (.cnd (.r [] 0 (.r [] 0 (.lp (m30 (units w h) (cC l b_1.i) (cE l b_1.i)) [] [] (fun b_2=>(.r [] 0 (.cnd (.r [(1219,.auto,Dr.val [AV.int i64 (uC (units w h) b_2.i),AV.int u8 (uE (units w h) b_2.i)]),(1225,.auto,Dr.val [AV.int i64 (cC l b_1.i)]),(1231,.auto,Dr.val [AV.int u8 (cE l b_1.i)])] 1056 (.cnd (.r [] 0 (.r [] 0 .nil)) (.r [] 0 .nil))) (.r [] 0 (.cnd (.r [] 0 .nil) (.r [] 0 (.cnd (.r [] 0 (.r [] 0 (.r [] 0 .nil))) (.r [] 0 (.r [] 0 .nil)))))))))))) (.r [] 0 .nil))))))))))))))))) ([patV w h l]) ([.int .i64 (rchI w h l)]) ([])=(
 (fun(zz0:Nat)=>((bI (okS w h) 1 0==0)=true→1=rchI w h l∧True)∧((bI (okS w h) 1 0==0)=false→1=1∧w=w∧h=h∧qx (Cont.vals (flatC l)) (length l=length l∧0=
 0∧iI 0=0∧(∃(n:Nat),0=(↑n:Int)∧n≤length l∧badL (drop n l)=badL l)∧∀(b:L1),(fun(zz1:Bool)=>(∃(n:Nat),b.i=(↑n:Int)∧n≤length l∧badL (drop n l)=
 badL l)→(ltb b.i (↑(length l):Int)=true→leb 0 b.i=true∧ltb b.i (↑(length l):Int)=true∧ltn 0 (Cont.size (Cont.vals (flatC l)))=true∧(drop 2 (drop (Int.toNat b.i*3)
 (flatC l)))[0]? =some (AV.int u8 (cK l b.i))∧(ltb (cK l b.i) 1=true→1=rchI w h l∧True)∧(ltb (cK l b.i) 1=false→leb 0 b.i=true∧ltb b.i (↑(length l):Int)=true∧ltn 0
 (Cont.size (Cont.vals (flatC l)))=true∧(drop 2 (drop (Int.toNat b.i*3) (flatC l)))[0]? =some (AV.int u8 (cK l b.i))∧(ltb 3 (cK l b.i)=true→1=rchI w h l∧True)∧(ltb 3 (cK l
 b.i)=false→inR i64 (b.i+1)=true∧1=1∧w=w∧h=h∧qx (Cont.vals (flatC l)) (length l=length l∧0=0∧b.i+1=b.i+1∧(∃(n:Nat),b.i+1=(↑n:Int)∧n≤length
 l∧badL (drop n l)=badL l)∧length l-Int.toNat (b.i+1)<length l-Int.toNat b.i∧True))))∧(ltb b.i (↑(length l):Int)=false→s5 w h∧1=1∧w=w∧h=h∧qx (Cont.vals
 (flatC l)) (length l=length l∧0=0∧qx zz1 (qx (Cont.vals (flatU (units w h))) (qx zz0 (iI (-1)= -1∧iI 0=0∧iI 0=0∧(∃(n:Nat),0=(↑n:Int)∧n≤length l∧rck (units w
 h) (-1) 0 (drop n l)=rck (units w h) (-1) 0 l)∧∀(b_1:L3i),(∃(n:Nat),b_1.i=(↑n:Int)∧n≤length l∧rck (units w h) b_1.p b_1.o (drop n l)=rck (units w h) (-1) 0 l)→(ltb
 b_1.i (↑(length l):Int)=true→1=1∧w=w∧h=h∧qx (Cont.vals (flatC l)) (length l=length l∧0=0∧qx zz1 (qx (Cont.vals (flatU (units w h))) (qx zz0 (b_1.p=b_1.p∧b_1.o=
 b_1.o∧b_1.i=b_1.i∧iI (-1)= -1∧iI 0=0∧(∃(n:Nat),0=(↑n:Int)∧n≤length (units w h)∧lkI (cC l b_1.i) (cE l b_1.i) (-1) (↑n:Int) (drop n (units w h))=lkI (cC l
 b_1.i) (cE l b_1.i) (-1) 0 (units w h))∧∀(b_2:L2i),(fun(zz2:Bool)=>(∃(n:Nat),b_2.i=(↑n:Int)∧n≤length (units w h)∧lkI (cC l b_1.i) (cE l b_1.i) b_2.n (↑n:Int) (drop
 n (units w h))=lkI (cC l b_1.i) (cE l b_1.i) (-1) 0 (units w h))→(ltb b_2.i (↑zz0:Int)=true→leb 0 b_2.i=true∧ltb b_2.i (↑zz0:Int)=true∧ltn 0 (Cont.size (Cont.vals (flatU
 (units w h))))=true∧(drop (Int.toNat b_2.i*2) (flatU (units w h)))[0]? =some (AV.int i64 (uC (units w h) b_2.i))∧(drop (Int.toNat b_2.i*2) (flatU (units w h)))[1]? =some (AV.int
 u8 (uE (units w h) b_2.i))∧leb 0 b_1.i=true∧ltb b_1.i (↑(length l):Int)=true∧ltn 0 (Cont.size (Cont.vals (flatC l)))=true∧(drop 0 (drop (Int.toNat b_1.i*3) (flatC l)))[0]?
 =some (AV.int i64 (cC l b_1.i))∧leb 0 b_1.i=true∧ltb b_1.i (↑(length l):Int)=true∧ltn 0 (Cont.size (Cont.vals (flatC l)))=true∧(drop 1 (drop (Int.toNat b_1.i*3) (flatC
 l)))[0]? =some (AV.int u8 (cE l b_1.i))∧(zz2=true→inR i64 (b_2.i+1)=true∧1=1∧w=w∧h=h∧qx (Cont.vals (flatC l)) (length l=length l∧0=0∧qx zz1 (qx (Cont.vals
 (flatU (units w h))) (qx zz0 (b_1.p=b_1.p∧b_1.o=b_1.o∧b_1.i=b_1.i∧b_2.i=b_2.i∧qx (b_2.i+1) ((∃(n:Nat),b_2.i+1=(↑n:Int)∧n≤length (units w h)∧lkI (cC l b_1.i)
 (cE l b_1.i) b_2.i (↑n:Int) (drop n (units w h))=lkI (cC l b_1.i) (cE l b_1.i) (-1) 0 (units w h))∧length (units w h)-Int.toNat (b_2.i+1)<length (units w h)-Int.toNat b_2.i∧
 True))))))∧(zz2=false→inR i64 (b_2.i+1)=true∧1=1∧w=w∧h=h∧qx (Cont.vals (flatC l)) (length l=length l∧0=0∧qx zz1 (qx (Cont.vals (flatU (units w h))) (qx zz0
 (b_1.p=b_1.p∧b_1.o=b_1.o∧b_1.i=b_1.i∧b_2.n=b_2.n∧qx (b_2.i+1) ((∃(n:Nat),b_2.i+1=(↑n:Int)∧n≤length (units w h)∧lkI (cC l b_1.i) (cE l b_1.i) b_2.n (↑n:
 Int) (drop n (units w h))=lkI (cC l b_1.i) (cE l b_1.i) (-1) 0 (units w h))∧length (units w h)-Int.toNat (b_2.i+1)<length (units w h)-Int.toNat b_2.i∧True)))))))∧(ltb b_2.i
 (↑zz0:Int)=false→(ltb b_2.n 0=true→7=rchI w h l∧True)∧(ltb b_2.n 0=false→(leb b_2.n b_1.p=true→inR i64 (b_1.i+1)=true∧1=1∧w=w∧h=h∧qx (Cont.vals
 (flatC l)) (length l=length l∧0=0∧qx zz1 (qx (Cont.vals (flatU (units w h))) (qx zz0 (b_2.n=b_2.n∧iI 6=6∧qx (b_1.i+1) ((∃(n:Nat),b_1.i+1=(↑n:Int)∧n≤length l∧
 rck (units w h) b_2.n 6 (drop n l)=rck (units w h) (-1) 0 l)∧length l-Int.toNat (b_1.i+1)<length l-Int.toNat b_1.i∧True))))))∧(leb b_2.n b_1.p=false→inR i64 (b_1.i+1)=
 true∧1=1∧w=w∧h=h∧qx (Cont.vals (flatC l)) (length l=length l∧0=0∧qx zz1 (qx (Cont.vals (flatU (units w h))) (qx zz0 (b_2.n=b_2.n∧b_1.o=b_1.o∧qx (b_1.i+1) ((∃
 (n:Nat),b_1.i+1=(↑n:Int)∧n≤length l∧rck (units w h) b_2.n b_1.o (drop n l)=rck (units w h) (-1) 0 l)∧length l-Int.toNat (b_1.i+1)<length l-Int.toNat b_1.i∧
 True))))))))) (uC (units w h) b_2.i==cC l b_1.i&&uE (units w h) b_2.i==cE l b_1.i))))))∧(ltb b_1.i (↑(length l):Int)=false→b_1.o=rchI w h l∧True))))))) (ltb b.i (↑(length
 l):Int))))) (length (units w h))):=by kernel_rfl

end Go.Proofs.YtfpcbimohikhmaaDoor.X
