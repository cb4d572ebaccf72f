/-
 What is to be shown of the functions (made by a program).
-/
import Derived.Test.YtfpcbimohikhmaaDoorQD5Z
import Derived.KernelRfl
set_option maxRecDepth 1000000
set_option linter.unusedVariables false
namespace Go.Proofs.YtfpcbimohikhmaaDoor.X
open Go Go.Ab
open List IntKind

theorem ob_o20 (w h:Int):fnP (CU) G 10000 fe20 (.r [] 0 (.r [] 0 (.r [] 0 (.gho 3 9001 2 (Cont.vals []) (.lp (l20 w h) [] [] (fun b=>(.r [] 5 (.cnd (.r [] 0 (.lp (m20 w h b.i) [] [] (fun b_1=>(.r [] 0 (.cnd (.r [] 1 (.cnd (.r [] 8 (.r [] 0 .nil)) (.r [] 0 .nil))) (.r [] 0 .nil)))))) (.r [] 0 (.frz 2 0 .nil)))))))))) ([.agg [.int .i64 w,.int .i64 h]]) ([unV w h]) ([])=(
 1=1∧w=w∧h=h∧0=0∧([]:List AV)=[]∧0=0∧0=0∧iI 0=0∧(∃(k:Nat),0=(↑k:Int)∧k≤Int.toNat (4*w*h)∧[]=flatU (unL w h (3*k))∧0=length (unL w h (3*k)))
 ∧∀(b:L20),(∃(k:Nat),b.i=(↑k:Int)∧k≤Int.toNat (4*w*h)∧b.l=flatU (unL w h (3*k))∧b.n=length (unL w h (3*k)))→inR i64 (4*w)=true∧inR i64 (4*w*h)=true∧(ltb
 b.i (4*w*h)=true→1=1∧w=w∧h=h∧b.n=b.n∧b.l=b.l∧0=0∧b.n=b.n∧b.i=b.i∧iI 0=0∧(∃(k:Nat),0=(↑k:Int)∧k≤3∧b.l=flatU (unL w h (3*Int.toNat b.i+k))
 ∧b.n=length (unL w h (3*Int.toNat b.i+k)))∧∀(b_1:L20),(∃(k:Nat),b_1.i=(↑k:Int)∧k≤3∧b_1.l=flatU (unL w h (3*Int.toNat b.i+k))∧b_1.n=length (unL w h (3*Int.toNat
 b.i+k)))→(ltb b_1.i 3=true→((1≤w∧w≤5∧1≤h∧h≤5)∧0≤b.i∧b.i<4*w*h∧0≤b_1.i∧b_1.i≤2)∧(ltb b.i (nbI w h b.i b_1.i)=true→inR u8 b_1.i=true∧b_1.n=b_1.n∧
 len' ((b_1.n+1)*16) 140737488355328=true∧inR i64 (b_1.i+1)=true∧1=1∧w=w∧h=h∧b_1.n+1=b_1.n+1∧b_1.l++[AV.int i64 b.i,AV.int u8 b_1.i]=b_1.l++[AV.int i64 b.i,
 AV.int u8 b_1.i]∧0=0∧b_1.n+1=b_1.n+1∧b.i=b.i∧b_1.i+1=b_1.i+1∧(∃(k:Nat),b_1.i+1=(↑k:Int)∧k≤3∧b_1.l++[AV.int i64 b.i,AV.int u8 b_1.i]=flatU (unL w h (3*
 Int.toNat b.i+k))∧b_1.n+1=length (unL w h (3*Int.toNat b.i+k)))∧3-Int.toNat (b_1.i+1)<3-Int.toNat b_1.i∧True)∧(ltb b.i (nbI w h b.i b_1.i)=false→inR i64 (b_1.i+1)=
 true∧1=1∧w=w∧h=h∧b_1.n=b_1.n∧b_1.l=b_1.l∧0=0∧b_1.n=b_1.n∧b.i=b.i∧b_1.i+1=b_1.i+1∧(∃(k:Nat),b_1.i+1=(↑k:Int)∧k≤3∧b_1.l=flatU (unL w h (3*
 Int.toNat b.i+k))∧b_1.n=length (unL w h (3*Int.toNat b.i+k)))∧3-Int.toNat (b_1.i+1)<3-Int.toNat b_1.i∧True))∧(ltb b_1.i 3=false→inR i64 (b.i+1)=true∧1=1∧w=w∧h
 =h∧b_1.n=b_1.n∧b_1.l=b_1.l∧0=0∧b_1.n=b_1.n∧b.i+1=b.i+1∧(∃(k:Nat),b.i+1=(↑k:Int)∧k≤Int.toNat (4*w*h)∧b_1.l=flatU (unL w h (3*k))∧b_1.n=length (unL
 w h (3*k)))∧Int.toNat (4*w*h)-Int.toNat (b.i+1)<Int.toNat (4*w*h)-Int.toNat b.i∧True))∧(ltb b.i (4*w*h)=false→b.n=b.n∧Cont.vals b.l=Cont.vals (flatU (units w h))
 ∧b.n=length (units w h)∧True)):=by kernel_rfl

theorem ob_o23 (w h:Int)(ks:List Int):fnP (CW) G 10000 fe23 (.r [] 0 (.r [] 1 (.r [] 3 (.r [] 0 (.ghc 194 2 9001 3 (Cont.vals []) (.lp (l23 w h (units w h) ks) [] [] (fun b=>(.rs 5 [] 0 16 (.r [] 3 (.cnd (.r [] 0 (.cnd (.r [yL 512,(518,.auto,Dr.val [AV.int i64 (uC (units w h) b.i)]),(523,.auto,Dr.val [AV.int u8 (uE (units w h) b.i)])] 98305 (.r [] 0 .nil)) (.r [] 0 .nil))) (.r [] 3 .nil))) (.r [] 3 (.lit (.r [] 3 .nil))))))))))) ([.agg [.int .i64 w,.int .i64 h],.imm (.ints .u8 ks) ks.length none]) ([.agg [.int .i64 w,.int .i64 h,.full 0 (wthL (units w h) ks).length]]) ([blkC (flatC (wthL (units w h) ks)) (wthL (units w h) ks).length])=(
 (fun(zz0:Nat)=>(1≤w∧w≤5∧1≤h∧h≤5)∧1=1∧w=w∧h=h∧1=1∧iI 0=0∧iI 0=0∧1=1∧w=w∧h=h∧0=0∧0=0∧([]:List AV)=[]∧qs u8 ks (0=0∧qx
 (Cont.vals (flatU (units w h))) (qx zz0 (0=0∧iI 0=0∧(∃(k:Nat),0=(↑k:Int)∧k≤length (units w h)∧k≤length ks∧[]=flatC (wthL (take k (units w h)) (take k ks))∧0=
 length (wthL (take k (units w h)) (take k ks)))∧∀(b:L23),(fun(zz1:List Int)=>(∃(k:Nat),b.i=(↑k:Int)∧k≤length (units w h)∧k≤length ks∧b.l=flatC (wthL (take k
 (units w h)) (take k ks))∧b.n=length (wthL (take k (units w h)) (take k ks)))→(ltb b.i (↑zz0:Int)=true→(ltb b.i (↑(length ks):Int)=true→rd u8 ks b.i (((getD zz1 0 0 !=0)=
 true→leb 0 b.i=true∧ltb b.i (↑zz0:Int)=true∧ltn 0 (Cont.size (Cont.vals (flatU (units w h))))=true∧(drop 0 (drop (Int.toNat b.i*2) (flatU (units w h))))[0]? =some (AV.int
 i64 (uC (units w h) b.i))∧leb 0 b.i=true∧ltb b.i (↑zz0:Int)=true∧ltn 0 (Cont.size (Cont.vals (flatU (units w h))))=true∧(drop 1 (drop (Int.toNat b.i*2) (flatU (units w
 h))))[0]? =some (AV.int u8 (uE (units w h) b.i))∧rd u8 ks b.i (b.n=b.n∧len' ((b.n+1)*16) 140737488355328=true∧inR i64 (b.i+1)=true∧1=1∧w=w∧h=h∧1=1∧iI 0=
 0∧iI 0=0∧1=1∧w=w∧h=h∧b.n+1=b.n+1∧b.n+1=b.n+1∧b.l++[AV.int i64 (uC (units w h) b.i),AV.int u8 (uE (units w h) b.i),AV.int u8 (getD zz1 0 0)]=b.l++
 [AV.int i64 (uC (units w h) b.i),AV.int u8 (uE (units w h) b.i),AV.int u8 (getD zz1 0 0)]∧qs u8 ks (0=0∧qx (Cont.vals (flatU (units w h))) (qx zz0 (0=0∧b.i+1=b.i+1∧(∃(k
 :Nat),b.i+1=(↑k:Int)∧k≤length (units w h)∧k≤length ks∧b.l++[AV.int i64 (uC (units w h) b.i),AV.int u8 (uE (units w h) b.i),AV.int u8 (getD zz1 0 0)]=flatC (wthL (take
 k (units w h)) (take k ks))∧b.n+1=length (wthL (take k (units w h)) (take k ks)))∧length (units w h)-Int.toNat (b.i+1)<length (units w h)-Int.toNat b.i∧True)))))∧((getD
 zz1 0 0 !=0)=false→inR i64 (b.i+1)=true∧1=1∧w=w∧h=h∧1=1∧iI 0=0∧iI 0=0∧1=1∧w=w∧h=h∧b.n=b.n∧b.n=b.n∧b.l=b.l∧qs u8 ks (0=0∧qx
 (Cont.vals (flatU (units w h))) (qx zz0 (0=0∧b.i+1=b.i+1∧(∃(k:Nat),b.i+1=(↑k:Int)∧k≤length (units w h)∧k≤length ks∧b.l=flatC (wthL (take k (units w h))
 (take k ks))∧b.n=length (wthL (take k (units w h)) (take k ks)))∧length (units w h)-Int.toNat (b.i+1)<length (units w h)-Int.toNat b.i∧True))))))∧(ltb b.i (↑(length ks):
 Int)=false→b.n=length (wthL (units w h) ks)∧b.l=flatC (wthL (units w h) ks)∧w=w∧h=h∧b.n=length (wthL (units w h) ks)∧True))∧(ltb b.i (↑zz0:Int)=false→b.n=
 length (wthL (units w h) ks)∧b.l=flatC (wthL (units w h) ks)∧w=w∧h=h∧b.n=length (wthL (units w h) ks)∧True)) (drop (Int.toNat b.i) ks))))) (length (units w h))):=by kernel_rfl

end Go.Proofs.YtfpcbimohikhmaaDoor.X
