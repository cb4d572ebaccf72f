/-
 What is to be shown of the functions (made by a program).
-/
import Derived.Test.YtfpcbimohikhmaaDoorQD5Z
import Derived.KernelRfl
set_option maxRecDepth 1000000
set_option linter.unusedVariables false
namespace Go.Proofs.YtfpcbimohikhmaaDoor.X
open Go Go.Ab
open List IntKind

theorem ob_o20 (w h:Int):fnP (CU) G 10000 fe20 (.r [] 0 (.r [] 0 (.r [] 0 (.gho 3 9001 2 (Cont.vals []) (.lp (l20 w h) [] [] (fun b=>(.r [] 5 (.cnd (.r [] 0 (.lp (m20 w h b.i) [] [] (fun b_1=>(.r [] 0 (.cnd (.r [] 1 (.cnd (.r [] 8 (.r [] 0 .nil)) (.r [] 0 .nil))) (.r [] 0 .nil)))))) (.r [] 0 (.frz 2 0 .nil)))))))))) ([.agg [.int .i64 w,.int .i64 h]]) ([unV w h]) ([])=(
 1=1∧w=w∧h=h∧0=0∧([]:List AV)=[]∧0=0∧0=0∧iI 0=0∧(∃(k:Nat),0=(↑k:Int)∧k≤Int.toNat (4*w*h)∧[]=flatU (unL w h (3*k))∧0=length (unL w h (3*k)))
 ∧∀(b:L20),(∃(k:Nat),b.i=(↑k:Int)∧k≤Int.toNat (4*w*h)∧b.l=flatU (unL w h (3*k))∧b.n=length (unL w h (3*k)))→inR i64 (4*w)=true∧inR i64 (4*w*h)=true∧(ltb
 b.i (4*w*h)=true→1=1∧w=w∧h=h∧b.n=b.n∧b.l=b.l∧0=0∧b.n=b.n∧b.i=b.i∧iI 0=0∧(∃(k:Nat),0=(↑k:Int)∧k≤3∧b.l=flatU (unL w h (3*Int.toNat b.i+k))
 ∧b.n=length (unL w h (3*Int.toNat b.i+k)))∧∀(b_1:L20),(∃(k:Nat),b_1.i=(↑k:Int)∧k≤3∧b_1.l=flatU (unL w h (3*Int.toNat b.i+k))∧b_1.n=length (unL w h (3*Int.toNat
 b.i+k)))→(ltb b_1.i 3=true→((1≤w∧w≤5∧1≤h∧h≤5)∧0≤b.i∧b.i<4*w*h∧0≤b_1.i∧b_1.i≤2)∧(ltb b.i (nbI w h b.i b_1.i)=true→inR u8 b_1.i=true∧b_1.n=b_1.n∧
 len' ((b_1.n+1)*16) 140737488355328=true∧inR i64 (b_1.i+1)=true∧1=1∧w=w∧h=h∧b_1.n+1=b_1.n+1∧b_1.l++[AV.int i64 b.i,AV.int u8 b_1.i]=b_1.l++[AV.int i64 b.i,
 AV.int u8 b_1.i]∧0=0∧b_1.n+1=b_1.n+1∧b.i=b.i∧b_1.i+1=b_1.i+1∧(∃(k:Nat),b_1.i+1=(↑k:Int)∧k≤3∧b_1.l++[AV.int i64 b.i,AV.int u8 b_1.i]=flatU (unL w h (3*
 Int.toNat b.i+k))∧b_1.n+1=length (unL w h (3*Int.toNat b.i+k)))∧3-Int.toNat (b_1.i+1)<3-Int.toNat b_1.i∧True)∧(ltb b.i (nbI w h b.i b_1.i)=false→inR i64 (b_1.i+1)=
 true∧1=1∧w=w∧h=h∧b_1.n=b_1.n∧b_1.l=b_1.l∧0=0∧b_1.n=b_1.n∧b.i=b.i∧b_1.i+1=b_1.i+1∧(∃(k:Nat),b_1.i+1=(↑k:Int)∧k≤3∧b_1.l=flatU (unL w h (3*
 Int.toNat b.i+k))∧b_1.n=length (unL w h (3*Int.toNat b.i+k)))∧3-Int.toNat (b_1.i+1)<3-Int.toNat b_1.i∧True))∧(ltb b_1.i 3=false→inR i64 (b.i+1)=true∧1=1∧w=w∧h
 =h∧b_1.n=b_1.n∧b_1.l=b_1.l∧0=0∧b_1.n=b_1.n∧b.i+1=b.i+1∧(∃(k:Nat),b.i+1=(↑k:Int)∧k≤Int.toNat (4*w*h)∧b_1.l=flatU (unL w h (3*k))∧b_1.n=length (unL
 w h (3*k)))∧Int.toNat (4*w*h)-Int.toNat (b.i+1)<Int.toNat (4*w*h)-Int.toNat b.i∧True))∧(ltb b.i (4*w*h)=false→b.n=b.n∧Cont.vals b.l=Cont.vals (flatU (units w h))
 ∧b.n=length (units w h)∧True)):=by kernel_rfl

end Go.Proofs.YtfpcbimohikhmaaDoor.X
