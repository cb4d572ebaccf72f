/-
 What is to be shown of the functions (made by a program).
-/
import Derived.Test.YtfpcbimohikhmaaDoorQPJZ
import Derived.KernelRfl
set_option maxRecDepth 1000000
set_option linter.unusedVariables false
namespace Go.Proofs.YtfpcbimohikhmaaDoor.X
open Go Go.Ab
open List IntKind

theorem ob_o49 (w h:Int)(l:List Cr):fnP (YO w h l) G 10000 fe49 (.r [] 0 (.r [] 1 (.r [] 0 (.lit (.r [] 5 (.r [] 21 (.r [] 0 (.r [] 0 (.r [] 1 (.lp (l49 w h l) [] [] (fun b=>(.r [] 0 (.cnd (.r [] 0 (.r [] 1 (.cnd (.r [(835,.auto,Dr.heap)] 0 (.r [] 0 (.r [] 0 .nil))) (.r [] 0 .nil)))) (.r [] 1 .nil)))))))))))))) ([patV w h l]) ([facV w h l,.int .i64 0]) ([])=(
 (fun(zz0:Nat)=>(s5 w h∧okV w h (flatC l) (length l))∧okA (flatC l) (length l)∧s5 w h∧(1=1∧0<4*w*h∧4*w*h<101)∧qx zz0 (1=1∧w=w∧h=h∧qx (Cont.vals
 (flatC l)) (length l=length l∧0=0∧(crF (unC (flatC l))).fst=(crF (unC (flatC l))).fst∧(crF (unC (flatC l))).snd=(crF (unC (flatC l))).snd∧1=1∧1=1∧1=1∧iL [-1]=
 [-1]∧Int.toNat (4*w*h)=nC w h∧Int.toNat (4*w*h)=nC w h∧qx (replicate zz0 (-1)) (1=1∧qx zz0 (0=0∧0=0∧0=0∧0=0∧iI 0=0∧qx (↑zz0:Int) (iI 0=0∧(∃(n
 :Nat),0=(↑n:Int)∧n≤nC w h∧replicate zz0 (-1)=labF w h l n∧0=kP w h l n)∧∀(b:L49),(∃(n:Nat),b.i=(↑n:Int)∧n≤nC w h∧b.out=labF w h l n∧b.m=kP w h l
 n)→(ltb b.i (↑zz0:Int)=true→leb 0 b.i=true∧ltb b.i (↑zz0:Int)=true∧nC w h=Int.toNat (4*w*h)∧nC w h=Int.toNat (4*w*h)∧ltn (Int.toNat b.i) (Cont.size
 (Cont.ints i64 b.out))=true∧(ltb (getD b.out (Int.toNat b.i) 0) 0=true→([(20544,HO.blk (Blk.mk (Cont.maps (MV.mk true [some i64,some u8]) (MV.mk false [none]) (crF (unC (flatC
 l))).fst (crF (unC (flatC l))).snd) 1 0 none (some false) true true)),(322,HO.blk (Blk.mk (Cont.cells [AV.mp 20544]) 1 1 none (some false) true true)),(64,HO.blk (Blk.mk (Cont.cells
 [AV.int i64 w,AV.int i64 h,AV.imm (Cont.vals (flatC l)) (length l) none]) 3 1 none (some false) true true)),(24832,HO.blk (Blk.mk (Cont.ints i64 b.out) 1 (nC w h) (some (nC w h)) (some
 false) true false)),(389,HO.blk (Blk.mk (Cont.cells [AV.full 24832 zz0]) 1 1 none (some false) true true))]=[(20544,HO.blk (Blk.mk (Cont.maps (MV.mk true [some i64,some u8]) (MV.mk
 false [none]) (crF l).fst (crF l).snd) 1 0 none (some false) true true)),(322,HO.blk (Blk.mk (Cont.cells [AV.mp 20544]) 1 1 none (some false) true true)),(64,HO.blk (Blk.mk (Cont.cells
 [AV.int i64 w,AV.int i64 h,AV.imm (Cont.vals (flatC l)) (length l) none]) 3 1 none (some false) true true)),(24832,HO.blk (Blk.mk (Cont.ints i64 b.out) 1 (nC w h) (some (nC w h)) (some
 false) true false)),(389,HO.blk (Blk.mk (Cont.cells [AV.full 24832 (nC w h)]) 1 1 none (some false) true true))]∧b.out=labF w h l (Int.toNat b.i)∧0≤b.i∧b.i<(↑(nC w h):Int)∧
 b.m=kP w h l (Int.toNat b.i)∧rP w h l (Int.toNat b.i)=Int.toNat b.i)∧inR i64 (b.m+1)=true∧inR i64 (b.i+1)=true∧1=1∧w=w∧h=h∧qx (Cont.vals (flatC l)) (length l
 =length l∧0=0∧(crF (unC (flatC l))).fst=(crF (unC (flatC l))).fst∧(crF (unC (flatC l))).snd=(crF (unC (flatC l))).snd∧1=1∧1=1∧1=1∧iL [-1]=[-1]∧nC w h=nC w h
 ∧nC w h=nC w h∧qx (labF w h l (Int.toNat b.i+1)) (1=1∧qx zz0 (0=0∧0=0∧0=0∧0=0∧b.m+1=b.m+1∧qx (↑zz0:Int) (b.i+1=b.i+1∧(∃(n:Nat),b.i+1=(↑n
 :Int)∧n≤nC w h∧labF w h l (Int.toNat b.i+1)=labF w h l n∧b.m+1=kP w h l n)∧nC w h-Int.toNat (b.i+1)<nC w h-Int.toNat b.i∧True)))))∧(ltb (getD b.out (Int.toNat
 b.i) 0) 0=false→inR i64 (b.i+1)=true∧1=1∧w=w∧h=h∧qx (Cont.vals (flatC l)) (length l=length l∧0=0∧(crF (unC (flatC l))).fst=(crF (unC (flatC l))).fst∧(crF
 (unC (flatC l))).snd=(crF (unC (flatC l))).snd∧1=1∧1=1∧1=1∧iL [-1]=[-1]∧nC w h=nC w h∧nC w h=nC w h∧b.out=b.out∧1=1∧qx zz0 (0=0∧0=0∧0=0∧0=0
 ∧b.m=b.m∧qx (↑zz0:Int) (b.i+1=b.i+1∧(∃(n:Nat),b.i+1=(↑n:Int)∧n≤nC w h∧b.out=labF w h l n∧b.m=kP w h l n)∧nC w h-Int.toNat (b.i+1)<nC w h-
 Int.toNat b.i∧True)))))∧(ltb b.i (↑zz0:Int)=false→nC w h=Int.toNat (4*w*h)∧(Int.toNat (4*w*h)=length b.out∧Int.toNat (4*w*h)<1000000000)∧Cont.ints i64 b.out
 =Cont.ints i64 (facL w h l)∧Int.toNat (4*w*h)=nC w h∧Int.toNat (4*w*h)=nC w h∧iI 0=0∧True))))))) (Int.toNat (4*w*h))):=by kernel_rfl

theorem ob_o49x (w h:Int)(l:List Cr):fnP (YX) G 10000 fe49 (.r [] 0 (.r [] 1 (.r [] 0 (.tt (.r [] 0 .nil))))) ([patV w h l]) ([.nils,.int .i64 (chkI w h l)]) ([])=(
 (okA (flatC l) (length l)∧edg (unC (flatC l)))∧(chkI w h (unC (flatC l)) !=0)=true∧chkI w h (unC (flatC l))=chkI w h l∧True):=by kernel_rfl

theorem ob_o43 (w h:Int)(l:List Cr):fnP (YV) G 10000 fe43 (.r [] 0 (.r [] 13 (.r [] 0 (.lit (.r [] 0 .nil))))) ([patV w h l]) ([.int .i64 (maxL (facL w h l)+1),.int .i64 0]) ([])=(
 (s5 w h∧okV w h (flatC l) (length l))∧(nC w h=length (facL w h (unC (flatC l)))∧0<nC w h∧nC w h<1000000000)∧inR i64 (maxL (facL w h (unC (flatC l)))+1)=true∧maxL (facL w h (unC
 (flatC l)))+1=maxL (facL w h l)+1∧iI 0=0∧True):=by kernel_rfl

theorem ob_o43x (w h:Int)(l:List Cr):fnP (YW) G 10000 fe43 (.r [] 0 (.r [] 13 (.r [] 0 (.tt (.r [] 0 .nil))))) ([patV w h l]) ([.int .i64 0,.int .i64 (chkI w h l)]) ([])=(
 (okA (flatC l) (length l)∧edg (unC (flatC l))∧chkI w h (unC (flatC l))≠0)∧(chkI w h (unC (flatC l)) !=0)=true∧iI 0=0∧chkI w h (unC (flatC l))=chkI w h l∧True):=by kernel_rfl

end Go.Proofs.YtfpcbimohikhmaaDoor.X
