/-
 What is to be shown of the functions (made by a program).
-/
import Derived.Test.YtfpcbimohikhmaaDoorQD5Z
import Derived.KernelRfl
set_option maxRecDepth 1000000
set_option linter.unusedVariables false
namespace Go.Proofs.YtfpcbimohikhmaaDoor.X
open Go Go.Ab
open List IntKind

theorem ob_o14 (W H:Int)(ks:List Int):fnP (CQ5) G 10000 fe14 (.r [] 0 (.r [] 307 (.r [] 5 (.r [] 0 (.lp (l14 (6*dim W*dim H) ks) [] [] (fun b=>(.rs 5 [] 0 28 (.r [] 7 (.cnd (.r [] 33 (.r [] 0 .nil)) (.r [] 9 .nil))) (.r [] 3 (.lit (.r [] 9 .nil)))))))))) ([.agg [.int .u8 W,.int .u8 H,.imm (.ints .u8 ks) ks.length none]]) ([.agg [.int .i64 (dim W),.int .i64 (dim H),.full 0 (ofL W H ks).length]]) ([blkC (flatC (ofL W H ks)) (ofL W H ks).length])=(
 (fun(zz0:Nat)=>inR i64 (Int.tmod W 4)=true∧inR i64 (1+Int.tmod W 4)=true∧inR i64 (Int.tmod H 4)=true∧inR i64 (1+Int.tmod H 4)=true∧inR i64 (6*(1+Int.tmod W 4))=
 true∧inR i64 (6*(1+Int.tmod W 4)*(1+Int.tmod H 4))=true∧leb 0 (6*(1+Int.tmod W 4)*(1+Int.tmod H 4))=true∧leb (6*(1+Int.tmod W 4)*(1+Int.tmod H 4)) (6*(1+
 Int.tmod W 4)*(1+Int.tmod H 4))=true∧leb (6*(1+Int.tmod W 4)*(1+Int.tmod H 4)*1) 140737488355328=true∧1=1∧W=W∧H=H∧qs u8 ks (1=1∧iI 0=0∧iI 0=0∧1
 =1∧qx (1+Int.tmod W 4) (qx (1+Int.tmod H 4) (Int.toNat (6*(1+Int.tmod W 4)*(1+Int.tmod H 4))=Int.toNat (6*dim W*dim H)∧Int.toNat (6*(1+Int.tmod W 4)*(1+
 Int.tmod H 4))=Int.toNat (6*dim W*dim H)∧qx (replicate zz0 (0:Int)) (0=0∧0=0∧0=0∧qx zz0 (iI 0=0∧(∃(m:Nat),0=(↑m:Int)∧(↑m:Int)≤6*dim W*dim H∧m≤
 length ks∧replicate zz0 (0:Int)=map (fun(k:Int)=>Int.tmod k 4) (take m ks)++replicate (Int.toNat (6*dim W*dim H)-m) (0:Int))∧∀(b:L19),(∃(m:Nat),b.i=(↑m:
 Int)∧(↑m:Int)≤6*dim W*dim H∧m≤length ks∧b.l=map (fun(k:Int)=>Int.tmod k 4) (take m ks)++replicate (Int.toNat (6*dim W*dim H)-m) (0:Int))→Int.toNat (6*dim
 W*dim H)=Int.toNat (6*(1+Int.tmod W 4)*(1+Int.tmod H 4))∧(ltb b.i (↑zz0:Int)=true→(ltb b.i (↑(length ks):Int)=true→rd u8 ks b.i (leb 0 b.i=true∧ltb b.i (↑zz0:
 Int)=true∧Int.toNat (6*dim W*dim H)=Int.toNat (6*(1+Int.tmod W 4)*(1+Int.tmod H 4))∧Int.toNat (6*dim W*dim H)=Int.toNat (6*(1+Int.tmod W 4)*(1+Int.tmod H
 4))∧len' (Int.toNat b.i+1) (Cont.size (Cont.ints u8 b.l))=true∧inR i64 (b.i+1)=true∧1=1∧W=W∧H=H∧qs u8 ks (1=1∧iI 0=0∧iI 0=0∧1=1∧qx (1+Int.tmod W
 4) (qx (1+Int.tmod H 4) (qx (Int.toNat (6*dim W*dim H)) (qx (Int.toNat (6*dim W*dim H)) (qx (set b.l (Int.toNat b.i) (Int.tmod (getD (drop (Int.toNat b.i) ks) 0 0) 4)) (0=0∧0=
 0∧0=0∧qx zz0 (b.i+1=b.i+1∧(∃(m:Nat),b.i+1=(↑m:Int)∧(↑m:Int)≤6*dim W*dim H∧m≤length ks∧set b.l (Int.toNat b.i) (Int.tmod (getD (drop (Int.toNat b.i)
 ks) 0 0) 4)=map (fun(k:Int)=>Int.tmod k 4) (take m ks)++replicate (Int.toNat (6*dim W*dim H)-m) (0:Int))∧Int.toNat (6*dim W*dim H)-Int.toNat (b.i+1)<Int.toNat (6
 *dim W*dim H)-Int.toNat b.i∧True)))))))))∧(ltb b.i (↑(length ks):Int)=false→Int.toNat (6*dim W*dim H)=Int.toNat (6*(1+Int.tmod W 4)*(1+Int.tmod H 4))∧(s5 (1+
 Int.tmod W 4) (1+Int.tmod H 4)∧Int.toNat (6*(1+Int.tmod W 4)*(1+Int.tmod H 4))=length b.l∧length b.l<1000000000)∧length (wthL (units (1+Int.tmod W 4) (1+Int.tmod H
 4)) b.l)=length (ofL W H ks)∧flatC (wthL (units (1+Int.tmod W 4) (1+Int.tmod H 4)) b.l)=flatC (ofL W H ks)∧1+Int.tmod W 4=dim W∧1+Int.tmod H 4=dim H∧length (wthL
 (units (1+Int.tmod W 4) (1+Int.tmod H 4)) b.l)=length (ofL W H ks)∧True))∧(ltb b.i (↑zz0:Int)=false→Int.toNat (6*dim W*dim H)=Int.toNat (6*(1+Int.tmod W 4)*(1+
 Int.tmod H 4))∧(s5 (1+Int.tmod W 4) (1+Int.tmod H 4)∧Int.toNat (6*(1+Int.tmod W 4)*(1+Int.tmod H 4))=length b.l∧length b.l<1000000000)∧length (wthL (units (1+
 Int.tmod W 4) (1+Int.tmod H 4)) b.l)=length (ofL W H ks)∧flatC (wthL (units (1+Int.tmod W 4) (1+Int.tmod H 4)) b.l)=flatC (ofL W H ks)∧1+Int.tmod W 4=dim W∧1+Int.tmod H
 4=dim H∧length (wthL (units (1+Int.tmod W 4) (1+Int.tmod H 4)) b.l)=length (ofL W H ks)∧True))))))) (Int.toNat (6*(1+Int.tmod W 4)*(1+Int.tmod H 4)))):=by kernel_rfl

end Go.Proofs.YtfpcbimohikhmaaDoor.X
