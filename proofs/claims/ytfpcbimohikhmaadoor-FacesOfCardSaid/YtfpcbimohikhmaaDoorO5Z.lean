/-
 What is to be shown of the functions (made by a program).
-/
import Derived.Test.YtfpcbimohikhmaaDoorD5Z
import Derived.KernelRfl
set_option maxRecDepth 1000000
set_option linter.unusedVariables false
namespace Go.Proofs.YtfpcbimohikhmaaDoor.X
open Go Go.Ab
open List IntKind

theorem ob_o25 (w h:Int)(l:List Cr):fnP (CP5) G 10000 fe25 (.r [] 0 (.r [] 1 (.r [] 0 (.cnd (.r [] 1 (.ghc 65 2 9001 3 (Cont.vals []) .nil)) (.r [] 3 (.r [] 1 (.r [] 0 (.lp (l25 l) [] [] (fun b=>(.r [] 0 (.cnd (.r [] 0 (.r [(646,.auto,Dr.val [AV.int u8 (cK l b.i)])] 0 (.r [] 0 .nil))) (.r [] 3 .nil)))))))))))) ([patV w h l]) ([patR (chkI w h l==0) w h (opR w h l),.int .i64 (chkI w h l)]) ([blkR (opR w h l)])=(
 (fun(zz0:Nat)=>(okA (flatC l) (length l)∧edg (unC (flatC l)))∧((chkI w h (unC (flatC l)) !=0)=true→0=length (opR w h l)∧0=length (opR w h l)∧[]=flatC (opR w h l)∧0
 =bI (chkI w h l==0) w 0∧0=bI (chkI w h l==0) h 0∧0=length (opR w h l)∧chkI w h (unC (flatC l))=chkI w h l∧True)∧((chkI w h (unC (flatC l)) !=0)=false→leb (↑(length
 l):Int) (↑(length l):Int)=true∧leb ((↑(length l):Int)*16) 140737488355328=true∧qx zz0 (length l=Int.toNat (↑(length l):Int)∧Cont.size (Cont.vals (flatC l))=length l*
 3∧qx zz0 (1=1∧w=w∧h=h∧qx (Cont.vals (flatC l)) (length l=length l∧1=1∧iI 0=0∧iI 0=0∧Int.toNat (↑(length l):Int)=length l∧Int.toNat (↑(length l):Int)=
 length l∧[]++flatC l=[]++flatC l∧0=0∧0=0∧qx zz0 (qx (↑zz0:Int) (iI 0=0∧(∃(n:Nat),0=(↑n:Int)∧n≤length l∧[]++flatC l=flatC (take n (opL l)++drop n
 l))∧∀(b:L25),(fun(zz1:List Int)=>(∃(n:Nat),b.i=(↑n:Int)∧n≤length l∧b.l=flatC (take n (opL l)++drop n l))→(ltb b.i (↑zz0:Int)=true→leb 0 b.i=true∧ltb
 b.i (↑zz0:Int)=true∧length l=Int.toNat (↑(length l):Int)∧length l=Int.toNat (↑(length l):Int)∧length l=Int.toNat (↑(length l):Int)∧b.l[Int.toNat b.i*3+2]? =some
 (AV.int u8 (cK l b.i))∧leb 0 (cK l b.i)=true∧ltb (cK l b.i) 4=true∧ltn 0 (Cont.size (Cont.ints u8 zz1))=true∧leb 0 b.i=true∧ltb b.i (↑zz0:Int)=true∧length l=
 Int.toNat (↑(length l):Int)∧length l=Int.toNat (↑(length l):Int)∧length l=Int.toNat (↑(length l):Int)∧len' (Int.toNat b.i*3+2+1) (Cont.size (Cont.vals b.l))=true∧
 inR i64 (b.i+1)=true∧1=1∧w=w∧h=h∧qx (Cont.vals (flatC l)) (length l=length l∧1=1∧iI 0=0∧iI 0=0∧length l=length l∧length l=length l∧qx (set b.l
 (Int.toNat b.i*3+2) (AV.int u8 (getD zz1 0 0))) (0=0∧0=0∧qx zz0 (qx (↑zz0:Int) (b.i+1=b.i+1∧(∃(n:Nat),b.i+1=(↑n:Int)∧n≤length l∧set b.l (Int.toNat b.i*
 3+2) (AV.int u8 (getD zz1 0 0))=flatC (take n (opL l)++drop n l))∧length l-Int.toNat (b.i+1)<length l-Int.toNat b.i∧True)))))∧(ltb b.i (↑zz0:Int)=false→length l=
 length (opR w h l)∧length l=length (opR w h l)∧b.l=flatC (opR w h l)∧w=bI (chkI w h l==0) w 0∧h=bI (chkI w h l==0) h 0∧Int.toNat (↑(length l):Int)=length (opR w h
 l)∧0=chkI w h l∧True)) (drop (Int.toNat (cK l b.i)) [0,2,1,3])))))))) (Int.toNat (↑(length l):Int))):=by kernel_rfl

theorem ob_o14 (W H:Int)(ks:List Int):fnP (CQ5) G 10000 fe14 (.r [] 0 (.r [] 307 (.r [] 5 (.r [] 0 (.lp (l14 (6*dim W*dim H) ks) [] [] (fun b=>(.rs 5 [] 0 28 (.r [] 7 (.cnd (.r [] 33 (.r [] 0 .nil)) (.r [] 9 .nil))) (.r [] 3 (.lit (.r [] 9 .nil)))))))))) ([.agg [.int .u8 W,.int .u8 H,.imm (.ints .u8 ks) ks.length none]]) ([.agg [.int .i64 (dim W),.int .i64 (dim H),.full 0 (ofL W H ks).length]]) ([blkC (flatC (ofL W H ks)) (ofL W H ks).length])=(
 (fun(zz0:Nat)=>inR i64 (Int.tmod W 4)=true∧inR i64 (1+Int.tmod W 4)=true∧inR i64 (Int.tmod H 4)=true∧inR i64 (1+Int.tmod H 4)=true∧inR i64 (6*(1+Int.tmod W 4))=
 true∧inR i64 (6*(1+Int.tmod W 4)*(1+Int.tmod H 4))=true∧leb 0 (6*(1+Int.tmod W 4)*(1+Int.tmod H 4))=true∧leb (6*(1+Int.tmod W 4)*(1+Int.tmod H 4)) (6*(1+
 Int.tmod W 4)*(1+Int.tmod H 4))=true∧leb (6*(1+Int.tmod W 4)*(1+Int.tmod H 4)*1) 140737488355328=true∧1=1∧W=W∧H=H∧qs u8 ks (1=1∧iI 0=0∧iI 0=0∧1
 =1∧qx (1+Int.tmod W 4) (qx (1+Int.tmod H 4) (Int.toNat (6*(1+Int.tmod W 4)*(1+Int.tmod H 4))=Int.toNat (6*dim W*dim H)∧Int.toNat (6*(1+Int.tmod W 4)*(1+
 Int.tmod H 4))=Int.toNat (6*dim W*dim H)∧qx (replicate zz0 (0:Int)) (0=0∧0=0∧0=0∧qx zz0 (iI 0=0∧(∃(m:Nat),0=(↑m:Int)∧(↑m:Int)≤6*dim W*dim H∧m≤
 length ks∧replicate zz0 (0:Int)=map (fun(k:Int)=>Int.tmod k 4) (take m ks)++replicate (Int.toNat (6*dim W*dim H)-m) (0:Int))∧∀(b:L19),(∃(m:Nat),b.i=(↑m:
 Int)∧(↑m:Int)≤6*dim W*dim H∧m≤length ks∧b.l=map (fun(k:Int)=>Int.tmod k 4) (take m ks)++replicate (Int.toNat (6*dim W*dim H)-m) (0:Int))→Int.toNat (6*dim
 W*dim H)=Int.toNat (6*(1+Int.tmod W 4)*(1+Int.tmod H 4))∧(ltb b.i (↑zz0:Int)=true→(ltb b.i (↑(length ks):Int)=true→rd u8 ks b.i (leb 0 b.i=true∧ltb b.i (↑zz0:
 Int)=true∧Int.toNat (6*dim W*dim H)=Int.toNat (6*(1+Int.tmod W 4)*(1+Int.tmod H 4))∧Int.toNat (6*dim W*dim H)=Int.toNat (6*(1+Int.tmod W 4)*(1+Int.tmod H
 4))∧len' (Int.toNat b.i+1) (Cont.size (Cont.ints u8 b.l))=true∧inR i64 (b.i+1)=true∧1=1∧W=W∧H=H∧qs u8 ks (1=1∧iI 0=0∧iI 0=0∧1=1∧qx (1+Int.tmod W
 4) (qx (1+Int.tmod H 4) (qx (Int.toNat (6*dim W*dim H)) (qx (Int.toNat (6*dim W*dim H)) (qx (set b.l (Int.toNat b.i) (Int.tmod (getD (drop (Int.toNat b.i) ks) 0 0) 4)) (0=0∧0=
 0∧0=0∧qx zz0 (b.i+1=b.i+1∧(∃(m:Nat),b.i+1=(↑m:Int)∧(↑m:Int)≤6*dim W*dim H∧m≤length ks∧set b.l (Int.toNat b.i) (Int.tmod (getD (drop (Int.toNat b.i)
 ks) 0 0) 4)=map (fun(k:Int)=>Int.tmod k 4) (take m ks)++replicate (Int.toNat (6*dim W*dim H)-m) (0:Int))∧Int.toNat (6*dim W*dim H)-Int.toNat (b.i+1)<Int.toNat (6
 *dim W*dim H)-Int.toNat b.i∧True)))))))))∧(ltb b.i (↑(length ks):Int)=false→Int.toNat (6*dim W*dim H)=Int.toNat (6*(1+Int.tmod W 4)*(1+Int.tmod H 4))∧(s5 (1+
 Int.tmod W 4) (1+Int.tmod H 4)∧Int.toNat (6*(1+Int.tmod W 4)*(1+Int.tmod H 4))=length b.l∧length b.l<1000000000)∧length (wthL (units (1+Int.tmod W 4) (1+Int.tmod H
 4)) b.l)=length (ofL W H ks)∧flatC (wthL (units (1+Int.tmod W 4) (1+Int.tmod H 4)) b.l)=flatC (ofL W H ks)∧1+Int.tmod W 4=dim W∧1+Int.tmod H 4=dim H∧length (wthL
 (units (1+Int.tmod W 4) (1+Int.tmod H 4)) b.l)=length (ofL W H ks)∧True))∧(ltb b.i (↑zz0:Int)=false→Int.toNat (6*dim W*dim H)=Int.toNat (6*(1+Int.tmod W 4)*(1+
 Int.tmod H 4))∧(s5 (1+Int.tmod W 4) (1+Int.tmod H 4)∧Int.toNat (6*(1+Int.tmod W 4)*(1+Int.tmod H 4))=length b.l∧length b.l<1000000000)∧length (wthL (units (1+
 Int.tmod W 4) (1+Int.tmod H 4)) b.l)=length (ofL W H ks)∧flatC (wthL (units (1+Int.tmod W 4) (1+Int.tmod H 4)) b.l)=flatC (ofL W H ks)∧1+Int.tmod W 4=dim W∧1+Int.tmod H
 4=dim H∧length (wthL (units (1+Int.tmod W 4) (1+Int.tmod H 4)) b.l)=length (ofL W H ks)∧True))))))) (Int.toNat (6*(1+Int.tmod W 4)*(1+Int.tmod H 4)))):=by kernel_rfl

end Go.Proofs.YtfpcbimohikhmaaDoor.X
