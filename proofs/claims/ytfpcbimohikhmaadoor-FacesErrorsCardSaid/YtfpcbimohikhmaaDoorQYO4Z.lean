/-
 What is to be shown of the functions (made by a program).
-/
import Derived.Test.YtfpcbimohikhmaaDoorQPJZ
import Derived.KernelRfl
set_option maxRecDepth 1000000
set_option linter.unusedVariables false
namespace Go.Proofs.YtfpcbimohikhmaaDoor.X
open Go Go.Ab
open List IntKind

theorem ob_o46 (w h:Int)(l:List Cr):fnP (YV) G 10000 fe46 (.r [] 0 (.r [] 13 (.r [] 0 (.lit (.r [] 0 (.r [] 0 (.lp (l46 (facL w h l)) [] [] (fun b=>(.r [] 0 (.cnd (.r [] 0 (.r [] 0 (.r [] 0 .nil))) (.r [] 0 .nil))))))))))) ([patV w h l]) ([.full 0 (kF (facL w h l)),.int .i64 0]) ([⟨.ints .i64 (szL (facL w h l) (kF (facL w h l))),1,kF (facL w h l),some (kF (facL w h l)),some false,true,false⟩])=(
 (fun(zz1:Nat)=>(s5 w h∧okV w h (flatC l) (length l))∧(nC w h=length (facL w h (unC (flatC l)))∧0<nC w h∧nC w h<1000000000)∧inR i64 (maxL (facL w h (unC (flatC l)))+1)
 =true∧leb 0 (maxL (facL w h (unC (flatC l)))+1)=true∧leb (maxL (facL w h (unC (flatC l)))+1) (maxL (facL w h (unC (flatC l)))+1)=true∧leb ((maxL (facL w h (unC (flatC l)))+
 1)*8) 140737488355328=true∧1=1∧w=w∧h=h∧qx (Cont.vals (flatC l)) (length l=length l∧Int.toNat (maxL (facL w h (unC (flatC l)))+1)=kF (facL w h l)∧Int.toNat (maxL
 (facL w h (unC (flatC l)))+1)=kF (facL w h l)∧qx (replicate zz1 (0:Int)) (qx zz1 (qx (Cont.ints i64 (facL w h (unC (flatC l)))) (nC w h=nC w h∧nC w h=nC w h∧qx (↑(nC w h):
 Int) (iI 0=0∧(∃(n:Nat),0=(↑n:Int)∧n≤length (facL w h l)∧replicate zz1 (0:Int)=szL (take n (facL w h l)) (kF (facL w h l)))∧∀(b:LI1),(fun(zz0:Int)=>(∃(n:
 Nat),b.i=(↑n:Int)∧n≤length (facL w h l)∧b.m=szL (take n (facL w h l)) (kF (facL w h l)))→(ltb b.i (↑(nC w h):Int)=true→leb 0 b.i=true∧ltb b.i (↑(nC w h):Int)=
 true∧ltn 0 (Cont.size (Cont.ints i64 (facL w h (unC (flatC l)))))=true∧ltn 0 (Cont.size (Cont.ints i64 (drop (Int.toNat b.i) (facL w h (unC (flatC l))))))=true∧leb 0 zz0=true∧
 ltb zz0 (↑zz1:Int)=true∧kF (facL w h l)=Int.toNat (maxL (facL w h (unC (flatC l)))+1)∧kF (facL w h l)=Int.toNat (maxL (facL w h (unC (flatC l)))+1)∧ltn (Int.toNat zz0)
 (Cont.size (Cont.ints i64 b.m))=true∧inR i64 (getD b.m (Int.toNat zz0) 0+1)=true∧leb 0 zz0=true∧ltb zz0 (↑zz1:Int)=true∧kF (facL w h l)=Int.toNat (maxL (facL w h (unC
 (flatC l)))+1)∧kF (facL w h l)=Int.toNat (maxL (facL w h (unC (flatC l)))+1)∧len' (Int.toNat zz0+1) (Cont.size (Cont.ints i64 b.m))=true∧inR i64 (b.i+1)=true∧1=1∧w
 =w∧h=h∧qx (Cont.vals (flatC l)) (length l=length l∧qx (kF (facL w h l)) (qx (kF (facL w h l)) (set b.m (Int.toNat zz0) (getD b.m (Int.toNat zz0) 0+1)=set b.m (Int.toNat zz0)
 (getD b.m (Int.toNat zz0) 0+1)∧qx zz1 (qx (Cont.ints i64 (facL w h (unC (flatC l)))) (nC w h=nC w h∧nC w h=nC w h∧qx (↑(nC w h):Int) (b.i+1=b.i+1∧(∃(n:Nat),b.i+1
 =(↑n:Int)∧n≤length (facL w h l)∧set b.m (Int.toNat zz0) (getD b.m (Int.toNat zz0) 0+1)=szL (take n (facL w h l)) (kF (facL w h l)))∧length (facL w h l)-Int.toNat (b.i+1)<
 length (facL w h l)-Int.toNat b.i∧True)))))))∧(ltb b.i (↑(nC w h):Int)=false→qx (kF (facL w h l)) (qx (kF (facL w h l)) (b.m=szL (facL w h l) (kF (facL w h l))∧Int.toNat
 (maxL (facL w h (unC (flatC l)))+1)=kF (facL w h l)∧iI 0=0∧True)))) (getD (drop (Int.toNat b.i) (facL w h (unC (flatC l)))) 0 0))))))) (Int.toNat (maxL (facL w h (unC (flatC l)))+
 1))):=by kernel_rfl

theorem ob_o46x (w h:Int)(l:List Cr):fnP (YW) G 10000 fe46 (.r [] 0 (.r [] 13 (.r [] 0 (.tt (.r [] 0 .nil))))) ([patV w h l]) ([.nils,.int .i64 (chkI w h l)]) ([])=(
 (okA (flatC l) (length l)∧edg (unC (flatC l))∧chkI w h (unC (flatC l))≠0)∧(chkI w h (unC (flatC l)) !=0)=true∧chkI w h (unC (flatC l))=chkI w h l∧True):=by kernel_rfl

theorem ob_o47v (w h f:Int)(l:List Cr):fnP (YV2) G 10000 fe47 (.r [] 0 (.r [] 13 (.r [] 0 (.lit (.r [] 0 (.r [] 0 (.gho 8 9001 1 (Cont.ints i64 []) (.lp (l47 (facL w h l) f) [] [] (fun b=>(.r [] 0 (.cnd (.r [] 0 (.r [] 0 (.cnd (.r [] 4 (.r [] 0 .nil)) (.r [] 0 .nil)))) (.r [] 0 (.ff (.r [] 0 .nil)))))))))))))) ([patV w h l,.int .i64 f]) ([.imm (.ints .i64 (celL (facL w h l) f)) (celL (facL w h l) f).length (some (celL (facL w h l) f).length),.int .i64 0]) ([])=(
 (s5 w h∧okV w h (flatC l) (length l))∧1=1∧w=w∧h=h∧qx (Cont.vals (flatC l)) (length l=length l∧0=0∧iL []=[]∧f=f∧0=0∧qx (Cont.ints i64 (facL w h (unC (flatC
 l)))) (nC w h=nC w h∧nC w h=nC w h∧qx (↑(nC w h):Int) (iI 0=0∧(∃(k:Nat),0=(↑k:Int)∧k≤length (facL w h l)∧[]=celP (facL w h l) f k∧0=length (celP (facL w h
 l) f k))∧∀(b:LI6),(fun(zz0:Bool)=>(∃(k:Nat),b.i=(↑k:Int)∧k≤length (facL w h l)∧b.l=celP (facL w h l) f k∧b.n=length (celP (facL w h l) f k))→(ltb b.i (↑(nC w
 h):Int)=true→leb 0 b.i=true∧ltb b.i (↑(nC w h):Int)=true∧ltn 0 (Cont.size (Cont.ints i64 (facL w h (unC (flatC l)))))=true∧ltn 0 (Cont.size (Cont.ints i64 (drop
 (Int.toNat b.i) (facL w h (unC (flatC l))))))=true∧(zz0=true→b.n=b.n∧len' ((b.n+1)*8) 140737488355328=true∧inR i64 (b.i+1)=true∧1=1∧w=w∧h=h∧qx
 (Cont.vals (flatC l)) (length l=length l∧b.n+1=b.n+1∧b.l++[b.i]=b.l++[b.i]∧f=f∧b.n+1=b.n+1∧qx (Cont.ints i64 (facL w h (unC (flatC l)))) (nC w h=nC w h∧nC
 w h=nC w h∧qx (↑(nC w h):Int) (b.i+1=b.i+1∧(∃(k:Nat),b.i+1=(↑k:Int)∧k≤length (facL w h l)∧b.l++[b.i]=celP (facL w h l) f k∧b.n+1=length (celP (facL w
 h l) f k))∧length (facL w h l)-Int.toNat (b.i+1)<length (facL w h l)-Int.toNat b.i∧True))))∧(zz0=false→inR i64 (b.i+1)=true∧1=1∧w=w∧h=h∧qx (Cont.vals
 (flatC l)) (length l=length l∧b.n=b.n∧b.l=b.l∧f=f∧b.n=b.n∧qx (Cont.ints i64 (facL w h (unC (flatC l)))) (nC w h=nC w h∧nC w h=nC w h∧qx (↑(nC w h):Int) (b.i+1
 =b.i+1∧(∃(k:Nat),b.i+1=(↑k:Int)∧k≤length (facL w h l)∧b.l=celP (facL w h l) f k∧b.n=length (celP (facL w h l) f k))∧length (facL w h l)-Int.toNat (b.i+1)<
 length (facL w h l)-Int.toNat b.i∧True)))))∧(ltb b.i (↑(nC w h):Int)=false→b.n=b.n∧((↑b.n:Int)==0)=false∧b.n=b.n∧(b.n=length b.l∧b.n<1000000000)∧Cont.ints
 i64 b.l=Cont.ints i64 (celL (facL w h l) f)∧b.n=length (celL (facL w h l) f)∧b.n=length (celL (facL w h l) f)∧iI 0=0∧True)) (getD (drop (Int.toNat b.i) (facL w h (unC (flatC
 l)))) 0 0==f))))):=by kernel_rfl

theorem ob_o47x (w h f:Int)(l:List Cr):fnP (YW) G 10000 fe47 (.r [] 0 (.r [] 13 (.r [] 0 (.tt (.r [] 0 .nil))))) ([patV w h l,.int .i64 f]) ([.nils,.int .i64 (chkI w h l)]) ([])=(
 (okA (flatC l) (length l)∧edg (unC (flatC l))∧chkI w h (unC (flatC l))≠0)∧(chkI w h (unC (flatC l)) !=0)=true∧chkI w h (unC (flatC l))=chkI w h l∧True):=by kernel_rfl

theorem ob_o80_0 (x y i:Int):fnP (T0) G 10000 fe80 (.r [] 0 (.r [(137,.auto,Dr.val [AV.int i64 (secI 0 i)])] 15 (.r [] 0 (.cnd (.r [] 1 .nil) (.r [] 1 .nil))))) ([.agg [.int .i64 x,.int .i64 y,.int .u8 0],.int .i64 i]) ([.agg [.int .i64 (secI 0 i),.int .i64 (wdI i)]]) ([])=(
 leb 0 i=true∧ltb i 3=true∧[AV.int i64 5,AV.int i64 0,AV.int i64 3][Int.toNat i]? =some (AV.int i64 (secI 0 i))∧((i==0)=true→secI 0 i=secI 0 i∧2=wdI i∧True)∧((i==0)=
 false→secI 0 i=secI 0 i∧1=wdI i∧True)):=by kernel_rfl

theorem ob_o80_1 (x y i:Int):fnP (T0) G 10000 fe80 (.r [] 0 (.r [(137,.auto,Dr.val [AV.int i64 (secI 1 i)])] 15 (.r [] 0 (.cnd (.r [] 1 .nil) (.r [] 1 .nil))))) ([.agg [.int .i64 x,.int .i64 y,.int .u8 1],.int .i64 i]) ([.agg [.int .i64 (secI 1 i),.int .i64 (wdI i)]]) ([])=(
 leb 0 i=true∧ltb i 3=true∧[AV.int i64 7,AV.int i64 5,AV.int i64 2][Int.toNat i]? =some (AV.int i64 (secI 1 i))∧((i==0)=true→secI 1 i=secI 1 i∧2=wdI i∧True)∧((i==0)=
 false→secI 1 i=secI 1 i∧1=wdI i∧True)):=by kernel_rfl

theorem ob_o80_2 (x y i:Int):fnP (T0) G 10000 fe80 (.r [] 0 (.r [(137,.auto,Dr.val [AV.int i64 (secI 2 i)])] 15 (.r [] 0 (.cnd (.r [] 1 .nil) (.r [] 1 .nil))))) ([.agg [.int .i64 x,.int .i64 y,.int .u8 2],.int .i64 i]) ([.agg [.int .i64 (secI 2 i),.int .i64 (wdI i)]]) ([])=(
 leb 0 i=true∧ltb i 3=true∧[AV.int i64 1,AV.int i64 4,AV.int i64 7][Int.toNat i]? =some (AV.int i64 (secI 2 i))∧((i==0)=true→secI 2 i=secI 2 i∧2=wdI i∧True)∧((i==0)=
 false→secI 2 i=secI 2 i∧1=wdI i∧True)):=by kernel_rfl

theorem ob_o80_3 (x y i:Int):fnP (T0) G 10000 fe80 (.r [] 0 (.r [(137,.auto,Dr.val [AV.int i64 (secI 3 i)])] 15 (.r [] 0 (.cnd (.r [] 1 .nil) (.r [] 1 .nil))))) ([.agg [.int .i64 x,.int .i64 y,.int .u8 3],.int .i64 i]) ([.agg [.int .i64 (secI 3 i),.int .i64 (wdI i)]]) ([])=(
 leb 0 i=true∧ltb i 3=true∧[AV.int i64 3,AV.int i64 1,AV.int i64 6][Int.toNat i]? =some (AV.int i64 (secI 3 i))∧((i==0)=true→secI 3 i=secI 3 i∧2=wdI i∧True)∧((i==0)=
 false→secI 3 i=secI 3 i∧1=wdI i∧True)):=by kernel_rfl

theorem ob_o79_0 (x y:Int):fnP (Y92) G 10000 fe79 (.r [] 0 (.r [] 3 (.ff (.r [] 31 (.r [] 7 (.r [] 0 (.un (.r [] 0 (.lit (.r [] 0 (.r [] 463 (.r [] 463 (.r [] 1 (.un (.r [] 0 (.lit (.r [] 0 (.r [] 463 (.r [] 463 (.r [] 1 (.un (.r [] 0 (.lit (.r [] 0 (.r [] 463 (.r [] 463 (.r [] 1 (.un (.r [] 0 (.lit (.r [] 3 .nil))))))))))))))))))))))))))))))) ([.agg [.int .i64 x,.int .i64 y,.int .u8 0]]) ([.agg (corV x y 0),.int .i64 0]) ([])=(
 (bI (okCl x y 0) 0 1 !=0)=false∧inR i64 (2*x)=true∧inR i64 (1+2*x)=true∧inR i64 (2*y)=true∧inR i64 (1+2*y)=true∧inR i64 (2*x)=true∧inR i64 (0+2*x)=true∧
 inR i64 (2*y)=true∧inR i64 (0+2*y)=true∧inR i64 (2*x)=true∧inR i64 (2+2*x)=true∧inR i64 (2*y)=true∧inR i64 (0+2*y)=true∧1+2*x=2*x+1∧1+2*y=2
 *y+1∧0+2*x=2*x+0∧0+2*y=2*y+0∧2+2*x=2*x+2∧0+2*y=2*y+0∧iI 0=0∧True):=by kernel_rfl

theorem ob_o79_1 (x y:Int):fnP (Y92) G 10000 fe79 (.r [] 0 (.r [] 3 (.ff (.r [] 31 (.r [] 7 (.r [] 0 (.un (.r [] 0 (.lit (.r [] 0 (.r [] 463 (.r [] 463 (.r [] 1 (.un (.r [] 0 (.lit (.r [] 0 (.r [] 463 (.r [] 463 (.r [] 1 (.un (.r [] 0 (.lit (.r [] 0 (.r [] 463 (.r [] 463 (.r [] 1 (.un (.r [] 0 (.lit (.r [] 3 .nil))))))))))))))))))))))))))))))) ([.agg [.int .i64 x,.int .i64 y,.int .u8 1]]) ([.agg (corV x y 1),.int .i64 0]) ([])=(
 (bI (okCl x y 1) 0 1 !=0)=false∧inR i64 (2*x)=true∧inR i64 (1+2*x)=true∧inR i64 (2*y)=true∧inR i64 (1+2*y)=true∧inR i64 (2*x)=true∧inR i64 (2+2*x)=true∧
 inR i64 (2*y)=true∧inR i64 (2+2*y)=true∧inR i64 (2*x)=true∧inR i64 (2+2*x)=true∧inR i64 (2*y)=true∧inR i64 (0+2*y)=true∧1+2*x=2*x+1∧1+2*y=2
 *y+1∧2+2*x=2*x+2∧2+2*y=2*y+2∧2+2*x=2*x+2∧0+2*y=2*y+0∧iI 0=0∧True):=by kernel_rfl

theorem ob_o79_2 (x y:Int):fnP (Y92) G 10000 fe79 (.r [] 0 (.r [] 3 (.ff (.r [] 31 (.r [] 7 (.r [] 0 (.un (.r [] 0 (.lit (.r [] 0 (.r [] 463 (.r [] 463 (.r [] 1 (.un (.r [] 0 (.lit (.r [] 0 (.r [] 463 (.r [] 463 (.r [] 1 (.un (.r [] 0 (.lit (.r [] 0 (.r [] 463 (.r [] 463 (.r [] 1 (.un (.r [] 0 (.lit (.r [] 3 .nil))))))))))))))))))))))))))))))) ([.agg [.int .i64 x,.int .i64 y,.int .u8 2]]) ([.agg (corV x y 2),.int .i64 0]) ([])=(
 (bI (okCl x y 2) 0 1 !=0)=false∧inR i64 (2*x)=true∧inR i64 (1+2*x)=true∧inR i64 (2*y)=true∧inR i64 (1+2*y)=true∧inR i64 (2*x)=true∧inR i64 (2+2*x)=true∧
 inR i64 (2*y)=true∧inR i64 (2+2*y)=true∧inR i64 (2*x)=true∧inR i64 (0+2*x)=true∧inR i64 (2*y)=true∧inR i64 (2+2*y)=true∧1+2*x=2*x+1∧1+2*y=2
 *y+1∧2+2*x=2*x+2∧2+2*y=2*y+2∧0+2*x=2*x+0∧2+2*y=2*y+2∧iI 0=0∧True):=by kernel_rfl

theorem ob_o79_3 (x y:Int):fnP (Y92) G 10000 fe79 (.r [] 0 (.r [] 3 (.ff (.r [] 31 (.r [] 7 (.r [] 0 (.un (.r [] 0 (.lit (.r [] 0 (.r [] 463 (.r [] 463 (.r [] 1 (.un (.r [] 0 (.lit (.r [] 0 (.r [] 463 (.r [] 463 (.r [] 1 (.un (.r [] 0 (.lit (.r [] 0 (.r [] 463 (.r [] 463 (.r [] 1 (.un (.r [] 0 (.lit (.r [] 3 .nil))))))))))))))))))))))))))))))) ([.agg [.int .i64 x,.int .i64 y,.int .u8 3]]) ([.agg (corV x y 3),.int .i64 0]) ([])=(
 (bI (okCl x y 3) 0 1 !=0)=false∧inR i64 (2*x)=true∧inR i64 (1+2*x)=true∧inR i64 (2*y)=true∧inR i64 (1+2*y)=true∧inR i64 (2*x)=true∧inR i64 (0+2*x)=true∧
 inR i64 (2*y)=true∧inR i64 (0+2*y)=true∧inR i64 (2*x)=true∧inR i64 (0+2*x)=true∧inR i64 (2*y)=true∧inR i64 (2+2*y)=true∧1+2*x=2*x+1∧1+2*y=2
 *y+1∧0+2*x=2*x+0∧0+2*y=2*y+0∧0+2*x=2*x+0∧2+2*y=2*y+2∧iI 0=0∧True):=by kernel_rfl

end Go.Proofs.YtfpcbimohikhmaaDoor.X
