/-
 What is to be shown of the functions (made by a program).
-/
import Derived.Test.YtfpcbimohikhmaaDoorQPJZ
import Derived.KernelRfl
set_option maxRecDepth 1000000
set_option linter.unusedVariables false
namespace Go.Proofs.YtfpcbimohikhmaaDoor.X
open Go Go.Ab
open List IntKind

theorem ob_o44x (w h f:Int)(l:List Cr):fnP (YCx) G 10000 fe44 (.r [] 0 (.r [] 13 (.r [] 0 (.tt (.r [] 0 .nil))))) ([patV w h l,.int .i64 f]) ([.bool false,.int .i64 (chkI w h l)]) ([])=(
 (okA (flatC l) (length l)∧edg (unC (flatC l))∧chkI w h (unC (flatC l))≠0)∧(chkI w h (unC (flatC l)) !=0)=true∧false=false∧chkI w h (unC (flatC l))=chkI w h l∧True):=by kernel_rfl

theorem ob_o44v (w h f:Int)(l:List Cr):fnP (YCv) G 10000 fe44 (.r [] 0 (.r [] 13 (.r [] 0 (.lit (.r [] 0 (.r [] 0 (.lp (l44 w (celL (facL w h l) f)) [] [] (fun b=>(.r [] 0 (.cnd (.r [] 0 (.r [] 29 (.r [] 29 (.r [] 1 (.lp (c44 w (gI (celL (facL w h l) f) (Int.toNat b.i)) b.es b.ck) [] [] (fun b_1=>(.r [] 0 (.cnd (.r [(833,.auto,Dr.val [AV.int i64 (crX (qX w (gI (celL (facL w h l) f) (Int.toNat b.i))) (qQ (gI (celL (facL w h l) f) (Int.toNat b.i))) b_1.i),AV.int i64 (crY (qY w (gI (celL (facL w h l) f) (Int.toNat b.i))) (qQ (gI (celL (facL w h l) f) (Int.toNat b.i))) b_1.i)])] 16 (.r [] 3 (.r [] 5 (.r [] 1 (.lp (kl44 (qQ (gI (celL (facL w h l) f) (Int.toNat b.i))) b_1.i (vsP w (gI (celL (facL w h l) f) (Int.toNat b.i)) b_1.i b_1.es)) [] [] (fun b_2=>(.r [] 0 (.cnd (.r [] 0 (.r [] 5 (.r [] 0 .nil))) (.r [] 1 (.r [] 0 .nil)))))))))) (.r [] 0 .nil))))))))) (.r [] 0 (.lp (m44 (cvF w (celL (facL w h l) f)).fst (cvF w (celL (facL w h l) f)).snd) [] [] (fun b_1=>(.mn 0 [] 0 (.r [] 1 (.lit (.r [] 0 .nil))) (fun e=>(.r [] 1 (.lit (.r [(1664,.auto,Dr.val [AV.tup [AV.agg [AV.int i64 (getD e.fst 0 0),AV.int i64 (getD e.fst 1 0)],AV.agg [AV.bool (getD e.snd.fst 0 0 !=0),AV.bool (getD e.snd.fst 1 0 !=0),AV.bool (getD e.snd.fst 2 0 !=0),AV.bool (getD e.snd.fst 3 0 !=0),AV.bool (getD e.snd.fst 4 0 !=0),AV.bool (getD e.snd.fst 5 0 !=0),AV.bool (getD e.snd.fst 6 0 !=0),AV.bool (getD e.snd.fst 7 0 !=0)]]])] 12 (.r [] 0 (.r [] 1 (.lp (n44 e.snd.fst) [] [] (fun b_2=>(.r [] 0 (.cnd (.r [(1921,.auto,Dr.val [AV.bool (b8 e.snd.fst (Int.toNat b_2.i))])] 0 (.r [] 0 (.cnd (.r [] 0 (.rs 2 [] 0 97 (.r [] 98 (.cnd (.r [] 0 (.r [] 0 .nil)) (.r [] 0 .nil))) (.r [] 3 (.lit (.r [] 0 .nil))))) (.rs 2 [] 0 97 (.r [] 98 (.cnd (.r [] 0 (.r [] 0 .nil)) (.r [] 0 .nil))) (.r [] 3 (.lit (.r [] 0 .nil))))))) (.rs 3 [] 0 110 (.rs 3 [] 0 113 (.r [] 15 (.lit (.r [] 0 .nil))) (.r [] 15 (.cnd (.r [] 0 .nil) .nil))) (.r [] 3 (.lit .nil))))))))))))))))))))))))))) ([patV w h l,.int .i64 f]) ([.bool (cvB w (celL (facL w h l) f)),.int .i64 0]) ([])=(
 (fun(zz1:Nat)=>(s5 w h∧okV w h (flatC l) (length l)∧celL (facL w h (unC (flatC l))) f≠[])∧1=1∧w=w∧h=h∧qx (Cont.vals (flatC l)) (length l=length l∧0=0∧([]:
 List Ent3)=[]∧0=0∧0=0∧qs i64 (celL (facL w h (unC (flatC l))) f) (qx zz1 (ql (celL (facL w h (unC (flatC l))) f) (iI 0=0∧(∃(n:Nat),0=(↑n:Int)∧n≤length (celL (facL
 w h l) f)∧[]=(cvF w (take n (celL (facL w h l) f))).fst∧0=(cvF w (take n (celL (facL w h l) f))).snd)∧∀(b:L83),(fun(zz0:Int)=>(∃(n:Nat),b.i=(↑n:Int)∧n≤length
 (celL (facL w h l) f)∧b.es=(cvF w (take n (celL (facL w h l) f))).fst∧b.ck=(cvF w (take n (celL (facL w h l) f))).snd)→(ltb b.i (↑zz1:Int)=true→rd i64 (celL (facL w h (unC
 (flatC l))) f) b.i (okI w h zz0=true∧(0≤qX w zz0∧qX w zz0≤900∧0≤qY w zz0∧qY w zz0≤900∧0≤qQ zz0∧qQ zz0≤3)∧1=1∧w=w∧h=h∧qx (Cont.vals (flatC l)) (length
 l=length l∧0=0∧b.es=b.es∧b.ck=b.ck∧1=1∧qX w zz0=qX w zz0∧qY w zz0=qY w zz0∧qQ zz0=qQ zz0∧3=3∧2*qX w zz0+1=2*qX w zz0+1∧2*qY w zz0+1=2*
 qY w zz0+1∧2*qX w zz0+hQ (qQ zz0)=2*qX w zz0+hQ (qQ zz0)∧2*qY w zz0+hQ (qQ zz0)=2*qY w zz0+hQ (qQ zz0)∧2*qX w zz0+gQ (qQ zz0)=2*qX w zz0+gQ (qQ zz0)∧2
 *qY w zz0+(2-gQ (qQ zz0))=2*qY w zz0+(2-gQ (qQ zz0))∧0=0∧qs i64 (celL (facL w h (unC (flatC l))) f) (qx zz1 (ql (celL (facL w h (unC (flatC l))) f) (b.i=b.i∧0=0∧2
 *qX w zz0+1=2*qX w zz0+1∧2*qY w zz0+1=2*qY w zz0+1∧2*qX w zz0+hQ (qQ zz0)=2*qX w zz0+hQ (qQ zz0)∧2*qY w zz0+hQ (qQ zz0)=2*qY w zz0+hQ (qQ zz0)∧
 2*qX w zz0+gQ (qQ zz0)=2*qX w zz0+gQ (qQ zz0)∧2*qY w zz0+(2-gQ (qQ zz0))=2*qY w zz0+(2-gQ (qQ zz0))∧iI 0=0∧(∃(n:Nat),0=(↑n:Int)∧n≤3∧b.es=(cvI
 w (gI (celL (facL w h l) f) (Int.toNat b.i)) (b.es,b.ck) n).fst∧b.ck=(cvI w (gI (celL (facL w h l) f) (Int.toNat b.i)) (b.es,b.ck) n).snd)∧∀(b_1:L83),(∃(n:Nat),b_1.i=(↑n:
 Int)∧n≤3∧b_1.es=(cvI w (gI (celL (facL w h l) f) (Int.toNat b.i)) (b.es,b.ck) n).fst∧b_1.ck=(cvI w (gI (celL (facL w h l) f) (Int.toNat b.i)) (b.es,b.ck) n).snd)→(ltb b_1.i 3
 =true→leb 0 b_1.i=true∧ltb b_1.i 3=true∧[AV.int i64 (2*qX w zz0+1),AV.int i64 (2*qY w zz0+1),AV.int i64 (2*qX w zz0+hQ (qQ zz0)),AV.int i64 (2*qY w zz0+hQ (qQ
 zz0)),AV.int i64 (2*qX w zz0+gQ (qQ zz0)),AV.int i64 (2*qY w zz0+(2-gQ (qQ zz0)))][Int.toNat b_1.i*2]? =some (AV.int i64 (crX (qX w (gI (celL (facL w h l) f) (Int.toNat b.i)))
 (qQ (gI (celL (facL w h l) f) (Int.toNat b.i))) b_1.i))∧[AV.int i64 (2*qX w zz0+1),AV.int i64 (2*qY w zz0+1),AV.int i64 (2*qX w zz0+hQ (qQ zz0)),AV.int i64 (2*qY w zz0+
 hQ (qQ zz0)),AV.int i64 (2*qX w zz0+gQ (qQ zz0)),AV.int i64 (2*qY w zz0+(2-gQ (qQ zz0)))][Int.toNat b_1.i*2+1]? =some (AV.int i64 (crY (qY w (gI (celL (facL w h l) f)
 (Int.toNat b.i))) (qQ (gI (celL (facL w h l) f) (Int.toNat b.i))) b_1.i))∧(0≤qQ zz0∧qQ zz0≤3∧0≤b_1.i∧b_1.i≤2)∧1=1∧w=w∧h=h∧qx (Cont.vals (flatC l)) (length l=
 length l∧0=0∧b_1.es=b_1.es∧b_1.ck=b_1.ck∧1=1∧qX w zz0=qX w zz0∧qY w zz0=qY w zz0∧qQ zz0=qQ zz0∧3=3∧2*qX w zz0+1=2*qX w zz0+1∧2*qY w zz0+1=
 2*qY w zz0+1∧2*qX w zz0+hQ (qQ zz0)=2*qX w zz0+hQ (qQ zz0)∧2*qY w zz0+hQ (qQ zz0)=2*qY w zz0+hQ (qQ zz0)∧2*qX w zz0+gQ (qQ zz0)=2*qX w zz0+gQ (qQ zz0)
 ∧2*qY w zz0+(2-gQ (qQ zz0))=2*qY w zz0+(2-gQ (qQ zz0))∧1=1∧qx (crX (qX w (gI (celL (facL w h l) f) (Int.toNat b.i))) (qQ (gI (celL (facL w h l) f) (Int.toNat b.i)))
 b_1.i) (qx (crY (qY w (gI (celL (facL w h l) f) (Int.toNat b.i))) (qQ (gI (celL (facL w h l) f) (Int.toNat b.i))) b_1.i) (8=8∧[getD (Option.getD (mget b_1.es [crX (qX w (gI (celL (facL w
 h l) f) (Int.toNat b.i))) (qQ (gI (celL (facL w h l) f) (Int.toNat b.i))) b_1.i,crY (qY w (gI (celL (facL w h l) f) (Int.toNat b.i))) (qQ (gI (celL (facL w h l) f) (Int.toNat b.i))) b_1.i])
 []) 0 0 !=0,getD (Option.getD (mget b_1.es [crX (qX w (gI (celL (facL w h l) f) (Int.toNat b.i))) (qQ (gI (celL (facL w h l) f) (Int.toNat b.i))) b_1.i,crY (qY w (gI (celL (facL w h l) f)
 (Int.toNat b.i))) (qQ (gI (celL (facL w h l) f) (Int.toNat b.i))) b_1.i]) []) 1 0 !=0,getD (Option.getD (mget b_1.es [crX (qX w (gI (celL (facL w h l) f) (Int.toNat b.i))) (qQ (gI (celL
 (facL w h l) f) (Int.toNat b.i))) b_1.i,crY (qY w (gI (celL (facL w h l) f) (Int.toNat b.i))) (qQ (gI (celL (facL w h l) f) (Int.toNat b.i))) b_1.i]) []) 2 0 !=0,getD (Option.getD (mget
 b_1.es [crX (qX w (gI (celL (facL w h l) f) (Int.toNat b.i))) (qQ (gI (celL (facL w h l) f) (Int.toNat b.i))) b_1.i,crY (qY w (gI (celL (facL w h l) f) (Int.toNat b.i))) (qQ (gI (celL (facL
 w h l) f) (Int.toNat b.i))) b_1.i]) []) 3 0 !=0,getD (Option.getD (mget b_1.es [crX (qX w (gI (celL (facL w h l) f) (Int.toNat b.i))) (qQ (gI (celL (facL w h l) f) (Int.toNat b.i))) b_1.i,
 crY (qY w (gI (celL (facL w h l) f) (Int.toNat b.i))) (qQ (gI (celL (facL w h l) f) (Int.toNat b.i))) b_1.i]) []) 4 0 !=0,getD (Option.getD (mget b_1.es [crX (qX w (gI (celL (facL w h l)
 f) (Int.toNat b.i))) (qQ (gI (celL (facL w h l) f) (Int.toNat b.i))) b_1.i,crY (qY w (gI (celL (facL w h l) f) (Int.toNat b.i))) (qQ (gI (celL (facL w h l) f) (Int.toNat b.i))) b_1.i]) [])
 5 0 !=0,getD (Option.getD (mget b_1.es [crX (qX w (gI (celL (facL w h l) f) (Int.toNat b.i))) (qQ (gI (celL (facL w h l) f) (Int.toNat b.i))) b_1.i,crY (qY w (gI (celL (facL w h l) f)
 (Int.toNat b.i))) (qQ (gI (celL (facL w h l) f) (Int.toNat b.i))) b_1.i]) []) 6 0 !=0,getD (Option.getD (mget b_1.es [crX (qX w (gI (celL (facL w h l) f) (Int.toNat b.i))) (qQ (gI (celL
 (facL w h l) f) (Int.toNat b.i))) b_1.i,crY (qY w (gI (celL (facL w h l) f) (Int.toNat b.i))) (qQ (gI (celL (facL w h l) f) (Int.toNat b.i))) b_1.i]) []) 7 0 !=0]=[getD (Option.getD
 (mget b_1.es [crX (qX w (gI (celL (facL w h l) f) (Int.toNat b.i))) (qQ (gI (celL (facL w h l) f) (Int.toNat b.i))) b_1.i,crY (qY w (gI (celL (facL w h l) f) (Int.toNat b.i))) (qQ (gI (celL
 (facL w h l) f) (Int.toNat b.i))) b_1.i]) []) 0 0 !=0,getD (Option.getD (mget b_1.es [crX (qX w (gI (celL (facL w h l) f) (Int.toNat b.i))) (qQ (gI (celL (facL w h l) f) (Int.toNat b.i)))
 b_1.i,crY (qY w (gI (celL (facL w h l) f) (Int.toNat b.i))) (qQ (gI (celL (facL w h l) f) (Int.toNat b.i))) b_1.i]) []) 1 0 !=0,getD (Option.getD (mget b_1.es [crX (qX w (gI (celL (facL w
 h l) f) (Int.toNat b.i))) (qQ (gI (celL (facL w h l) f) (Int.toNat b.i))) b_1.i,crY (qY w (gI (celL (facL w h l) f) (Int.toNat b.i))) (qQ (gI (celL (facL w h l) f) (Int.toNat b.i))) b_1.i])
 []) 2 0 !=0,getD (Option.getD (mget b_1.es [crX (qX w (gI (celL (facL w h l) f) (Int.toNat b.i))) (qQ (gI (celL (facL w h l) f) (Int.toNat b.i))) b_1.i,crY (qY w (gI (celL (facL w h l) f)
 (Int.toNat b.i))) (qQ (gI (celL (facL w h l) f) (Int.toNat b.i))) b_1.i]) []) 3 0 !=0,getD (Option.getD (mget b_1.es [crX (qX w (gI (celL (facL w h l) f) (Int.toNat b.i))) (qQ (gI (celL
 (facL w h l) f) (Int.toNat b.i))) b_1.i,crY (qY w (gI (celL (facL w h l) f) (Int.toNat b.i))) (qQ (gI (celL (facL w h l) f) (Int.toNat b.i))) b_1.i]) []) 4 0 !=0,getD (Option.getD (mget
 b_1.es [crX (qX w (gI (celL (facL w h l) f) (Int.toNat b.i))) (qQ (gI (celL (facL w h l) f) (Int.toNat b.i))) b_1.i,crY (qY w (gI (celL (facL w h l) f) (Int.toNat b.i))) (qQ (gI (celL (facL
 w h l) f) (Int.toNat b.i))) b_1.i]) []) 5 0 !=0,getD (Option.getD (mget b_1.es [crX (qX w (gI (celL (facL w h l) f) (Int.toNat b.i))) (qQ (gI (celL (facL w h l) f) (Int.toNat b.i))) b_1.i,
 crY (qY w (gI (celL (facL w h l) f) (Int.toNat b.i))) (qQ (gI (celL (facL w h l) f) (Int.toNat b.i))) b_1.i]) []) 6 0 !=0,getD (Option.getD (mget b_1.es [crX (qX w (gI (celL (facL w h l)
 f) (Int.toNat b.i))) (qQ (gI (celL (facL w h l) f) (Int.toNat b.i))) b_1.i,crY (qY w (gI (celL (facL w h l) f) (Int.toNat b.i))) (qQ (gI (celL (facL w h l) f) (Int.toNat b.i))) b_1.i]) [])
 7 0 !=0]∧1=1∧secI (qQ zz0) b_1.i=secI (qQ zz0) b_1.i∧qx (wdI b_1.i) (0=0∧qs i64 (celL (facL w h (unC (flatC l))) f) (qx zz1 (ql (celL (facL w h (unC (flatC l))) f) (b.i=b.i
 ∧0=0∧2*qX w zz0+1=2*qX w zz0+1∧2*qY w zz0+1=2*qY w zz0+1∧2*qX w zz0+hQ (qQ zz0)=2*qX w zz0+hQ (qQ zz0)∧2*qY w zz0+hQ (qQ zz0)=2*qY w zz0+hQ
 (qQ zz0)∧2*qX w zz0+gQ (qQ zz0)=2*qX w zz0+gQ (qQ zz0)∧2*qY w zz0+(2-gQ (qQ zz0))=2*qY w zz0+(2-gQ (qQ zz0))∧b_1.i=b_1.i∧0=0∧0=0∧0=0∧qx (wdI
 b_1.i) (iI 0=0∧(∃(n:Nat),0=(↑n:Int)∧(↑n:Int)≤wdI b_1.i∧[getD (Option.getD (mget b_1.es [crX (qX w (gI (celL (facL w h l) f) (Int.toNat b.i))) (qQ (gI (celL (facL w h l)
 f) (Int.toNat b.i))) b_1.i,crY (qY w (gI (celL (facL w h l) f) (Int.toNat b.i))) (qQ (gI (celL (facL w h l) f) (Int.toNat b.i))) b_1.i]) []) 0 0 !=0,getD (Option.getD (mget b_1.es [crX
 (qX w (gI (celL (facL w h l) f) (Int.toNat b.i))) (qQ (gI (celL (facL w h l) f) (Int.toNat b.i))) b_1.i,crY (qY w (gI (celL (facL w h l) f) (Int.toNat b.i))) (qQ (gI (celL (facL w h l) f)
 (Int.toNat b.i))) b_1.i]) []) 1 0 !=0,getD (Option.getD (mget b_1.es [crX (qX w (gI (celL (facL w h l) f) (Int.toNat b.i))) (qQ (gI (celL (facL w h l) f) (Int.toNat b.i))) b_1.i,crY (qY w
 (gI (celL (facL w h l) f) (Int.toNat b.i))) (qQ (gI (celL (facL w h l) f) (Int.toNat b.i))) b_1.i]) []) 2 0 !=0,getD (Option.getD (mget b_1.es [crX (qX w (gI (celL (facL w h l) f)
 (Int.toNat b.i))) (qQ (gI (celL (facL w h l) f) (Int.toNat b.i))) b_1.i,crY (qY w (gI (celL (facL w h l) f) (Int.toNat b.i))) (qQ (gI (celL (facL w h l) f) (Int.toNat b.i))) b_1.i]) []) 3 0
 !=0,getD (Option.getD (mget b_1.es [crX (qX w (gI (celL (facL w h l) f) (Int.toNat b.i))) (qQ (gI (celL (facL w h l) f) (Int.toNat b.i))) b_1.i,crY (qY w (gI (celL (facL w h l) f)
 (Int.toNat b.i))) (qQ (gI (celL (facL w h l) f) (Int.toNat b.i))) b_1.i]) []) 4 0 !=0,getD (Option.getD (mget b_1.es [crX (qX w (gI (celL (facL w h l) f) (Int.toNat b.i))) (qQ (gI (celL
 (facL w h l) f) (Int.toNat b.i))) b_1.i,crY (qY w (gI (celL (facL w h l) f) (Int.toNat b.i))) (qQ (gI (celL (facL w h l) f) (Int.toNat b.i))) b_1.i]) []) 5 0 !=0,getD (Option.getD (mget
 b_1.es [crX (qX w (gI (celL (facL w h l) f) (Int.toNat b.i))) (qQ (gI (celL (facL w h l) f) (Int.toNat b.i))) b_1.i,crY (qY w (gI (celL (facL w h l) f) (Int.toNat b.i))) (qQ (gI (celL (facL
 w h l) f) (Int.toNat b.i))) b_1.i]) []) 6 0 !=0,getD (Option.getD (mget b_1.es [crX (qX w (gI (celL (facL w h l) f) (Int.toNat b.i))) (qQ (gI (celL (facL w h l) f) (Int.toNat b.i))) b_1.i,
 crY (qY w (gI (celL (facL w h l) f) (Int.toNat b.i))) (qQ (gI (celL (facL w h l) f) (Int.toNat b.i))) b_1.i]) []) 7 0 !=0]=fulK (qQ (gI (celL (facL w h l) f) (Int.toNat b.i))) b_1.i n
 (vsP w (gI (celL (facL w h l) f) (Int.toNat b.i)) b_1.i b_1.es))∧∀(b_2:LK44),(fun(zz3:Int)=>(∃(n:Nat),b_2.k=(↑n:Int)∧(↑n:Int)≤wdI b_1.i∧b_2.vs=fulK (qQ (gI (celL
 (facL w h l) f) (Int.toNat b.i))) b_1.i n (vsP w (gI (celL (facL w h l) f) (Int.toNat b.i)) b_1.i b_1.es))→(ltb b_2.k (wdI b_1.i)=true→inR i64 (secI (qQ zz0) b_1.i+b_2.k)=true∧
 leb 0 zz3=true∧ltb zz3 8=true∧len' (Int.toNat zz3+1) (Cont.size (Cont.bools b_2.vs))=true∧inR i64 (b_2.k+1)=true∧1=1∧w=w∧h=h∧qx (Cont.vals (flatC l)) (length
 l=length l∧0=0∧b_1.es=b_1.es∧b_1.ck=b_1.ck∧1=1∧qX w zz0=qX w zz0∧qY w zz0=qY w zz0∧qQ zz0=qQ zz0∧3=3∧2*qX w zz0+1=2*qX w zz0+1∧2*qY w zz0+
 1=2*qY w zz0+1∧2*qX w zz0+hQ (qQ zz0)=2*qX w zz0+hQ (qQ zz0)∧2*qY w zz0+hQ (qQ zz0)=2*qY w zz0+hQ (qQ zz0)∧2*qX w zz0+gQ (qQ zz0)=2*qX w zz0+gQ (qQ
 zz0)∧2*qY w zz0+(2-gQ (qQ zz0))=2*qY w zz0+(2-gQ (qQ zz0))∧1=1∧qx (crX (qX w (gI (celL (facL w h l) f) (Int.toNat b.i))) (qQ (gI (celL (facL w h l) f) (Int.toNat b.i)))
 b_1.i) (qx (crY (qY w (gI (celL (facL w h l) f) (Int.toNat b.i))) (qQ (gI (celL (facL w h l) f) (Int.toNat b.i))) b_1.i) (8=8∧set b_2.vs (Int.toNat zz3) true=set b_2.vs (Int.toNat zz3)
 true∧1=1∧secI (qQ zz0) b_1.i=secI (qQ zz0) b_1.i∧qx (wdI b_1.i) (0=0∧qs i64 (celL (facL w h (unC (flatC l))) f) (qx zz1 (ql (celL (facL w h (unC (flatC l))) f) (b.i=b.i∧0=
 0∧2*qX w zz0+1=2*qX w zz0+1∧2*qY w zz0+1=2*qY w zz0+1∧2*qX w zz0+hQ (qQ zz0)=2*qX w zz0+hQ (qQ zz0)∧2*qY w zz0+hQ (qQ zz0)=2*qY w zz0+hQ (qQ
 zz0)∧2*qX w zz0+gQ (qQ zz0)=2*qX w zz0+gQ (qQ zz0)∧2*qY w zz0+(2-gQ (qQ zz0))=2*qY w zz0+(2-gQ (qQ zz0))∧b_1.i=b_1.i∧0=0∧0=0∧0=0∧qx (wdI b_1.i)
 (qx (b_2.k+1) ((∃(n:Nat),b_2.k+1=(↑n:Int)∧(↑n:Int)≤wdI b_1.i∧set b_2.vs (Int.toNat zz3) true=fulK (qQ (gI (celL (facL w h l) f) (Int.toNat b.i))) b_1.i n (vsP w (gI
 (celL (facL w h l) f) (Int.toNat b.i)) b_1.i b_1.es))∧Int.toNat (wdI b_1.i)-Int.toNat (b_2.k+1)<Int.toNat (wdI b_1.i)-Int.toNat b_2.k∧True))))))))))∧(ltb b_2.k (wdI b_1.i)=
 false→len' 8 (Cont.size (Cont.bools b_2.vs))=true∧inR i64 (b_1.i+1)=true∧1=1∧w=w∧h=h∧qx (Cont.vals (flatC l)) (length l=length l∧0=0∧mput b_1.es [crX (qX w
 (gI (celL (facL w h l) f) (Int.toNat b.i))) (qQ (gI (celL (facL w h l) f) (Int.toNat b.i))) b_1.i,crY (qY w (gI (celL (facL w h l) f) (Int.toNat b.i))) (qQ (gI (celL (facL w h l) f)
 (Int.toNat b.i))) b_1.i] [bif getD b_2.vs 0 false then 1 else 0,bif getD b_2.vs 1 false then 1 else 0,bif getD b_2.vs 2 false then 1 else 0,bif getD b_2.vs 3 false then 1 else 0,bif getD
 b_2.vs 4 false then 1 else 0,bif getD b_2.vs 5 false then 1 else 0,bif getD b_2.vs 6 false then 1 else 0,bif getD b_2.vs 7 false then 1 else 0] b_1.ck=mput b_1.es [crX (qX w (gI (celL
 (facL w h l) f) (Int.toNat b.i))) (qQ (gI (celL (facL w h l) f) (Int.toNat b.i))) b_1.i,crY (qY w (gI (celL (facL w h l) f) (Int.toNat b.i))) (qQ (gI (celL (facL w h l) f) (Int.toNat b.i)))
 b_1.i] [bif getD b_2.vs 0 false then 1 else 0,bif getD b_2.vs 1 false then 1 else 0,bif getD b_2.vs 2 false then 1 else 0,bif getD b_2.vs 3 false then 1 else 0,bif getD b_2.vs 4 false
 then 1 else 0,bif getD b_2.vs 5 false then 1 else 0,bif getD b_2.vs 6 false then 1 else 0,bif getD b_2.vs 7 false then 1 else 0] b_1.ck∧mck b_1.es [crX (qX w (gI (celL (facL w h l) f)
 (Int.toNat b.i))) (qQ (gI (celL (facL w h l) f) (Int.toNat b.i))) b_1.i,crY (qY w (gI (celL (facL w h l) f) (Int.toNat b.i))) (qQ (gI (celL (facL w h l) f) (Int.toNat b.i))) b_1.i] b_1.ck=
 mck b_1.es [crX (qX w (gI (celL (facL w h l) f) (Int.toNat b.i))) (qQ (gI (celL (facL w h l) f) (Int.toNat b.i))) b_1.i,crY (qY w (gI (celL (facL w h l) f) (Int.toNat b.i))) (qQ (gI (celL
 (facL w h l) f) (Int.toNat b.i))) b_1.i] b_1.ck∧1=1∧qX w zz0=qX w zz0∧qY w zz0=qY w zz0∧qQ zz0=qQ zz0∧3=3∧2*qX w zz0+1=2*qX w zz0+1∧2*qY w zz0+1=2*
 qY w zz0+1∧2*qX w zz0+hQ (qQ zz0)=2*qX w zz0+hQ (qQ zz0)∧2*qY w zz0+hQ (qQ zz0)=2*qY w zz0+hQ (qQ zz0)∧2*qX w zz0+gQ (qQ zz0)=2*qX w zz0+gQ (qQ zz0)∧2
 *qY w zz0+(2-gQ (qQ zz0))=2*qY w zz0+(2-gQ (qQ zz0))∧0=0∧qs i64 (celL (facL w h (unC (flatC l))) f) (qx zz1 (ql (celL (facL w h (unC (flatC l))) f) (b.i=b.i∧0=0∧2
 *qX w zz0+1=2*qX w zz0+1∧2*qY w zz0+1=2*qY w zz0+1∧2*qX w zz0+hQ (qQ zz0)=2*qX w zz0+hQ (qQ zz0)∧2*qY w zz0+hQ (qQ zz0)=2*qY w zz0+hQ (qQ zz0)∧
 2*qX w zz0+gQ (qQ zz0)=2*qX w zz0+gQ (qQ zz0)∧2*qY w zz0+(2-gQ (qQ zz0))=2*qY w zz0+(2-gQ (qQ zz0))∧qx (b_1.i+1) ((∃(n:Nat),b_1.i+1=(↑n:Int)∧n≤3∧
 mput b_1.es [crX (qX w (gI (celL (facL w h l) f) (Int.toNat b.i))) (qQ (gI (celL (facL w h l) f) (Int.toNat b.i))) b_1.i,crY (qY w (gI (celL (facL w h l) f) (Int.toNat b.i))) (qQ (gI (celL
 (facL w h l) f) (Int.toNat b.i))) b_1.i] [bif getD b_2.vs 0 false then 1 else 0,bif getD b_2.vs 1 false then 1 else 0,bif getD b_2.vs 2 false then 1 else 0,bif getD b_2.vs 3 false then 1
 else 0,bif getD b_2.vs 4 false then 1 else 0,bif getD b_2.vs 5 false then 1 else 0,bif getD b_2.vs 6 false then 1 else 0,bif getD b_2.vs 7 false then 1 else 0] b_1.ck=(cvI w (gI (celL
 (facL w h l) f) (Int.toNat b.i)) (b.es,b.ck) n).fst∧mck b_1.es [crX (qX w (gI (celL (facL w h l) f) (Int.toNat b.i))) (qQ (gI (celL (facL w h l) f) (Int.toNat b.i))) b_1.i,crY (qY w (gI
 (celL (facL w h l) f) (Int.toNat b.i))) (qQ (gI (celL (facL w h l) f) (Int.toNat b.i))) b_1.i] b_1.ck=(cvI w (gI (celL (facL w h l) f) (Int.toNat b.i)) (b.es,b.ck) n).snd)∧3-Int.toNat
 (b_1.i+1)<3-Int.toNat b_1.i∧True))))))) (Int.tmod (secI (qQ zz0) b_1.i+b_2.k) 8))))))))))∧(ltb b_1.i 3=false→inR i64 (b.i+1)=true∧1=1∧w=w∧h=h∧qx (Cont.vals
 (flatC l)) (length l=length l∧0=0∧b_1.es=b_1.es∧b_1.ck=b_1.ck∧0=0∧qs i64 (celL (facL w h (unC (flatC l))) f) (qx zz1 (ql (celL (facL w h (unC (flatC l))) f) (b.i+1=
 b.i+1∧(∃(n:Nat),b.i+1=(↑n:Int)∧n≤length (celL (facL w h l) f)∧b_1.es=(cvF w (take n (celL (facL w h l) f))).fst∧b_1.ck=(cvF w (take n (celL (facL w h l) f))).snd)∧
 length (celL (facL w h l) f)-Int.toNat (b.i+1)<length (celL (facL w h l) f)-Int.toNat b.i∧True)))))))))))∧(ltb b.i (↑zz1:Int)=false→1=1∧w=w∧h=h∧qx (Cont.vals
 (flatC l)) (length l=length l∧0=0∧b.es=b.es∧b.ck=b.ck∧(cvF w (celL (facL w h l) f)).snd=b.ck∧([]:List Nat)=[]∧ltb b.i (↑zz1:Int)=ltb b.i (↑zz1:Int)∧0=0∧
 ((all (cvF w (celL (facL w h l) f)).fst fun(e:Ent3)=>okV8 e.snd.fst)=all (leftE (cvF w (celL (facL w h l) f)).fst []) fun(e:List Int×List Int×Nat)=>okV8 e.snd.fst)∧∀(b_1:
 LM44),((all (cvF w (celL (facL w h l) f)).fst fun(e:Ent3)=>okV8 e.snd.fst)=all (leftE (cvF w (celL (facL w h l) f)).fst b_1.seen) fun(e:List Int×List Int×Nat)=>okV8
 e.snd.fst)→(b.ck=(cvF w (celL (facL w h l) f)).snd∧bornP b.es (cvF w (celL (facL w h l) f)).snd)∧(leftE b.es b_1.seen=[]→true=cvB w (celL (facL w h l) f)∧iI 0=0∧True)∧∀
 (e:Ent3),e∈leftE b.es b_1.seen→b.ck=(cvF w (celL (facL w h l) f)).snd∧(entL (MV.mk true [some i64,some i64]) (MV.mk true [none,none,none,none,none,none,none,none]) b.es
 (b_1.seen++[e.snd.snd]))[0]? =some (AV.tup [AV.agg [AV.int i64 (getD e.fst 0 0),AV.int i64 (getD e.fst 1 0)],AV.agg [AV.bool (getD e.snd.fst 0 0 !=0),AV.bool (getD e.snd.fst 1 0 !=
 0),AV.bool (getD e.snd.fst 2 0 !=0),AV.bool (getD e.snd.fst 3 0 !=0),AV.bool (getD e.snd.fst 4 0 !=0),AV.bool (getD e.snd.fst 5 0 !=0),AV.bool (getD e.snd.fst 6 0 !=0),AV.bool
 (getD e.snd.fst 7 0 !=0)]])∧1=1∧w=w∧h=h∧qx (Cont.vals (flatC l)) (length l=length l∧0=0∧b.es=b.es∧b.ck=b.ck∧(cvF w (celL (facL w h l) f)).snd=(cvF w (celL
 (facL w h l) f)).snd∧b_1.seen++[e.snd.snd]=b_1.seen++[e.snd.snd]∧8=8∧[getD e.snd.fst 0 0 !=0,getD e.snd.fst 1 0 !=0,getD e.snd.fst 2 0 !=0,getD e.snd.fst 3 0 !=0,getD
 e.snd.fst 4 0 !=0,getD e.snd.fst 5 0 !=0,getD e.snd.fst 6 0 !=0,getD e.snd.fst 7 0 !=0]=[getD e.snd.fst 0 0 !=0,getD e.snd.fst 1 0 !=0,getD e.snd.fst 2 0 !=0,getD e.snd.fst 3
 0 !=0,getD e.snd.fst 4 0 !=0,getD e.snd.fst 5 0 !=0,getD e.snd.fst 6 0 !=0,getD e.snd.fst 7 0 !=0]∧ltb b.i (↑zz1:Int)=ltb b.i (↑zz1:Int)∧0=0∧0=0∧iI 0=0∧iI 0=
 0∧getD [getD e.snd.fst 0 0 !=0,getD e.snd.fst 1 0 !=0,getD e.snd.fst 2 0 !=0,getD e.snd.fst 3 0 !=0,getD e.snd.fst 4 0 !=0,getD e.snd.fst 5 0 !=0,getD e.snd.fst 6 0 !=0,getD
 e.snd.fst 7 0 !=0] 0 false=getD [getD e.snd.fst 0 0 !=0,getD e.snd.fst 1 0 !=0,getD e.snd.fst 2 0 !=0,getD e.snd.fst 3 0 !=0,getD e.snd.fst 4 0 !=0,getD e.snd.fst 5 0 !=0,getD
 e.snd.fst 6 0 !=0,getD e.snd.fst 7 0 !=0] 0 false∧getD [getD e.snd.fst 0 0 !=0,getD e.snd.fst 1 0 !=0,getD e.snd.fst 2 0 !=0,getD e.snd.fst 3 0 !=0,getD e.snd.fst 4 0 !=0,getD
 e.snd.fst 5 0 !=0,getD e.snd.fst 6 0 !=0,getD e.snd.fst 7 0 !=0] 1 false=getD [getD e.snd.fst 0 0 !=0,getD e.snd.fst 1 0 !=0,getD e.snd.fst 2 0 !=0,getD e.snd.fst 3 0 !=0,getD
 e.snd.fst 4 0 !=0,getD e.snd.fst 5 0 !=0,getD e.snd.fst 6 0 !=0,getD e.snd.fst 7 0 !=0] 1 false∧getD [getD e.snd.fst 0 0 !=0,getD e.snd.fst 1 0 !=0,getD e.snd.fst 2 0 !=0,getD
 e.snd.fst 3 0 !=0,getD e.snd.fst 4 0 !=0,getD e.snd.fst 5 0 !=0,getD e.snd.fst 6 0 !=0,getD e.snd.fst 7 0 !=0] 2 false=getD [getD e.snd.fst 0 0 !=0,getD e.snd.fst 1 0 !=0,getD
 e.snd.fst 2 0 !=0,getD e.snd.fst 3 0 !=0,getD e.snd.fst 4 0 !=0,getD e.snd.fst 5 0 !=0,getD e.snd.fst 6 0 !=0,getD e.snd.fst 7 0 !=0] 2 false∧getD [getD e.snd.fst 0 0 !=0,getD
 e.snd.fst 1 0 !=0,getD e.snd.fst 2 0 !=0,getD e.snd.fst 3 0 !=0,getD e.snd.fst 4 0 !=0,getD e.snd.fst 5 0 !=0,getD e.snd.fst 6 0 !=0,getD e.snd.fst 7 0 !=0] 3 false=getD [getD
 e.snd.fst 0 0 !=0,getD e.snd.fst 1 0 !=0,getD e.snd.fst 2 0 !=0,getD e.snd.fst 3 0 !=0,getD e.snd.fst 4 0 !=0,getD e.snd.fst 5 0 !=0,getD e.snd.fst 6 0 !=0,getD e.snd.fst 7 0
 !=0] 3 false∧getD [getD e.snd.fst 0 0 !=0,getD e.snd.fst 1 0 !=0,getD e.snd.fst 2 0 !=0,getD e.snd.fst 3 0 !=0,getD e.snd.fst 4 0 !=0,getD e.snd.fst 5 0 !=0,getD e.snd.fst 6 0
 !=0,getD e.snd.fst 7 0 !=0] 4 false=getD [getD e.snd.fst 0 0 !=0,getD e.snd.fst 1 0 !=0,getD e.snd.fst 2 0 !=0,getD e.snd.fst 3 0 !=0,getD e.snd.fst 4 0 !=0,getD e.snd.fst 5 0
 !=0,getD e.snd.fst 6 0 !=0,getD e.snd.fst 7 0 !=0] 4 false∧getD [getD e.snd.fst 0 0 !=0,getD e.snd.fst 1 0 !=0,getD e.snd.fst 2 0 !=0,getD e.snd.fst 3 0 !=0,getD e.snd.fst 4 0
 !=0,getD e.snd.fst 5 0 !=0,getD e.snd.fst 6 0 !=0,getD e.snd.fst 7 0 !=0] 5 false=getD [getD e.snd.fst 0 0 !=0,getD e.snd.fst 1 0 !=0,getD e.snd.fst 2 0 !=0,getD e.snd.fst 3 0
 !=0,getD e.snd.fst 4 0 !=0,getD e.snd.fst 5 0 !=0,getD e.snd.fst 6 0 !=0,getD e.snd.fst 7 0 !=0] 5 false∧getD [getD e.snd.fst 0 0 !=0,getD e.snd.fst 1 0 !=0,getD e.snd.fst 2 0
 !=0,getD e.snd.fst 3 0 !=0,getD e.snd.fst 4 0 !=0,getD e.snd.fst 5 0 !=0,getD e.snd.fst 6 0 !=0,getD e.snd.fst 7 0 !=0] 6 false=getD [getD e.snd.fst 0 0 !=0,getD e.snd.fst 1 0
 !=0,getD e.snd.fst 2 0 !=0,getD e.snd.fst 3 0 !=0,getD e.snd.fst 4 0 !=0,getD e.snd.fst 5 0 !=0,getD e.snd.fst 6 0 !=0,getD e.snd.fst 7 0 !=0] 6 false∧getD [getD e.snd.fst 0 0
 !=0,getD e.snd.fst 1 0 !=0,getD e.snd.fst 2 0 !=0,getD e.snd.fst 3 0 !=0,getD e.snd.fst 4 0 !=0,getD e.snd.fst 5 0 !=0,getD e.snd.fst 6 0 !=0,getD e.snd.fst 7 0 !=0] 7 false=
 getD [getD e.snd.fst 0 0 !=0,getD e.snd.fst 1 0 !=0,getD e.snd.fst 2 0 !=0,getD e.snd.fst 3 0 !=0,getD e.snd.fst 4 0 !=0,getD e.snd.fst 5 0 !=0,getD e.snd.fst 6 0 !=0,getD
 e.snd.fst 7 0 !=0] 7 false∧iI 0=0∧(∃(n:Nat),0=(↑n:Int)∧n≤8∧0=(↑(cnt8 e.snd.fst n):Int)∧0=(↑(beg8 e.snd.fst n):Int))∧∀(b_2:LN44),(fun(zz7:Nat)=>(fun
 (zz6:Prop)=>(fun(zz5:Prop)=>(fun(zz4:Int)=>(fun(zz2:Bool)=>(∃(n:Nat),b_2.i=(↑n:Int)∧n≤8∧b_2.m=(↑(cnt8 e.snd.fst n):Int)∧b_2.g=(↑(beg8 e.snd.fst n):
 Int))→(ltb b_2.i 8=true→leb 0 b_2.i=true∧ltb b_2.i 8=true∧[AV.bool (getD [getD e.snd.fst 0 0 !=0,getD e.snd.fst 1 0 !=0,getD e.snd.fst 2 0 !=0,getD e.snd.fst 3 0 !=0,
 getD e.snd.fst 4 0 !=0,getD e.snd.fst 5 0 !=0,getD e.snd.fst 6 0 !=0,getD e.snd.fst 7 0 !=0] 0 false),AV.bool (getD [getD e.snd.fst 0 0 !=0,getD e.snd.fst 1 0 !=0,getD e.snd.fst
 2 0 !=0,getD e.snd.fst 3 0 !=0,getD e.snd.fst 4 0 !=0,getD e.snd.fst 5 0 !=0,getD e.snd.fst 6 0 !=0,getD e.snd.fst 7 0 !=0] 1 false),AV.bool (getD [getD e.snd.fst 0 0 !=0,getD
 e.snd.fst 1 0 !=0,getD e.snd.fst 2 0 !=0,getD e.snd.fst 3 0 !=0,getD e.snd.fst 4 0 !=0,getD e.snd.fst 5 0 !=0,getD e.snd.fst 6 0 !=0,getD e.snd.fst 7 0 !=0] 2 false),AV.bool
 (getD [getD e.snd.fst 0 0 !=0,getD e.snd.fst 1 0 !=0,getD e.snd.fst 2 0 !=0,getD e.snd.fst 3 0 !=0,getD e.snd.fst 4 0 !=0,getD e.snd.fst 5 0 !=0,getD e.snd.fst 6 0 !=0,getD
 e.snd.fst 7 0 !=0] 3 false),AV.bool (getD [getD e.snd.fst 0 0 !=0,getD e.snd.fst 1 0 !=0,getD e.snd.fst 2 0 !=0,getD e.snd.fst 3 0 !=0,getD e.snd.fst 4 0 !=0,getD e.snd.fst 5 0
 !=0,getD e.snd.fst 6 0 !=0,getD e.snd.fst 7 0 !=0] 4 false),AV.bool (getD [getD e.snd.fst 0 0 !=0,getD e.snd.fst 1 0 !=0,getD e.snd.fst 2 0 !=0,getD e.snd.fst 3 0 !=0,getD
 e.snd.fst 4 0 !=0,getD e.snd.fst 5 0 !=0,getD e.snd.fst 6 0 !=0,getD e.snd.fst 7 0 !=0] 5 false),AV.bool (getD [getD e.snd.fst 0 0 !=0,getD e.snd.fst 1 0 !=0,getD e.snd.fst 2 0
 !=0,getD e.snd.fst 3 0 !=0,getD e.snd.fst 4 0 !=0,getD e.snd.fst 5 0 !=0,getD e.snd.fst 6 0 !=0,getD e.snd.fst 7 0 !=0] 6 false),AV.bool (getD [getD e.snd.fst 0 0 !=0,getD
 e.snd.fst 1 0 !=0,getD e.snd.fst 2 0 !=0,getD e.snd.fst 3 0 !=0,getD e.snd.fst 4 0 !=0,getD e.snd.fst 5 0 !=0,getD e.snd.fst 6 0 !=0,getD e.snd.fst 7 0 !=0] 7 false)][Int.toNat
 b_2.i]? =some (AV.bool (b8 e.snd.fst zz7))∧(b8 e.snd.fst zz7=true→inR i64 (b_2.m+1)=true∧(b8 e.snd.fst zz7=true→inR i64 (b_2.i+7)=true∧leb 0 zz4=true∧ltb zz4 8=
 true∧ltn (Int.toNat zz4) 8=true∧(zz2=true→inR i64 (b_2.g+1)=true∧inR i64 (b_2.i+1)=true∧1=1∧w=w∧h=h∧qx (Cont.vals (flatC l)) (length l=length l∧0=0∧
 b.es=b.es∧b.ck=b.ck∧(cvF w (celL (facL w h l) f)).snd=(cvF w (celL (facL w h l) f)).snd∧b_1.seen++[e.snd.snd]=b_1.seen++[e.snd.snd]∧8=8∧[getD e.snd.fst 0 0 !=0,getD
 e.snd.fst 1 0 !=0,getD e.snd.fst 2 0 !=0,getD e.snd.fst 3 0 !=0,getD e.snd.fst 4 0 !=0,getD e.snd.fst 5 0 !=0,getD e.snd.fst 6 0 !=0,getD e.snd.fst 7 0 !=0]=[getD e.snd.fst 0
 0 !=0,getD e.snd.fst 1 0 !=0,getD e.snd.fst 2 0 !=0,getD e.snd.fst 3 0 !=0,getD e.snd.fst 4 0 !=0,getD e.snd.fst 5 0 !=0,getD e.snd.fst 6 0 !=0,getD e.snd.fst 7 0 !=0]∧ltb
 b.i (↑zz1:Int)=ltb b.i (↑zz1:Int)∧0=0∧0=0∧qx (b_2.m+1) (qx (b_2.g+1) (getD [getD e.snd.fst 0 0 !=0,getD e.snd.fst 1 0 !=0,getD e.snd.fst 2 0 !=0,getD e.snd.fst 3 0
 !=0,getD e.snd.fst 4 0 !=0,getD e.snd.fst 5 0 !=0,getD e.snd.fst 6 0 !=0,getD e.snd.fst 7 0 !=0] 0 false=getD [getD e.snd.fst 0 0 !=0,getD e.snd.fst 1 0 !=0,getD e.snd.fst 2 0
 !=0,getD e.snd.fst 3 0 !=0,getD e.snd.fst 4 0 !=0,getD e.snd.fst 5 0 !=0,getD e.snd.fst 6 0 !=0,getD e.snd.fst 7 0 !=0] 0 false∧getD [getD e.snd.fst 0 0 !=0,getD e.snd.fst 1 0
 !=0,getD e.snd.fst 2 0 !=0,getD e.snd.fst 3 0 !=0,getD e.snd.fst 4 0 !=0,getD e.snd.fst 5 0 !=0,getD e.snd.fst 6 0 !=0,getD e.snd.fst 7 0 !=0] 1 false=getD [getD e.snd.fst 0 0
 !=0,getD e.snd.fst 1 0 !=0,getD e.snd.fst 2 0 !=0,getD e.snd.fst 3 0 !=0,getD e.snd.fst 4 0 !=0,getD e.snd.fst 5 0 !=0,getD e.snd.fst 6 0 !=0,getD e.snd.fst 7 0 !=0] 1 false∧
 getD [getD e.snd.fst 0 0 !=0,getD e.snd.fst 1 0 !=0,getD e.snd.fst 2 0 !=0,getD e.snd.fst 3 0 !=0,getD e.snd.fst 4 0 !=0,getD e.snd.fst 5 0 !=0,getD e.snd.fst 6 0 !=0,getD
 e.snd.fst 7 0 !=0] 2 false=getD [getD e.snd.fst 0 0 !=0,getD e.snd.fst 1 0 !=0,getD e.snd.fst 2 0 !=0,getD e.snd.fst 3 0 !=0,getD e.snd.fst 4 0 !=0,getD e.snd.fst 5 0 !=0,getD
 e.snd.fst 6 0 !=0,getD e.snd.fst 7 0 !=0] 2 false∧getD [getD e.snd.fst 0 0 !=0,getD e.snd.fst 1 0 !=0,getD e.snd.fst 2 0 !=0,getD e.snd.fst 3 0 !=0,getD e.snd.fst 4 0 !=0,getD
 e.snd.fst 5 0 !=0,getD e.snd.fst 6 0 !=0,getD e.snd.fst 7 0 !=0] 3 false=getD [getD e.snd.fst 0 0 !=0,getD e.snd.fst 1 0 !=0,getD e.snd.fst 2 0 !=0,getD e.snd.fst 3 0 !=0,getD
 e.snd.fst 4 0 !=0,getD e.snd.fst 5 0 !=0,getD e.snd.fst 6 0 !=0,getD e.snd.fst 7 0 !=0] 3 false∧getD [getD e.snd.fst 0 0 !=0,getD e.snd.fst 1 0 !=0,getD e.snd.fst 2 0 !=0,getD
 e.snd.fst 3 0 !=0,getD e.snd.fst 4 0 !=0,getD e.snd.fst 5 0 !=0,getD e.snd.fst 6 0 !=0,getD e.snd.fst 7 0 !=0] 4 false=getD [getD e.snd.fst 0 0 !=0,getD e.snd.fst 1 0 !=0,getD
 e.snd.fst 2 0 !=0,getD e.snd.fst 3 0 !=0,getD e.snd.fst 4 0 !=0,getD e.snd.fst 5 0 !=0,getD e.snd.fst 6 0 !=0,getD e.snd.fst 7 0 !=0] 4 false∧getD [getD e.snd.fst 0 0 !=0,getD
 e.snd.fst 1 0 !=0,getD e.snd.fst 2 0 !=0,getD e.snd.fst 3 0 !=0,getD e.snd.fst 4 0 !=0,getD e.snd.fst 5 0 !=0,getD e.snd.fst 6 0 !=0,getD e.snd.fst 7 0 !=0] 5 false=getD [getD
 e.snd.fst 0 0 !=0,getD e.snd.fst 1 0 !=0,getD e.snd.fst 2 0 !=0,getD e.snd.fst 3 0 !=0,getD e.snd.fst 4 0 !=0,getD e.snd.fst 5 0 !=0,getD e.snd.fst 6 0 !=0,getD e.snd.fst 7 0
 !=0] 5 false∧getD [getD e.snd.fst 0 0 !=0,getD e.snd.fst 1 0 !=0,getD e.snd.fst 2 0 !=0,getD e.snd.fst 3 0 !=0,getD e.snd.fst 4 0 !=0,getD e.snd.fst 5 0 !=0,getD e.snd.fst 6 0
 !=0,getD e.snd.fst 7 0 !=0] 6 false=getD [getD e.snd.fst 0 0 !=0,getD e.snd.fst 1 0 !=0,getD e.snd.fst 2 0 !=0,getD e.snd.fst 3 0 !=0,getD e.snd.fst 4 0 !=0,getD e.snd.fst 5 0
 !=0,getD e.snd.fst 6 0 !=0,getD e.snd.fst 7 0 !=0] 6 false∧getD [getD e.snd.fst 0 0 !=0,getD e.snd.fst 1 0 !=0,getD e.snd.fst 2 0 !=0,getD e.snd.fst 3 0 !=0,getD e.snd.fst 4 0
 !=0,getD e.snd.fst 5 0 !=0,getD e.snd.fst 6 0 !=0,getD e.snd.fst 7 0 !=0] 7 false=getD [getD e.snd.fst 0 0 !=0,getD e.snd.fst 1 0 !=0,getD e.snd.fst 2 0 !=0,getD e.snd.fst 3 0
 !=0,getD e.snd.fst 4 0 !=0,getD e.snd.fst 5 0 !=0,getD e.snd.fst 6 0 !=0,getD e.snd.fst 7 0 !=0] 7 false∧qx (b_2.i+1) ((∃(n:Nat),b_2.i+1=(↑n:Int)∧n≤8∧b_2.m+1=
 (↑(cnt8 e.snd.fst n):Int)∧b_2.g+1=(↑(beg8 e.snd.fst n):Int))∧8-Int.toNat (b_2.i+1)<8-Int.toNat b_2.i∧True)))))∧(zz2=false→inR i64 (b_2.i+1)=true∧1=1∧w=
 w∧h=h∧qx (Cont.vals (flatC l)) (length l=length l∧0=0∧b.es=b.es∧b.ck=b.ck∧(cvF w (celL (facL w h l) f)).snd=(cvF w (celL (facL w h l) f)).snd∧b_1.seen++
 [e.snd.snd]=b_1.seen++[e.snd.snd]∧8=8∧[getD e.snd.fst 0 0 !=0,getD e.snd.fst 1 0 !=0,getD e.snd.fst 2 0 !=0,getD e.snd.fst 3 0 !=0,getD e.snd.fst 4 0 !=0,getD e.snd.fst 5
 0 !=0,getD e.snd.fst 6 0 !=0,getD e.snd.fst 7 0 !=0]=[getD e.snd.fst 0 0 !=0,getD e.snd.fst 1 0 !=0,getD e.snd.fst 2 0 !=0,getD e.snd.fst 3 0 !=0,getD e.snd.fst 4 0 !=0,getD
 e.snd.fst 5 0 !=0,getD e.snd.fst 6 0 !=0,getD e.snd.fst 7 0 !=0]∧ltb b.i (↑zz1:Int)=ltb b.i (↑zz1:Int)∧0=0∧0=0∧qx (b_2.m+1) (b_2.g=b_2.g∧getD [getD e.snd.fst 0 0
 !=0,getD e.snd.fst 1 0 !=0,getD e.snd.fst 2 0 !=0,getD e.snd.fst 3 0 !=0,getD e.snd.fst 4 0 !=0,getD e.snd.fst 5 0 !=0,getD e.snd.fst 6 0 !=0,getD e.snd.fst 7 0 !=0] 0 false=
 getD [getD e.snd.fst 0 0 !=0,getD e.snd.fst 1 0 !=0,getD e.snd.fst 2 0 !=0,getD e.snd.fst 3 0 !=0,getD e.snd.fst 4 0 !=0,getD e.snd.fst 5 0 !=0,getD e.snd.fst 6 0 !=0,getD
 e.snd.fst 7 0 !=0] 0 false∧getD [getD e.snd.fst 0 0 !=0,getD e.snd.fst 1 0 !=0,getD e.snd.fst 2 0 !=0,getD e.snd.fst 3 0 !=0,getD e.snd.fst 4 0 !=0,getD e.snd.fst 5 0 !=0,getD
 e.snd.fst 6 0 !=0,getD e.snd.fst 7 0 !=0] 1 false=getD [getD e.snd.fst 0 0 !=0,getD e.snd.fst 1 0 !=0,getD e.snd.fst 2 0 !=0,getD e.snd.fst 3 0 !=0,getD e.snd.fst 4 0 !=0,getD
 e.snd.fst 5 0 !=0,getD e.snd.fst 6 0 !=0,getD e.snd.fst 7 0 !=0] 1 false∧getD [getD e.snd.fst 0 0 !=0,getD e.snd.fst 1 0 !=0,getD e.snd.fst 2 0 !=0,getD e.snd.fst 3 0 !=0,getD
 e.snd.fst 4 0 !=0,getD e.snd.fst 5 0 !=0,getD e.snd.fst 6 0 !=0,getD e.snd.fst 7 0 !=0] 2 false=getD [getD e.snd.fst 0 0 !=0,getD e.snd.fst 1 0 !=0,getD e.snd.fst 2 0 !=0,getD
 e.snd.fst 3 0 !=0,getD e.snd.fst 4 0 !=0,getD e.snd.fst 5 0 !=0,getD e.snd.fst 6 0 !=0,getD e.snd.fst 7 0 !=0] 2 false∧getD [getD e.snd.fst 0 0 !=0,getD e.snd.fst 1 0 !=0,getD
 e.snd.fst 2 0 !=0,getD e.snd.fst 3 0 !=0,getD e.snd.fst 4 0 !=0,getD e.snd.fst 5 0 !=0,getD e.snd.fst 6 0 !=0,getD e.snd.fst 7 0 !=0] 3 false=getD [getD e.snd.fst 0 0 !=0,getD
 e.snd.fst 1 0 !=0,getD e.snd.fst 2 0 !=0,getD e.snd.fst 3 0 !=0,getD e.snd.fst 4 0 !=0,getD e.snd.fst 5 0 !=0,getD e.snd.fst 6 0 !=0,getD e.snd.fst 7 0 !=0] 3 false∧getD [getD
 e.snd.fst 0 0 !=0,getD e.snd.fst 1 0 !=0,getD e.snd.fst 2 0 !=0,getD e.snd.fst 3 0 !=0,getD e.snd.fst 4 0 !=0,getD e.snd.fst 5 0 !=0,getD e.snd.fst 6 0 !=0,getD e.snd.fst 7 0
 !=0] 4 false=getD [getD e.snd.fst 0 0 !=0,getD e.snd.fst 1 0 !=0,getD e.snd.fst 2 0 !=0,getD e.snd.fst 3 0 !=0,getD e.snd.fst 4 0 !=0,getD e.snd.fst 5 0 !=0,getD e.snd.fst 6 0
 !=0,getD e.snd.fst 7 0 !=0] 4 false∧getD [getD e.snd.fst 0 0 !=0,getD e.snd.fst 1 0 !=0,getD e.snd.fst 2 0 !=0,getD e.snd.fst 3 0 !=0,getD e.snd.fst 4 0 !=0,getD e.snd.fst 5 0
 !=0,getD e.snd.fst 6 0 !=0,getD e.snd.fst 7 0 !=0] 5 false=getD [getD e.snd.fst 0 0 !=0,getD e.snd.fst 1 0 !=0,getD e.snd.fst 2 0 !=0,getD e.snd.fst 3 0 !=0,getD e.snd.fst 4 0
 !=0,getD e.snd.fst 5 0 !=0,getD e.snd.fst 6 0 !=0,getD e.snd.fst 7 0 !=0] 5 false∧getD [getD e.snd.fst 0 0 !=0,getD e.snd.fst 1 0 !=0,getD e.snd.fst 2 0 !=0,getD e.snd.fst 3 0
 !=0,getD e.snd.fst 4 0 !=0,getD e.snd.fst 5 0 !=0,getD e.snd.fst 6 0 !=0,getD e.snd.fst 7 0 !=0] 6 false=getD [getD e.snd.fst 0 0 !=0,getD e.snd.fst 1 0 !=0,getD e.snd.fst 2 0
 !=0,getD e.snd.fst 3 0 !=0,getD e.snd.fst 4 0 !=0,getD e.snd.fst 5 0 !=0,getD e.snd.fst 6 0 !=0,getD e.snd.fst 7 0 !=0] 6 false∧getD [getD e.snd.fst 0 0 !=0,getD e.snd.fst 1 0
 !=0,getD e.snd.fst 2 0 !=0,getD e.snd.fst 3 0 !=0,getD e.snd.fst 4 0 !=0,getD e.snd.fst 5 0 !=0,getD e.snd.fst 6 0 !=0,getD e.snd.fst 7 0 !=0] 7 false=getD [getD e.snd.fst 0 0
 !=0,getD e.snd.fst 1 0 !=0,getD e.snd.fst 2 0 !=0,getD e.snd.fst 3 0 !=0,getD e.snd.fst 4 0 !=0,getD e.snd.fst 5 0 !=0,getD e.snd.fst 6 0 !=0,getD e.snd.fst 7 0 !=0] 7 false∧
 qx (b_2.i+1) (zz5∧8-Int.toNat (b_2.i+1)<8-Int.toNat b_2.i∧True)))))∧(b8 e.snd.fst zz7=false→inR i64 (b_2.i+1)=true∧1=1∧w=w∧h=h∧qx (Cont.vals (flatC l))
 (length l=length l∧0=0∧b.es=b.es∧b.ck=b.ck∧(cvF w (celL (facL w h l) f)).snd=(cvF w (celL (facL w h l) f)).snd∧b_1.seen++[e.snd.snd]=b_1.seen++[e.snd.snd]∧8=8∧
 [getD e.snd.fst 0 0 !=0,getD e.snd.fst 1 0 !=0,getD e.snd.fst 2 0 !=0,getD e.snd.fst 3 0 !=0,getD e.snd.fst 4 0 !=0,getD e.snd.fst 5 0 !=0,getD e.snd.fst 6 0 !=0,getD e.snd.fst
 7 0 !=0]=[getD e.snd.fst 0 0 !=0,getD e.snd.fst 1 0 !=0,getD e.snd.fst 2 0 !=0,getD e.snd.fst 3 0 !=0,getD e.snd.fst 4 0 !=0,getD e.snd.fst 5 0 !=0,getD e.snd.fst 6 0 !=0,
 getD e.snd.fst 7 0 !=0]∧ltb b.i (↑zz1:Int)=ltb b.i (↑zz1:Int)∧0=0∧0=0∧qx (b_2.m+1) (b_2.g=b_2.g∧getD [getD e.snd.fst 0 0 !=0,getD e.snd.fst 1 0 !=0,getD
 e.snd.fst 2 0 !=0,getD e.snd.fst 3 0 !=0,getD e.snd.fst 4 0 !=0,getD e.snd.fst 5 0 !=0,getD e.snd.fst 6 0 !=0,getD e.snd.fst 7 0 !=0] 0 false=getD [getD e.snd.fst 0 0 !=0,getD
 e.snd.fst 1 0 !=0,getD e.snd.fst 2 0 !=0,getD e.snd.fst 3 0 !=0,getD e.snd.fst 4 0 !=0,getD e.snd.fst 5 0 !=0,getD e.snd.fst 6 0 !=0,getD e.snd.fst 7 0 !=0] 0 false∧getD [getD
 e.snd.fst 0 0 !=0,getD e.snd.fst 1 0 !=0,getD e.snd.fst 2 0 !=0,getD e.snd.fst 3 0 !=0,getD e.snd.fst 4 0 !=0,getD e.snd.fst 5 0 !=0,getD e.snd.fst 6 0 !=0,getD e.snd.fst 7 0
 !=0] 1 false=getD [getD e.snd.fst 0 0 !=0,getD e.snd.fst 1 0 !=0,getD e.snd.fst 2 0 !=0,getD e.snd.fst 3 0 !=0,getD e.snd.fst 4 0 !=0,getD e.snd.fst 5 0 !=0,getD e.snd.fst 6 0
 !=0,getD e.snd.fst 7 0 !=0] 1 false∧getD [getD e.snd.fst 0 0 !=0,getD e.snd.fst 1 0 !=0,getD e.snd.fst 2 0 !=0,getD e.snd.fst 3 0 !=0,getD e.snd.fst 4 0 !=0,getD e.snd.fst 5 0
 !=0,getD e.snd.fst 6 0 !=0,getD e.snd.fst 7 0 !=0] 2 false=getD [getD e.snd.fst 0 0 !=0,getD e.snd.fst 1 0 !=0,getD e.snd.fst 2 0 !=0,getD e.snd.fst 3 0 !=0,getD e.snd.fst 4 0
 !=0,getD e.snd.fst 5 0 !=0,getD e.snd.fst 6 0 !=0,getD e.snd.fst 7 0 !=0] 2 false∧getD [getD e.snd.fst 0 0 !=0,getD e.snd.fst 1 0 !=0,getD e.snd.fst 2 0 !=0,getD e.snd.fst 3 0
 !=0,getD e.snd.fst 4 0 !=0,getD e.snd.fst 5 0 !=0,getD e.snd.fst 6 0 !=0,getD e.snd.fst 7 0 !=0] 3 false=getD [getD e.snd.fst 0 0 !=0,getD e.snd.fst 1 0 !=0,getD e.snd.fst 2 0
 !=0,getD e.snd.fst 3 0 !=0,getD e.snd.fst 4 0 !=0,getD e.snd.fst 5 0 !=0,getD e.snd.fst 6 0 !=0,getD e.snd.fst 7 0 !=0] 3 false∧getD [getD e.snd.fst 0 0 !=0,getD e.snd.fst 1 0
 !=0,getD e.snd.fst 2 0 !=0,getD e.snd.fst 3 0 !=0,getD e.snd.fst 4 0 !=0,getD e.snd.fst 5 0 !=0,getD e.snd.fst 6 0 !=0,getD e.snd.fst 7 0 !=0] 4 false=getD [getD e.snd.fst 0 0
 !=0,getD e.snd.fst 1 0 !=0,getD e.snd.fst 2 0 !=0,getD e.snd.fst 3 0 !=0,getD e.snd.fst 4 0 !=0,getD e.snd.fst 5 0 !=0,getD e.snd.fst 6 0 !=0,getD e.snd.fst 7 0 !=0] 4 false∧
 getD [getD e.snd.fst 0 0 !=0,getD e.snd.fst 1 0 !=0,getD e.snd.fst 2 0 !=0,getD e.snd.fst 3 0 !=0,getD e.snd.fst 4 0 !=0,getD e.snd.fst 5 0 !=0,getD e.snd.fst 6 0 !=0,getD
 e.snd.fst 7 0 !=0] 5 false=getD [getD e.snd.fst 0 0 !=0,getD e.snd.fst 1 0 !=0,getD e.snd.fst 2 0 !=0,getD e.snd.fst 3 0 !=0,getD e.snd.fst 4 0 !=0,getD e.snd.fst 5 0 !=0,getD
 e.snd.fst 6 0 !=0,getD e.snd.fst 7 0 !=0] 5 false∧getD [getD e.snd.fst 0 0 !=0,getD e.snd.fst 1 0 !=0,getD e.snd.fst 2 0 !=0,getD e.snd.fst 3 0 !=0,getD e.snd.fst 4 0 !=0,getD
 e.snd.fst 5 0 !=0,getD e.snd.fst 6 0 !=0,getD e.snd.fst 7 0 !=0] 6 false=getD [getD e.snd.fst 0 0 !=0,getD e.snd.fst 1 0 !=0,getD e.snd.fst 2 0 !=0,getD e.snd.fst 3 0 !=0,getD
 e.snd.fst 4 0 !=0,getD e.snd.fst 5 0 !=0,getD e.snd.fst 6 0 !=0,getD e.snd.fst 7 0 !=0] 6 false∧getD [getD e.snd.fst 0 0 !=0,getD e.snd.fst 1 0 !=0,getD e.snd.fst 2 0 !=0,getD
 e.snd.fst 3 0 !=0,getD e.snd.fst 4 0 !=0,getD e.snd.fst 5 0 !=0,getD e.snd.fst 6 0 !=0,getD e.snd.fst 7 0 !=0] 7 false=getD [getD e.snd.fst 0 0 !=0,getD e.snd.fst 1 0 !=0,getD
 e.snd.fst 2 0 !=0,getD e.snd.fst 3 0 !=0,getD e.snd.fst 4 0 !=0,getD e.snd.fst 5 0 !=0,getD e.snd.fst 6 0 !=0,getD e.snd.fst 7 0 !=0] 7 false∧qx (b_2.i+1) (zz5∧8-Int.toNat
 (b_2.i+1)<8-Int.toNat b_2.i∧True)))))∧(b8 e.snd.fst zz7=false→(b8 e.snd.fst zz7=true→inR i64 (b_2.i+7)=true∧leb 0 zz4=true∧ltb zz4 8=true∧ltn (Int.toNat zz4)
 8=true∧(zz2=true→inR i64 (b_2.g+1)=true∧inR i64 (b_2.i+1)=true∧1=1∧w=w∧h=h∧qx (Cont.vals (flatC l)) (length l=length l∧0=0∧b.es=b.es∧b.ck=b.ck∧
 (cvF w (celL (facL w h l) f)).snd=(cvF w (celL (facL w h l) f)).snd∧b_1.seen++[e.snd.snd]=b_1.seen++[e.snd.snd]∧8=8∧[getD e.snd.fst 0 0 !=0,getD e.snd.fst 1 0 !=0,getD
 e.snd.fst 2 0 !=0,getD e.snd.fst 3 0 !=0,getD e.snd.fst 4 0 !=0,getD e.snd.fst 5 0 !=0,getD e.snd.fst 6 0 !=0,getD e.snd.fst 7 0 !=0]=[getD e.snd.fst 0 0 !=0,getD e.snd.fst 1
 0 !=0,getD e.snd.fst 2 0 !=0,getD e.snd.fst 3 0 !=0,getD e.snd.fst 4 0 !=0,getD e.snd.fst 5 0 !=0,getD e.snd.fst 6 0 !=0,getD e.snd.fst 7 0 !=0]∧ltb b.i (↑zz1:Int)=ltb b.i
 (↑zz1:Int)∧0=0∧0=0∧b_2.m=b_2.m∧qx (b_2.g+1) (getD [getD e.snd.fst 0 0 !=0,getD e.snd.fst 1 0 !=0,getD e.snd.fst 2 0 !=0,getD e.snd.fst 3 0 !=0,getD e.snd.fst 4 0 !=
 0,getD e.snd.fst 5 0 !=0,getD e.snd.fst 6 0 !=0,getD e.snd.fst 7 0 !=0] 0 false=getD [getD e.snd.fst 0 0 !=0,getD e.snd.fst 1 0 !=0,getD e.snd.fst 2 0 !=0,getD e.snd.fst 3 0 !=
 0,getD e.snd.fst 4 0 !=0,getD e.snd.fst 5 0 !=0,getD e.snd.fst 6 0 !=0,getD e.snd.fst 7 0 !=0] 0 false∧getD [getD e.snd.fst 0 0 !=0,getD e.snd.fst 1 0 !=0,getD e.snd.fst 2 0 !=
 0,getD e.snd.fst 3 0 !=0,getD e.snd.fst 4 0 !=0,getD e.snd.fst 5 0 !=0,getD e.snd.fst 6 0 !=0,getD e.snd.fst 7 0 !=0] 1 false=getD [getD e.snd.fst 0 0 !=0,getD e.snd.fst 1 0 !=
 0,getD e.snd.fst 2 0 !=0,getD e.snd.fst 3 0 !=0,getD e.snd.fst 4 0 !=0,getD e.snd.fst 5 0 !=0,getD e.snd.fst 6 0 !=0,getD e.snd.fst 7 0 !=0] 1 false∧getD [getD e.snd.fst 0 0 !=
 0,getD e.snd.fst 1 0 !=0,getD e.snd.fst 2 0 !=0,getD e.snd.fst 3 0 !=0,getD e.snd.fst 4 0 !=0,getD e.snd.fst 5 0 !=0,getD e.snd.fst 6 0 !=0,getD e.snd.fst 7 0 !=0] 2 false=
 getD [getD e.snd.fst 0 0 !=0,getD e.snd.fst 1 0 !=0,getD e.snd.fst 2 0 !=0,getD e.snd.fst 3 0 !=0,getD e.snd.fst 4 0 !=0,getD e.snd.fst 5 0 !=0,getD e.snd.fst 6 0 !=0,getD
 e.snd.fst 7 0 !=0] 2 false∧getD [getD e.snd.fst 0 0 !=0,getD e.snd.fst 1 0 !=0,getD e.snd.fst 2 0 !=0,getD e.snd.fst 3 0 !=0,getD e.snd.fst 4 0 !=0,getD e.snd.fst 5 0 !=0,getD
 e.snd.fst 6 0 !=0,getD e.snd.fst 7 0 !=0] 3 false=getD [getD e.snd.fst 0 0 !=0,getD e.snd.fst 1 0 !=0,getD e.snd.fst 2 0 !=0,getD e.snd.fst 3 0 !=0,getD e.snd.fst 4 0 !=0,getD
 e.snd.fst 5 0 !=0,getD e.snd.fst 6 0 !=0,getD e.snd.fst 7 0 !=0] 3 false∧getD [getD e.snd.fst 0 0 !=0,getD e.snd.fst 1 0 !=0,getD e.snd.fst 2 0 !=0,getD e.snd.fst 3 0 !=0,getD
 e.snd.fst 4 0 !=0,getD e.snd.fst 5 0 !=0,getD e.snd.fst 6 0 !=0,getD e.snd.fst 7 0 !=0] 4 false=getD [getD e.snd.fst 0 0 !=0,getD e.snd.fst 1 0 !=0,getD e.snd.fst 2 0 !=0,getD
 e.snd.fst 3 0 !=0,getD e.snd.fst 4 0 !=0,getD e.snd.fst 5 0 !=0,getD e.snd.fst 6 0 !=0,getD e.snd.fst 7 0 !=0] 4 false∧getD [getD e.snd.fst 0 0 !=0,getD e.snd.fst 1 0 !=0,getD
 e.snd.fst 2 0 !=0,getD e.snd.fst 3 0 !=0,getD e.snd.fst 4 0 !=0,getD e.snd.fst 5 0 !=0,getD e.snd.fst 6 0 !=0,getD e.snd.fst 7 0 !=0] 5 false=getD [getD e.snd.fst 0 0 !=0,getD
 e.snd.fst 1 0 !=0,getD e.snd.fst 2 0 !=0,getD e.snd.fst 3 0 !=0,getD e.snd.fst 4 0 !=0,getD e.snd.fst 5 0 !=0,getD e.snd.fst 6 0 !=0,getD e.snd.fst 7 0 !=0] 5 false∧getD [getD
 e.snd.fst 0 0 !=0,getD e.snd.fst 1 0 !=0,getD e.snd.fst 2 0 !=0,getD e.snd.fst 3 0 !=0,getD e.snd.fst 4 0 !=0,getD e.snd.fst 5 0 !=0,getD e.snd.fst 6 0 !=0,getD e.snd.fst 7 0
 !=0] 6 false=getD [getD e.snd.fst 0 0 !=0,getD e.snd.fst 1 0 !=0,getD e.snd.fst 2 0 !=0,getD e.snd.fst 3 0 !=0,getD e.snd.fst 4 0 !=0,getD e.snd.fst 5 0 !=0,getD e.snd.fst 6 0
 !=0,getD e.snd.fst 7 0 !=0] 6 false∧getD [getD e.snd.fst 0 0 !=0,getD e.snd.fst 1 0 !=0,getD e.snd.fst 2 0 !=0,getD e.snd.fst 3 0 !=0,getD e.snd.fst 4 0 !=0,getD e.snd.fst 5 0
 !=0,getD e.snd.fst 6 0 !=0,getD e.snd.fst 7 0 !=0] 7 false=getD [getD e.snd.fst 0 0 !=0,getD e.snd.fst 1 0 !=0,getD e.snd.fst 2 0 !=0,getD e.snd.fst 3 0 !=0,getD e.snd.fst 4 0
 !=0,getD e.snd.fst 5 0 !=0,getD e.snd.fst 6 0 !=0,getD e.snd.fst 7 0 !=0] 7 false∧qx (b_2.i+1) ((∃(n:Nat),b_2.i+1=(↑n:Int)∧n≤8∧b_2.m=(↑(cnt8 e.snd.fst n):Int)
 ∧b_2.g+1=(↑(beg8 e.snd.fst n):Int))∧8-Int.toNat (b_2.i+1)<8-Int.toNat b_2.i∧True))))∧(zz2=false→inR i64 (b_2.i+1)=true∧1=1∧w=w∧h=h∧qx (Cont.vals
 (flatC l)) (length l=length l∧0=0∧b.es=b.es∧b.ck=b.ck∧(cvF w (celL (facL w h l) f)).snd=(cvF w (celL (facL w h l) f)).snd∧b_1.seen++[e.snd.snd]=b_1.seen++
 [e.snd.snd]∧8=8∧[getD e.snd.fst 0 0 !=0,getD e.snd.fst 1 0 !=0,getD e.snd.fst 2 0 !=0,getD e.snd.fst 3 0 !=0,getD e.snd.fst 4 0 !=0,getD e.snd.fst 5 0 !=0,getD e.snd.fst 6
 0 !=0,getD e.snd.fst 7 0 !=0]=[getD e.snd.fst 0 0 !=0,getD e.snd.fst 1 0 !=0,getD e.snd.fst 2 0 !=0,getD e.snd.fst 3 0 !=0,getD e.snd.fst 4 0 !=0,getD e.snd.fst 5 0 !=0,getD
 e.snd.fst 6 0 !=0,getD e.snd.fst 7 0 !=0]∧ltb b.i (↑zz1:Int)=ltb b.i (↑zz1:Int)∧0=0∧0=0∧b_2.m=b_2.m∧b_2.g=b_2.g∧getD [getD e.snd.fst 0 0 !=0,getD e.snd.fst 1 0
 !=0,getD e.snd.fst 2 0 !=0,getD e.snd.fst 3 0 !=0,getD e.snd.fst 4 0 !=0,getD e.snd.fst 5 0 !=0,getD e.snd.fst 6 0 !=0,getD e.snd.fst 7 0 !=0] 0 false=getD [getD e.snd.fst 0 0
 !=0,getD e.snd.fst 1 0 !=0,getD e.snd.fst 2 0 !=0,getD e.snd.fst 3 0 !=0,getD e.snd.fst 4 0 !=0,getD e.snd.fst 5 0 !=0,getD e.snd.fst 6 0 !=0,getD e.snd.fst 7 0 !=0] 0 false∧
 getD [getD e.snd.fst 0 0 !=0,getD e.snd.fst 1 0 !=0,getD e.snd.fst 2 0 !=0,getD e.snd.fst 3 0 !=0,getD e.snd.fst 4 0 !=0,getD e.snd.fst 5 0 !=0,getD e.snd.fst 6 0 !=0,getD
 e.snd.fst 7 0 !=0] 1 false=getD [getD e.snd.fst 0 0 !=0,getD e.snd.fst 1 0 !=0,getD e.snd.fst 2 0 !=0,getD e.snd.fst 3 0 !=0,getD e.snd.fst 4 0 !=0,getD e.snd.fst 5 0 !=0,getD
 e.snd.fst 6 0 !=0,getD e.snd.fst 7 0 !=0] 1 false∧getD [getD e.snd.fst 0 0 !=0,getD e.snd.fst 1 0 !=0,getD e.snd.fst 2 0 !=0,getD e.snd.fst 3 0 !=0,getD e.snd.fst 4 0 !=0,getD
 e.snd.fst 5 0 !=0,getD e.snd.fst 6 0 !=0,getD e.snd.fst 7 0 !=0] 2 false=getD [getD e.snd.fst 0 0 !=0,getD e.snd.fst 1 0 !=0,getD e.snd.fst 2 0 !=0,getD e.snd.fst 3 0 !=0,getD
 e.snd.fst 4 0 !=0,getD e.snd.fst 5 0 !=0,getD e.snd.fst 6 0 !=0,getD e.snd.fst 7 0 !=0] 2 false∧getD [getD e.snd.fst 0 0 !=0,getD e.snd.fst 1 0 !=0,getD e.snd.fst 2 0 !=0,getD
 e.snd.fst 3 0 !=0,getD e.snd.fst 4 0 !=0,getD e.snd.fst 5 0 !=0,getD e.snd.fst 6 0 !=0,getD e.snd.fst 7 0 !=0] 3 false=getD [getD e.snd.fst 0 0 !=0,getD e.snd.fst 1 0 !=0,getD
 e.snd.fst 2 0 !=0,getD e.snd.fst 3 0 !=0,getD e.snd.fst 4 0 !=0,getD e.snd.fst 5 0 !=0,getD e.snd.fst 6 0 !=0,getD e.snd.fst 7 0 !=0] 3 false∧getD [getD e.snd.fst 0 0 !=0,getD
 e.snd.fst 1 0 !=0,getD e.snd.fst 2 0 !=0,getD e.snd.fst 3 0 !=0,getD e.snd.fst 4 0 !=0,getD e.snd.fst 5 0 !=0,getD e.snd.fst 6 0 !=0,getD e.snd.fst 7 0 !=0] 4 false=getD [getD
 e.snd.fst 0 0 !=0,getD e.snd.fst 1 0 !=0,getD e.snd.fst 2 0 !=0,getD e.snd.fst 3 0 !=0,getD e.snd.fst 4 0 !=0,getD e.snd.fst 5 0 !=0,getD e.snd.fst 6 0 !=0,getD e.snd.fst 7 0
 !=0] 4 false∧getD [getD e.snd.fst 0 0 !=0,getD e.snd.fst 1 0 !=0,getD e.snd.fst 2 0 !=0,getD e.snd.fst 3 0 !=0,getD e.snd.fst 4 0 !=0,getD e.snd.fst 5 0 !=0,getD e.snd.fst 6 0
 !=0,getD e.snd.fst 7 0 !=0] 5 false=getD [getD e.snd.fst 0 0 !=0,getD e.snd.fst 1 0 !=0,getD e.snd.fst 2 0 !=0,getD e.snd.fst 3 0 !=0,getD e.snd.fst 4 0 !=0,getD e.snd.fst 5 0
 !=0,getD e.snd.fst 6 0 !=0,getD e.snd.fst 7 0 !=0] 5 false∧getD [getD e.snd.fst 0 0 !=0,getD e.snd.fst 1 0 !=0,getD e.snd.fst 2 0 !=0,getD e.snd.fst 3 0 !=0,getD e.snd.fst 4 0
 !=0,getD e.snd.fst 5 0 !=0,getD e.snd.fst 6 0 !=0,getD e.snd.fst 7 0 !=0] 6 false=getD [getD e.snd.fst 0 0 !=0,getD e.snd.fst 1 0 !=0,getD e.snd.fst 2 0 !=0,getD e.snd.fst 3 0
 !=0,getD e.snd.fst 4 0 !=0,getD e.snd.fst 5 0 !=0,getD e.snd.fst 6 0 !=0,getD e.snd.fst 7 0 !=0] 6 false∧getD [getD e.snd.fst 0 0 !=0,getD e.snd.fst 1 0 !=0,getD e.snd.fst 2 0
 !=0,getD e.snd.fst 3 0 !=0,getD e.snd.fst 4 0 !=0,getD e.snd.fst 5 0 !=0,getD e.snd.fst 6 0 !=0,getD e.snd.fst 7 0 !=0] 7 false=getD [getD e.snd.fst 0 0 !=0,getD e.snd.fst 1 0
 !=0,getD e.snd.fst 2 0 !=0,getD e.snd.fst 3 0 !=0,getD e.snd.fst 4 0 !=0,getD e.snd.fst 5 0 !=0,getD e.snd.fst 6 0 !=0,getD e.snd.fst 7 0 !=0] 7 false∧qx (b_2.i+1) (zz6∧8
 -Int.toNat (b_2.i+1)<8-Int.toNat b_2.i∧True))))∧(b8 e.snd.fst zz7=false→inR i64 (b_2.i+1)=true∧1=1∧w=w∧h=h∧qx (Cont.vals (flatC l)) (length l=length l∧0
 =0∧b.es=b.es∧b.ck=b.ck∧(cvF w (celL (facL w h l) f)).snd=(cvF w (celL (facL w h l) f)).snd∧b_1.seen++[e.snd.snd]=b_1.seen++[e.snd.snd]∧8=8∧[getD e.snd.fst 0 0 !=
 0,getD e.snd.fst 1 0 !=0,getD e.snd.fst 2 0 !=0,getD e.snd.fst 3 0 !=0,getD e.snd.fst 4 0 !=0,getD e.snd.fst 5 0 !=0,getD e.snd.fst 6 0 !=0,getD e.snd.fst 7 0 !=0]=[getD
 e.snd.fst 0 0 !=0,getD e.snd.fst 1 0 !=0,getD e.snd.fst 2 0 !=0,getD e.snd.fst 3 0 !=0,getD e.snd.fst 4 0 !=0,getD e.snd.fst 5 0 !=0,getD e.snd.fst 6 0 !=0,getD e.snd.fst 7 0
 !=0]∧ltb b.i (↑zz1:Int)=ltb b.i (↑zz1:Int)∧0=0∧0=0∧b_2.m=b_2.m∧b_2.g=b_2.g∧getD [getD e.snd.fst 0 0 !=0,getD e.snd.fst 1 0 !=0,getD e.snd.fst 2 0 !=0,getD
 e.snd.fst 3 0 !=0,getD e.snd.fst 4 0 !=0,getD e.snd.fst 5 0 !=0,getD e.snd.fst 6 0 !=0,getD e.snd.fst 7 0 !=0] 0 false=getD [getD e.snd.fst 0 0 !=0,getD e.snd.fst 1 0 !=0,getD
 e.snd.fst 2 0 !=0,getD e.snd.fst 3 0 !=0,getD e.snd.fst 4 0 !=0,getD e.snd.fst 5 0 !=0,getD e.snd.fst 6 0 !=0,getD e.snd.fst 7 0 !=0] 0 false∧getD [getD e.snd.fst 0 0 !=0,getD
 e.snd.fst 1 0 !=0,getD e.snd.fst 2 0 !=0,getD e.snd.fst 3 0 !=0,getD e.snd.fst 4 0 !=0,getD e.snd.fst 5 0 !=0,getD e.snd.fst 6 0 !=0,getD e.snd.fst 7 0 !=0] 1 false=getD [getD
 e.snd.fst 0 0 !=0,getD e.snd.fst 1 0 !=0,getD e.snd.fst 2 0 !=0,getD e.snd.fst 3 0 !=0,getD e.snd.fst 4 0 !=0,getD e.snd.fst 5 0 !=0,getD e.snd.fst 6 0 !=0,getD e.snd.fst 7 0
 !=0] 1 false∧getD [getD e.snd.fst 0 0 !=0,getD e.snd.fst 1 0 !=0,getD e.snd.fst 2 0 !=0,getD e.snd.fst 3 0 !=0,getD e.snd.fst 4 0 !=0,getD e.snd.fst 5 0 !=0,getD e.snd.fst 6 0
 !=0,getD e.snd.fst 7 0 !=0] 2 false=getD [getD e.snd.fst 0 0 !=0,getD e.snd.fst 1 0 !=0,getD e.snd.fst 2 0 !=0,getD e.snd.fst 3 0 !=0,getD e.snd.fst 4 0 !=0,getD e.snd.fst 5 0
 !=0,getD e.snd.fst 6 0 !=0,getD e.snd.fst 7 0 !=0] 2 false∧getD [getD e.snd.fst 0 0 !=0,getD e.snd.fst 1 0 !=0,getD e.snd.fst 2 0 !=0,getD e.snd.fst 3 0 !=0,getD e.snd.fst 4 0
 !=0,getD e.snd.fst 5 0 !=0,getD e.snd.fst 6 0 !=0,getD e.snd.fst 7 0 !=0] 3 false=getD [getD e.snd.fst 0 0 !=0,getD e.snd.fst 1 0 !=0,getD e.snd.fst 2 0 !=0,getD e.snd.fst 3 0
 !=0,getD e.snd.fst 4 0 !=0,getD e.snd.fst 5 0 !=0,getD e.snd.fst 6 0 !=0,getD e.snd.fst 7 0 !=0] 3 false∧getD [getD e.snd.fst 0 0 !=0,getD e.snd.fst 1 0 !=0,getD e.snd.fst 2 0
 !=0,getD e.snd.fst 3 0 !=0,getD e.snd.fst 4 0 !=0,getD e.snd.fst 5 0 !=0,getD e.snd.fst 6 0 !=0,getD e.snd.fst 7 0 !=0] 4 false=getD [getD e.snd.fst 0 0 !=0,getD e.snd.fst 1 0
 !=0,getD e.snd.fst 2 0 !=0,getD e.snd.fst 3 0 !=0,getD e.snd.fst 4 0 !=0,getD e.snd.fst 5 0 !=0,getD e.snd.fst 6 0 !=0,getD e.snd.fst 7 0 !=0] 4 false∧getD [getD e.snd.fst 0 0
 !=0,getD e.snd.fst 1 0 !=0,getD e.snd.fst 2 0 !=0,getD e.snd.fst 3 0 !=0,getD e.snd.fst 4 0 !=0,getD e.snd.fst 5 0 !=0,getD e.snd.fst 6 0 !=0,getD e.snd.fst 7 0 !=0] 5 false=
 getD [getD e.snd.fst 0 0 !=0,getD e.snd.fst 1 0 !=0,getD e.snd.fst 2 0 !=0,getD e.snd.fst 3 0 !=0,getD e.snd.fst 4 0 !=0,getD e.snd.fst 5 0 !=0,getD e.snd.fst 6 0 !=0,getD
 e.snd.fst 7 0 !=0] 5 false∧getD [getD e.snd.fst 0 0 !=0,getD e.snd.fst 1 0 !=0,getD e.snd.fst 2 0 !=0,getD e.snd.fst 3 0 !=0,getD e.snd.fst 4 0 !=0,getD e.snd.fst 5 0 !=0,getD
 e.snd.fst 6 0 !=0,getD e.snd.fst 7 0 !=0] 6 false=getD [getD e.snd.fst 0 0 !=0,getD e.snd.fst 1 0 !=0,getD e.snd.fst 2 0 !=0,getD e.snd.fst 3 0 !=0,getD e.snd.fst 4 0 !=0,getD
 e.snd.fst 5 0 !=0,getD e.snd.fst 6 0 !=0,getD e.snd.fst 7 0 !=0] 6 false∧getD [getD e.snd.fst 0 0 !=0,getD e.snd.fst 1 0 !=0,getD e.snd.fst 2 0 !=0,getD e.snd.fst 3 0 !=0,getD
 e.snd.fst 4 0 !=0,getD e.snd.fst 5 0 !=0,getD e.snd.fst 6 0 !=0,getD e.snd.fst 7 0 !=0] 7 false=getD [getD e.snd.fst 0 0 !=0,getD e.snd.fst 1 0 !=0,getD e.snd.fst 2 0 !=0,getD
 e.snd.fst 3 0 !=0,getD e.snd.fst 4 0 !=0,getD e.snd.fst 5 0 !=0,getD e.snd.fst 6 0 !=0,getD e.snd.fst 7 0 !=0] 7 false∧qx (b_2.i+1) (zz6∧8-Int.toNat (b_2.i+1)<8-
 Int.toNat b_2.i∧True)))))∧(ltb b_2.i 8=false→(ltb b_2.m 8=true→(ltb 1 b_2.g=true→false=cvB w (celL (facL w h l) f)∧iI 0=0∧True)∧(ltb 1 b_2.g=false→(ltb 4 b_2.m
 =true→false=cvB w (celL (facL w h l) f)∧iI 0=0∧True)∧(ltb 4 b_2.m=false→1=1∧w=w∧h=h∧qx (Cont.vals (flatC l)) (length l=length l∧0=0∧b.es=b.es∧b.ck=
 b.ck∧(cvF w (celL (facL w h l) f)).snd=(cvF w (celL (facL w h l) f)).snd∧b_1.seen++[e.snd.snd]=b_1.seen++[e.snd.snd]∧ltb b.i (↑zz1:Int)=ltb b.i (↑zz1:Int)∧0=0∧((all
 (cvF w (celL (facL w h l) f)).fst fun(e:Ent3)=>okV8 e.snd.fst)=all (leftE (cvF w (celL (facL w h l) f)).fst (b_1.seen++[e.snd.snd])) fun(e:List Int×List Int×Nat)=>okV8
 e.snd.fst)∧length (leftE (cvF w (celL (facL w h l) f)).fst (b_1.seen++[e.snd.snd]))<length (leftE (cvF w (celL (facL w h l) f)).fst b_1.seen)∧True))))∧(ltb b_2.m 8=false→1=1
 ∧w=w∧h=h∧qx (Cont.vals (flatC l)) (length l=length l∧0=0∧b.es=b.es∧b.ck=b.ck∧(cvF w (celL (facL w h l) f)).snd=(cvF w (celL (facL w h l) f)).snd∧b_1.seen++
 [e.snd.snd]=b_1.seen++[e.snd.snd]∧ltb b.i (↑zz1:Int)=ltb b.i (↑zz1:Int)∧0=0∧((all (cvF w (celL (facL w h l) f)).fst fun(e:Ent3)=>okV8 e.snd.fst)=all (leftE (cvF w
 (celL (facL w h l) f)).fst (b_1.seen++[e.snd.snd])) fun(e:List Int×List Int×Nat)=>okV8 e.snd.fst)∧length (leftE (cvF w (celL (facL w h l) f)).fst (b_1.seen++[e.snd.snd]))<
 length (leftE (cvF w (celL (facL w h l) f)).fst b_1.seen)∧True)))) (!getD [getD e.snd.fst 0 0 !=0,getD e.snd.fst 1 0 !=0,getD e.snd.fst 2 0 !=0,getD e.snd.fst 3 0 !=0,getD
 e.snd.fst 4 0 !=0,getD e.snd.fst 5 0 !=0,getD e.snd.fst 6 0 !=0,getD e.snd.fst 7 0 !=0] (Int.toNat zz4) false)) (Int.tmod (b_2.i+7) 8)) (∃(n:Nat),b_2.i+1=(↑n:Int)∧n≤8
 ∧b_2.m+1=(↑(cnt8 e.snd.fst n):Int)∧b_2.g=(↑(beg8 e.snd.fst n):Int))) (∃(n:Nat),b_2.i+1=(↑n:Int)∧n≤8∧b_2.m=(↑(cnt8 e.snd.fst n):Int)∧b_2.g=(↑(beg8
 e.snd.fst n):Int))) (Int.toNat b_2.i))))) (getD (drop (Int.toNat b.i) (celL (facL w h (unC (flatC l))) f)) 0 0)))))) (length (celL (facL w h (unC (flatC l))) f))):=by kernel_rfl

end Go.Proofs.YtfpcbimohikhmaaDoor.X
