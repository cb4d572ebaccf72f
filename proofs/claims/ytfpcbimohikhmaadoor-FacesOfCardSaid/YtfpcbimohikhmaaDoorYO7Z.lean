/-
 What is to be shown of the functions (made by a program).
-/
import Derived.Test.YtfpcbimohikhmaaDoorYD7Z
import Derived.KernelRfl
set_option maxRecDepth 1000000
set_option linter.unusedVariables false
namespace Go.Proofs.YtfpcbimohikhmaaDoor.X
open Go Go.Ab
open List IntKind

theorem ob_o12 (W H:Int)(ks:List Int):fnP (T12) G 10000 fe12 (.r [] 0 (.r [] 5 (.r [] 25 (.r [] 25 (.r [] 1 (.r [] 0 (.r [] 0 (.lp (l12 (facL (dim W) (dim H) (ofL W H ks))) [] [] (fun b=>(.r [] 0 (.cnd (.r [] 0 (.r [] 0 .nil)) (.r [] 57 (.r [] 25 (.r [yL 835,yL 836,yL 837,yL 838,yL 839,yL 840,yL 841,yL 842,yL 843,yL 844,yL 845,yL 846,yL 847,yL 848,yL 849,yL 850,yL 851,yL 852,yL 853,yL 854,yL 855,yL 856,yL 857,yL 858,yL 859,yL 860,yL 861,yL 862,yL 863,yL 864] 136633515647 .nil)))))))))))))) ([patP W H ks]) ([.bool true]) ([])=(
 (fun(zz0:Nat)=>(0≤W∧W≤255∧0≤H∧H≤255∧qx (length ks) (u8s ks))∧qx zz0 ((s5 (dim W) (dim H)∧okV (dim W) (dim H) (flatC (ofL W H ks)) zz0)∧qx zz0 ((s5 (dim W) (dim H)
 ∧okV (dim W) (dim H) (flatC (ofL W H ks)) zz0)∧qx zz0 ((s5 (dim W) (dim H)∧okV (dim W) (dim H) (flatC (ofL W H ks)) zz0)∧1=1∧W=W∧H=H∧qs u8 ks (qx zz0 (qx (flatC (ofL W H
 ks)) (1=1∧dim W=dim W∧dim H=dim H∧qx zz0 (qx (nC (dim W) (dim H)) (qx (nC (dim W) (dim H)) (qx (facL (dim W) (dim H) (unC (flatC (ofL W H ks)))) (0=0∧qx (Cont.ints i64 (facL
 (dim W) (dim H) (unC (flatC (ofL W H ks))))) (qx (nC (dim W) (dim H)) (qx (nC (dim W) (dim H)) (iI 0=0∧qx (maxL (facL (dim W) (dim H) (unC (flatC (ofL W H ks))))+1) (iI 0=0∧qx (nC
 (dim W) (dim H)) (iI 0=0∧iI 0=0∧(∃(n:Nat),0=(↑n:Int)∧n≤length (facL (dim W) (dim H) (ofL W H ks))∧0=mxP (facL (dim W) (dim H) (ofL W H ks)) n)∧∀(b:Int×Int),
 (fun(zz1:Nat)=>(∃(n:Nat),b.fst=(↑n:Int)∧n≤length (facL (dim W) (dim H) (ofL W H ks))∧b.snd=mxP (facL (dim W) (dim H) (ofL W H ks)) n)→qx (nC (dim W) (dim H)) ((ltb
 b.fst (↑(nC (dim W) (dim H)):Int)=true→leb 0 b.fst=true∧ltb b.fst (↑(nC (dim W) (dim H)):Int)=true∧qx (nC (dim W) (dim H)) (qx (nC (dim W) (dim H)) (ltn zz1 (Cont.size
 (Cont.ints i64 (facL (dim W) (dim H) (unC (flatC (ofL W H ks))))))=true∧inR i64 (getD (facL (dim W) (dim H) (unC (flatC (ofL W H ks)))) zz1 0+1)=true∧inR i64 (b.fst+1)=true∧1
 =1∧W=W∧H=H∧qs u8 ks (qx zz0 (qx (flatC (ofL W H ks)) (1=1∧dim W=dim W∧dim H=dim H∧qx zz0 (qx (nC (dim W) (dim H)) (qx (nC (dim W) (dim H)) (qx (facL (dim W) (dim H)
 (unC (flatC (ofL W H ks)))) (0=0∧qx (Cont.ints i64 (facL (dim W) (dim H) (unC (flatC (ofL W H ks))))) (qx (nC (dim W) (dim H)) (qx (nC (dim W) (dim H)) (iI 0=0∧qx (maxL (facL (dim W)
 (dim H) (unC (flatC (ofL W H ks))))+1) (iI 0=0∧qx (nC (dim W) (dim H)) ((if getD (facL (dim W) (dim H) (unC (flatC (ofL W H ks)))) zz1 0+1>b.snd then getD (facL (dim W) (dim H)
 (unC (flatC (ofL W H ks)))) zz1 0+1 else b.snd)=(b.fst+1,if getD (facL (dim W) (dim H) (unC (flatC (ofL W H ks)))) zz1 0+1>b.snd then getD (facL (dim W) (dim H) (unC (flatC (ofL W
 H ks)))) zz1 0+1 else b.snd).snd∧b.fst+1=(b.fst+1,if getD (facL (dim W) (dim H) (unC (flatC (ofL W H ks)))) zz1 0+1>b.snd then getD (facL (dim W) (dim H) (unC (flatC (ofL W H
 ks)))) zz1 0+1 else b.snd).fst∧(∃(n:Nat),(b.fst+1,if getD (facL (dim W) (dim H) (unC (flatC (ofL W H ks)))) zz1 0+1>b.snd then getD (facL (dim W) (dim H) (unC (flatC (ofL W H
 ks)))) zz1 0+1 else b.snd).fst=(↑n:Int)∧n≤length (facL (dim W) (dim H) (ofL W H ks))∧(b.fst+1,if getD (facL (dim W) (dim H) (unC (flatC (ofL W H ks)))) zz1 0+1>b.snd then
 getD (facL (dim W) (dim H) (unC (flatC (ofL W H ks)))) zz1 0+1 else b.snd).snd=mxP (facL (dim W) (dim H) (ofL W H ks)) n)∧length (facL (dim W) (dim H) (ofL W H ks))-Int.toNat (b.fst
 +1)<length (facL (dim W) (dim H) (ofL W H ks))-Int.toNat b.fst∧True)))))))))))))))∧(ltb b.fst (↑(nC (dim W) (dim H)):Int)=false→qx zz0 ((s4 (dim W) (dim H)∧okV (dim W) (dim
 H) (flatC (ofL W H ks)) zz0)∧qx (length (opL (unC (flatC (ofL W H ks))))) ((s5 (dim W) (dim H)∧okV (dim W) (dim H) (flatC (opL (unC (flatC (ofL W H ks))))) (length (opL (unC (flatC (ofL
 W H ks))))))∧qx (nC (dim W) (dim H)) ((qx (facL (dim W) (dim H) (unC (flatC (ofL W H ks)))) (nC (dim W) (dim H)=length (facL (dim W) (dim H) (unC (flatC (ofL W H ks))))∧nC (dim W) (dim
 H)=length (facL (dim W) (dim H) (unC (flatC (ofL W H ks))))∧nC (dim W) (dim H)=length (facL (dim W) (dim H) (unC (flatC (ofL W H ks))))∧length (facL (dim W) (dim H) (unC (flatC (ofL
 W H ks))))<1000000000))∧(maxL (facL (dim W) (dim H) (unC (flatC (ofL W H ks))))+1==b.snd)=true∧qx (nC (dim W) (dim H)) ((facL (dim W) (dim H) (unC (flatC (opL (unC (flatC (ofL W
 H ks))))))=facL (dim W) (dim H) (unC (flatC (ofL W H ks)))∧nC (dim W) (dim H)=length (facL (dim W) (dim H) (unC (flatC (opL (unC (flatC (ofL W H ks)))))))∧nC (dim W) (dim H)=length
 (facL (dim W) (dim H) (unC (flatC (opL (unC (flatC (ofL W H ks)))))))∧nC (dim W) (dim H)=length (facL (dim W) (dim H) (unC (flatC (opL (unC (flatC (ofL W H ks)))))))∧length (facL (dim
 W) (dim H) (unC (flatC (opL (unC (flatC (ofL W H ks)))))))<1000000000)∧true=true∧True))))))) (Int.toNat b.fst))))))))))))))))) (length (ofL W H ks))):=by kernel_rfl

end Go.Proofs.YtfpcbimohikhmaaDoor.X
