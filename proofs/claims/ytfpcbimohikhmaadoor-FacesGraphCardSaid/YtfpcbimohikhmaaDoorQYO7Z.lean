/-
 What is to be shown of the functions (made by a program).
-/
import Derived.Test.YtfpcbimohikhmaaDoorQYD7Z
import Derived.KernelRfl
set_option maxRecDepth 1000000
set_option linter.unusedVariables false
namespace Go.Proofs.YtfpcbimohikhmaaDoor.X
open Go Go.Ab
open List IntKind

theorem ob_o9 (W H:Int)(ks:List Int):fnP (T9) G 10000 fe9 (.r [] 0 (.r [] 5 (.r [] 25 (.r [] 25 (.r [] 1 (.r [yL 387,yL 388,yL 389,yL 390,yL 391,yL 392,yL 393,yL 394,yL 395,yL 396,yL 397,yL 398,yL 399,yL 400,yL 401,yL 402,yL 403] 3890623 (.ff (.r [] 0 (.r [] 0 (.r [] 0 (.lp (l9 (jnC (dim W) (dim H) (ofL W H ks))) [] [] (fun b=>(.r [] 0 (.cnd (.r [(835,.auto,Dr.val (jV (jnC (dim W) (dim H) (ofL W H ks)) b.i)),(839,.auto,Dr.val (jV (jnC (dim W) (dim H) (ofL W H ks)) b.i))] 0 (.ff (.r [(965,.auto,Dr.val [AV.int i64 (Option.getD (jnC (dim W) (dim H) (ofL W H ks))[Int.toNat b.i]? (0,0,0)).snd.snd])] 0 (.br (b.b) (.r [(1026,.off,Dr.plain),(1027,.off,Dr.plain),(1028,.off,Dr.plain),(1029,.off,Dr.plain),(1030,.off,Dr.plain),(1031,.off,Dr.plain),(1032,.off,Dr.plain),(1033,.off,Dr.plain),(1034,.off,Dr.plain),(1035,.off,Dr.plain),(1036,.off,Dr.plain),(1037,.auto,Dr.pk true)] 10240 (.r [] 0 .nil)) (.r [yO 1026,yO 1027,yO 1028,yO 1029,(1030,.on,Dr.val [AV.int i64 (Option.getD (jnC (dim W) (dim H) (ofL W H ks))[Int.toNat b.i]? (0,0,0)).fst]),yO 1031,yO 1032,yO 1033,yO 1034,(1035,.on,Dr.val [AV.int i64 (Option.getD (jnC (dim W) (dim H) (ofL W H ks))[Int.toNat b.i]? (0,0,0)).snd.fst]),yO 1036,(1037,.auto,Dr.pk false)] 41943040 (.r [] 0 .nil)))))) (.r [yL 1094,yL 1095,yL 1096,yL 1097,yL 1098,yL 1099] 1913 .nil))))))))))))))) ([patP W H ks]) ([.bool true]) ([])=(
 (fun(zz1:Nat)=>(fun(zz0:Nat)=>(0≤W∧W≤255∧0≤H∧H≤255∧qx (length ks) (u8s ks))∧qx zz1 ((s5 (dim W) (dim H)∧okV (dim W) (dim H) (flatC (ofL W H ks)) zz1)∧qx zz1
 ((s5 (dim W) (dim H)∧okV (dim W) (dim H) (flatC (ofL W H ks)) zz1)∧qx zz1 ((s5 (dim W) (dim H)∧okV (dim W) (dim H) (flatC (ofL W H ks)) zz1)∧qx zz0 (qx zz0 ((!(↑zz0:Int) !=(↑zz0:
 Int))=true∧qx zz0 (qx zz0 (((↑zz0:Int) !=(↑zz0:Int))=false∧1=1∧W=W∧H=H∧qs u8 ks (qx zz1 (qx (flatC (ofL W H ks)) (1=1∧dim W=dim W∧dim H=dim H∧qx zz1 (qx
 zz0 (qx zz0 (qx (flJ (jnC (dim W) (dim H) (unC (flatC (ofL W H ks))))) (qx zz0 (qx (flJ (jnC (dim W) (dim H) (unC (flatC (ofL W H ks))))) (0=0∧qx zz0 (qx (lseJ (jnC (dim W) (dim H) (unC
 (flatC (ofL W H ks))))) (qx zz0 (iI 0=0∧false=false∧iI 0=0∧(∃(n:Nat),0=(↑n:Int)∧n≤length (jnC (dim W) (dim H) (ofL W H ks))∧0=sumU (take n (jnC (dim W) (dim H)
 (ofL W H ks)))∧false=lseJ (take n (jnC (dim W) (dim H) (ofL W H ks))))∧∀(b:L9),(fun(zz2:Bool)=>(∃(n:Nat),b.i=(↑n:Int)∧n≤length (jnC (dim W) (dim H) (ofL W H ks))∧
 b.s=sumU (take n (jnC (dim W) (dim H) (ofL W H ks)))∧b.b=lseJ (take n (jnC (dim W) (dim H) (ofL W H ks))))→qx zz0 ((ltb b.i (↑zz0:Int)=true→leb 0 b.i=true∧ltb b.i (↑zz0:
 Int)=true∧qx zz0 (qx zz0 ((flJ (jnC (dim W) (dim H) (unC (flatC (ofL W H ks)))))[Int.toNat b.i*3]? =some (AV.int i64 (Option.getD (jnC (dim W) (dim H) (ofL W H ks))[Int.toNat b.i]?
 (0,0,0)).fst)∧(flJ (jnC (dim W) (dim H) (unC (flatC (ofL W H ks)))))[Int.toNat b.i*3+1]? =some (AV.int i64 (Option.getD (jnC (dim W) (dim H) (ofL W H ks))[Int.toNat b.i]? (0,0,
 0)).snd.fst)∧(flJ (jnC (dim W) (dim H) (unC (flatC (ofL W H ks)))))[Int.toNat b.i*3+1+1]? =some (AV.int i64 (Option.getD (jnC (dim W) (dim H) (ofL W H ks))[Int.toNat b.i]? (0,0,
 0)).snd.snd)∧leb 0 b.i=true∧ltb b.i (↑zz0:Int)=true∧qx zz0 (qx zz0 ((flJ (jnC (dim W) (dim H) (unC (flatC (ofL W H ks)))))[Int.toNat b.i*3]? =some (AV.int i64 (Option.getD
 (jnC (dim W) (dim H) (ofL W H ks))[Int.toNat b.i]? (0,0,0)).fst)∧(flJ (jnC (dim W) (dim H) (unC (flatC (ofL W H ks)))))[Int.toNat b.i*3+1]? =some (AV.int i64 (Option.getD (jnC (dim
 W) (dim H) (ofL W H ks))[Int.toNat b.i]? (0,0,0)).snd.fst)∧(flJ (jnC (dim W) (dim H) (unC (flatC (ofL W H ks)))))[Int.toNat b.i*3+1+1]? =some (AV.int i64 (Option.getD (jnC (dim W)
 (dim H) (ofL W H ks))[Int.toNat b.i]? (0,0,0)).snd.snd)∧(!((Option.getD (jnC (dim W) (dim H) (ofL W H ks))[Int.toNat b.i]? (0,0,0)).fst==(Option.getD (jnC (dim W) (dim H) (ofL W H
 ks))[Int.toNat b.i]? (0,0,0)).fst&&((Option.getD (jnC (dim W) (dim H) (ofL W H ks))[Int.toNat b.i]? (0,0,0)).snd.fst==(Option.getD (jnC (dim W) (dim H) (ofL W H ks))[Int.toNat b.i]?
 (0,0,0)).snd.fst&&(Option.getD (jnC (dim W) (dim H) (ofL W H ks))[Int.toNat b.i]? (0,0,0)).snd.snd==(Option.getD (jnC (dim W) (dim H) (ofL W H ks))[Int.toNat b.i]? (0,0,
 0)).snd.snd)))=false∧leb 0 b.i=true∧ltb b.i (↑zz0:Int)=true∧qx zz0 (qx zz0 (qx zz0 ((flJ (jnC (dim W) (dim H) (unC (flatC (ofL W H ks)))))[Int.toNat b.i*3+2]? =some
 (AV.int i64 (Option.getD (jnC (dim W) (dim H) (ofL W H ks))[Int.toNat b.i]? (0,0,0)).snd.snd)∧inR i64 (b.s+(Option.getD (jnC (dim W) (dim H) (ofL W H ks))[Int.toNat b.i]? (0,0,
 0)).snd.snd)=true∧(b.b=true→(!!b.b)=true∧(!!b.b)=true∧(!!b.b)=true∧(!!b.b)=true∧(!!b.b)=true∧(!!b.b)=true∧(!!b.b)=true∧(!!b.b)=true∧(!!b.b)=true∧
 (!!b.b)=true∧(!!b.b)=true∧b.b=true∧inR i64 (b.i+1)=true∧1=1∧W=W∧H=H∧qs u8 ks (qx zz1 (qx (flatC (ofL W H ks)) (1=1∧dim W=dim W∧dim H=dim H∧qx zz1
 (qx zz0 (qx zz0 (qx (flJ (jnC (dim W) (dim H) (unC (flatC (ofL W H ks))))) (qx zz0 (qx (flJ (jnC (dim W) (dim H) (unC (flatC (ofL W H ks))))) (0=0∧qx zz0 (qx (lseJ (jnC (dim W) (dim H)
 (unC (flatC (ofL W H ks))))) (qx zz0 (b.s+(Option.getD (jnC (dim W) (dim H) (ofL W H ks))[Int.toNat b.i]? (0,0,0)).snd.snd=b.s+(Option.getD (jnC (dim W) (dim H) (ofL W H
 ks))[Int.toNat b.i]? (0,0,0)).snd.snd∧true=true∧b.i+1=b.i+1∧(∃(n:Nat),b.i+1=(↑n:Int)∧n≤length (jnC (dim W) (dim H) (ofL W H ks))∧b.s+(Option.getD (jnC (dim
 W) (dim H) (ofL W H ks))[Int.toNat b.i]? (0,0,0)).snd.snd=sumU (take n (jnC (dim W) (dim H) (ofL W H ks)))∧true=lseJ (take n (jnC (dim W) (dim H) (ofL W H ks))))∧length (jnC (dim
 W) (dim H) (ofL W H ks))-Int.toNat (b.i+1)<length (jnC (dim W) (dim H) (ofL W H ks))-Int.toNat b.i∧True)))))))))))))∧(b.b=false→(!b.b)=true∧(!b.b)=true∧(!b.b)=true
 ∧leb 0 b.i=true∧ltb b.i (↑zz0:Int)=true∧qx zz0 ((!b.b)=true∧qx zz0 ((!b.b)=true∧qx zz0 ((flJ (jnC (dim W) (dim H) (unC (flatC (ofL W H ks)))))[Int.toNat b.i*3+0]? =
 some (AV.int i64 (Option.getD (jnC (dim W) (dim H) (ofL W H ks))[Int.toNat b.i]? (0,0,0)).fst)∧(!b.b)=true∧(!b.b)=true∧(!b.b)=true∧leb 0 b.i=true∧ltb b.i (↑zz0:Int)=
 true∧qx zz0 ((!b.b)=true∧qx zz0 ((!b.b)=true∧qx zz0 ((flJ (jnC (dim W) (dim H) (unC (flatC (ofL W H ks)))))[Int.toNat b.i*3+1]? =some (AV.int i64 (Option.getD (jnC (dim W)
 (dim H) (ofL W H ks))[Int.toNat b.i]? (0,0,0)).snd.fst)∧(!b.b)=true∧(!b.b)=true∧inR i64 (b.i+1)=true∧1=1∧W=W∧H=H∧qs u8 ks (qx zz1 (qx (flatC (ofL W H ks)) (1=
 1∧dim W=dim W∧dim H=dim H∧qx zz1 (qx zz0 (qx zz0 (qx (flJ (jnC (dim W) (dim H) (unC (flatC (ofL W H ks))))) (qx zz0 (qx (flJ (jnC (dim W) (dim H) (unC (flatC (ofL W H ks))))) (0=
 0∧qx zz0 (qx (lseJ (jnC (dim W) (dim H) (unC (flatC (ofL W H ks))))) (qx zz0 (b.s+(Option.getD (jnC (dim W) (dim H) (ofL W H ks))[Int.toNat b.i]? (0,0,0)).snd.snd=b.s+(Option.getD
 (jnC (dim W) (dim H) (ofL W H ks))[Int.toNat b.i]? (0,0,0)).snd.snd∧qx zz2 (b.i+1=b.i+1∧(∃(n:Nat),b.i+1=(↑n:Int)∧n≤length (jnC (dim W) (dim H) (ofL W H ks))∧b.s+
 (Option.getD (jnC (dim W) (dim H) (ofL W H ks))[Int.toNat b.i]? (0,0,0)).snd.snd=sumU (take n (jnC (dim W) (dim H) (ofL W H ks)))∧zz2=lseJ (take n (jnC (dim W) (dim H) (ofL W H
 ks))))∧length (jnC (dim W) (dim H) (ofL W H ks))-Int.toNat (b.i+1)<length (jnC (dim W) (dim H) (ofL W H ks))-Int.toNat b.i∧True))))))))))))))))))))))))))))∧(ltb b.i (↑zz0:
 Int)=false→qx zz1 ((b.s==(↑zz1:Int))=true∧(lseJ (jnC (dim W) (dim H) (unC (flatC (ofL W H ks))))==b.b)=true∧true=true∧True)))) ((Option.getD (jnC (dim W) (dim H) (ofL W
 H ks))[Int.toNat b.i]? (0,0,0)).fst==(Option.getD (jnC (dim W) (dim H) (ofL W H ks))[Int.toNat b.i]? (0,0,0)).snd.fst))))))))))))))))))))) (length (jnC (dim W) (dim H) (unC (flatC (ofL
 W H ks)))))) (length (ofL W H ks))):=by kernel_rfl

end Go.Proofs.YtfpcbimohikhmaaDoor.X
