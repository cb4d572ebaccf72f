/-
 What is to be shown of the functions (made by a program).
-/
import Derived.Test.YtfpcbimohikhmaaDoorQYD9Z
import Derived.KernelRfl
set_option maxRecDepth 1000000
set_option linter.unusedVariables false
namespace Go.Proofs.YtfpcbimohikhmaaDoor.X
open Go Go.Ab
open List IntKind

theorem ob_o13x (w h:Int)(l:List Cr):fnP (T13x) G 10000 fe13 (.r [] 0 (.jn (jQ (erP w h l)) [] [] (.rs 5 [] 1 29 (.r [] 3 (.lit (.r [] 0 .nil))) (.rs 5 [] 3 34 (.rs 5 [] 1 39 (.r [] 63 (.lit (.r [] 0 .nil))) (.r [] 127 (.cnd (.r [] 0 .nil) .nil))) (.r [] 15 (.lit .nil)))) (fun b=>(.r [] 1 (.r [] 13 (.r [] 13 (.r [] 13 (.r [] 13 (.r [] 13 (.r [] 13 (.r [] 13 (.r [yL 772,yL 773,yL 774,yL 775,yL 776,yL 777,yL 778,yL 779,yL 780,yL 781,yL 782,yL 783,yL 784,yL 785,yL 786,yL 787,yL 788,yL 789,yL 790,yL 791,yL 792,yL 793,yL 794,yL 795,yL 796,yL 797] 233798622 (.ff (.r [] 0 (.tt (.r [yL 975,yL 976,yL 977,yL 978,yL 979,yL 980,yL 981,yL 982,yL 983] 65535 .nil)))))))))))))))) ([patV w h l]) ([.bool true]) ([])=(
 (fun(zz0:Bool)=>((ltb 20 (↑(length l):Int)=true→true=true∧True)∧(ltb 20 (↑(length l):Int)=false→((bI (okS w h) 1 0==1)=true→(ltb 5 w=true→true=true∧True)
 ∧(ltb 5 w=false→(ltb 5 h=true→true=true∧True)∧(ltb 5 h=false→1=1∧w=w∧h=h∧Cont.vals (flatC l)=Cont.vals (flatC l)∧length l=length l∧0=0∧erP w h l∧
 True)))∧((bI (okS w h) 1 0==1)=false→1=1∧w=w∧h=h∧Cont.vals (flatC l)=Cont.vals (flatC l)∧length l=length l∧0=0∧erP w h l∧True)))∧∀(b:Unit),erP w h l→
 (okA (flatC l) (length l)∧edg (unC (flatC l))∧(okS w h=true→s5 w h))∧(okA (flatC l) (length l)∧edg (unC (flatC l))∧chkI w h (unC (flatC l))≠0)∧(okA (flatC l) (length l)∧
 edg (unC (flatC l))∧chkI w h (unC (flatC l))≠0)∧(okA (flatC l) (length l)∧edg (unC (flatC l))∧chkI w h (unC (flatC l))≠0)∧(okA (flatC l) (length l)∧edg (unC (flatC l))∧chkI
 w h (unC (flatC l))≠0)∧(okA (flatC l) (length l)∧edg (unC (flatC l))∧chkI w h (unC (flatC l))≠0)∧(okA (flatC l) (length l)∧edg (unC (flatC l))∧chkI w h (unC (flatC l))≠0)∧
 (okA (flatC l) (length l)∧edg (unC (flatC l))∧chkI w h (unC (flatC l))≠0)∧zz0=true∧zz0=true∧zz0=true∧zz0=true∧zz0=true∧zz0=true∧(chkI w h (unC (flatC l)) !=
 chkI w h (unC (flatC l)))=false∧(chkI w h (unC (flatC l)) !=0)=true∧true=true∧True) (!chkI w h (unC (flatC l)) !=chkI w h (unC (flatC l)))):=by kernel_rfl

theorem ob_o13v (w h:Int)(l:List Cr):fnP (T13v) G 10000 fe13 (.r [] 0 (.jn (jQ (erP w h l)) [] [] (.rs 5 [] 1 29 (.r [] 3 (.lit (.r [] 0 .nil))) (.rs 5 [] 3 34 (.rs 5 [] 1 39 (.r [] 63 (.lit (.r [] 0 .nil))) (.r [] 127 (.cnd (.r [] 0 .nil) .nil))) (.r [] 15 (.lit .nil)))) (fun b=>(.r [] 1 (.r [] 13 (.r [] 13 (.r [] 13 (.r [] 13 (.r [] 13 (.r [] 13 (.r [] 13 (.r [yL 772,yL 773,yL 774,yL 775,yL 776,yL 777,yL 778,yL 779,yL 780,yL 781,yL 782,yL 783,yL 784,yL 785,yL 786,yL 787,yL 788,yL 789,yL 790,yL 791,yL 792,yL 793,yL 794,yL 795,yL 796,yL 797] 268435455 (.lit (.r [] 0 (.lit (.r [] 1 (.r [] 1 (.r [(1155,.auto,Dr.heap)] 25 (.r [] 0 (.lp (l13 (units w h)) [] [] (fun b_1=>(.r [] 0 (.cnd (.r [] 0 (.r [] 0 .nil)) (.r [(1475,.auto,Dr.heap)] 25 (.r [yL 1539,yL 1540,yL 1541,yL 1542,yL 1543,yL 1544,yL 1545,yL 1546,yL 1547,yL 1548,yL 1549,yL 1550,yL 1551,yL 1552,yL 1553,yL 1554,yL 1555,yL 1556,yL 1557,yL 1558,yL 1559] 250593023 .nil))))))))))))))))))))))))) ([patV w h l]) ([.bool true]) ([])=(
 (fun(zz1:Nat)=>(fun(zz0:Nat)=>((ltb 20 (↑(length l):Int)=true→true=true∧True)∧(ltb 20 (↑(length l):Int)=false→((bI (okS w h) 1 0==1)=true→(ltb 5 w=true→
 true=true∧True)∧(ltb 5 w=false→(ltb 5 h=true→true=true∧True)∧(ltb 5 h=false→1=1∧w=w∧h=h∧Cont.vals (flatC l)=Cont.vals (flatC l)∧length l=length l∧
 0=0∧erP w h l∧True)))∧((bI (okS w h) 1 0==1)=false→1=1∧w=w∧h=h∧Cont.vals (flatC l)=Cont.vals (flatC l)∧length l=length l∧0=0∧erP w h l∧True)))∧∀(b
 :Unit),erP w h l→(s5 w h∧okV w h (flatC l) (length l))∧(s5 w h∧okV w h (flatC l) (length l))∧(s5 w h∧okV w h (flatC l) (length l))∧(s5 w h∧okV w h (flatC l) (length l))∧
 (s5 w h∧okV w h (flatC l) (length l)∧celL (facL w h (unC (flatC l))) 0≠[])∧(s5 w h∧okV w h (flatC l) (length l))∧(s5 w h∧okV w h (flatC l) (length l))∧(s5 w h∧okV w h
 (flatC l) (length l)∧celL (facL w h (unC (flatC l))) 0≠[])∧s5 w h∧leb (↑zz1:Int) (↑zz1:Int)=true∧leb ((↑zz1:Int)*1) 140737488355328=true∧([(1090,HO.blk (Blk.mk
 (Cont.ints u8 (replicate zz0 (0:Int))) 1 zz0 (some zz0) (some false) true false))]=[(1090,HO.blk (Blk.mk (Cont.ints u8 (replicate zz0 (0:Int))) 1 (length (replicate zz0 (0:Int)))
 (some (length (replicate zz0 (0:Int)))) (some false) true false))]∧Int.toNat (↑zz1:Int)=length (replicate zz0 (0:Int))∧s5 w h)∧(s5 w h∧okV w h (flatC (wthL (units w h)
 (replicate zz0 (0:Int)))) (length (wthL (units w h) (replicate zz0 (0:Int)))))∧1=1∧w=w∧h=h∧Cont.vals (flatC l)=Cont.vals (flatC l)∧length l=length l∧kF (facL w h
 (unC (flatC l)))=kF (facL w h (unC (flatC l)))∧kF (facL w h (unC (flatC l)))=kF (facL w h (unC (flatC l)))∧szL (facL w h (unC (flatC l))) (kF (facL w h (unC (flatC l))))=szL (facL
 w h (unC (flatC l))) (kF (facL w h (unC (flatC l))))∧length (jnC w h (unC (flatC l)))=length (jnC w h (unC (flatC l)))∧length (jnC w h (unC (flatC l)))=length (jnC w h (unC (flatC
 l)))∧flatMap (fun(x:Jt)=>[AV.int i64 x.fst,AV.int i64 x.snd.fst,AV.int i64 x.snd.snd]) (jnC w h (unC (flatC l)))=flatMap (fun(x:Jt)=>[AV.int i64 x.fst,AV.int i64 x.snd.fst,
 AV.int i64 x.snd.snd]) (jnC w h (unC (flatC l)))∧Int.toNat (↑zz1:Int)=length (units w h)∧Int.toNat (↑zz1:Int)=length (units w h)∧replicate zz0 (0:Int)=replicate zz0 (0:
 Int)∧0=0∧Int.toNat (↑zz1:Int)=Int.toNat (↑zz1:Int)∧maxL (facL w h (unC (flatC (wthL (units w h) (replicate zz0 (0:Int))))))+1=maxL (facL w h (unC (flatC (wthL (units w h)
 (replicate zz0 (0:Int))))))+1∧iI 0=0∧iI 0=0∧(∃(n:Nat),0=(↑n:Int)∧n≤length (units w h)∧replicate zz0 (0:Int)=onesK (units w h) n)∧∀(b_1:LI1),(∃(n:
 Nat),b_1.i=(↑n:Int)∧n≤length (units w h)∧b_1.m=onesK (units w h) n)→length (units w h)=Int.toNat (↑zz1:Int)∧(ltb b_1.i (↑zz0:Int)=true→leb 0 b_1.i=true∧ltb
 b_1.i (↑zz0:Int)=true∧length (units w h)=Int.toNat (↑zz1:Int)∧length (units w h)=Int.toNat (↑zz1:Int)∧len' (Int.toNat b_1.i+1) (Cont.size (Cont.ints u8 b_1.m))=true∧
 inR i64 (b_1.i+1)=true∧1=1∧w=w∧h=h∧Cont.vals (flatC l)=Cont.vals (flatC l)∧length l=length l∧kF (facL w h (unC (flatC l)))=kF (facL w h (unC (flatC l)))∧kF
 (facL w h (unC (flatC l)))=kF (facL w h (unC (flatC l)))∧szL (facL w h (unC (flatC l))) (kF (facL w h (unC (flatC l))))=szL (facL w h (unC (flatC l))) (kF (facL w h (unC (flatC l))))∧
 length (jnC w h (unC (flatC l)))=length (jnC w h (unC (flatC l)))∧length (jnC w h (unC (flatC l)))=length (jnC w h (unC (flatC l)))∧flatMap (fun(x:Jt)=>[AV.int i64 x.fst,AV.int
 i64 x.snd.fst,AV.int i64 x.snd.snd]) (jnC w h (unC (flatC l)))=flatMap (fun(x:Jt)=>[AV.int i64 x.fst,AV.int i64 x.snd.fst,AV.int i64 x.snd.snd]) (jnC w h (unC (flatC l)))∧length
 (units w h)=length (units w h)∧length (units w h)=length (units w h)∧set b_1.m (Int.toNat b_1.i) 1=set b_1.m (Int.toNat b_1.i) 1∧0=0∧Int.toNat (↑zz1:Int)=Int.toNat (↑zz1
 :Int)∧maxL (facL w h (unC (flatC (wthL (units w h) (replicate zz0 (0:Int))))))+1=maxL (facL w h (unC (flatC (wthL (units w h) (replicate zz0 (0:Int))))))+1∧iI 0=0∧b_1.i+
 1=b_1.i+1∧(∃(n:Nat),b_1.i+1=(↑n:Int)∧n≤length (units w h)∧set b_1.m (Int.toNat b_1.i) 1=onesK (units w h) n)∧length (units w h)-Int.toNat (b_1.i+1)<length
 (units w h)-Int.toNat b_1.i∧True)∧(ltb b_1.i (↑zz0:Int)=false→([(1090,HO.blk (Blk.mk (Cont.ints u8 b_1.m) 1 zz1 (some zz1) (some false) true false))]=[(1090,HO.blk (Blk.mk
 (Cont.ints u8 b_1.m) 1 (length b_1.m) (some (length b_1.m)) (some false) true false))]∧Int.toNat (↑zz1:Int)=length b_1.m∧s5 w h)∧(s5 w h∧okV w h (flatC (wthL (units w h) b_1.m))
 (length (wthL (units w h) b_1.m)))∧(maxL (facL w h (unC (flatC (wthL (units w h) (replicate zz0 (0:Int))))))+1==1)=true∧inR i64 (4*w)=true∧inR i64 (4*w*h)=true∧
 (maxL (facL w h (unC (flatC (wthL (units w h) b_1.m))))+1==4*w*h)=true∧true=true∧True)) (Int.toNat (↑zz1:Int))) (length (units w h))):=by kernel_rfl

theorem ob_d_23 (w h:Int)(ks:List Int):fnD (CW) G 10000 (fe23) (.r [] 0 (.r [] 1 (.r [] 3 (.r [] 0 (.ghc 194 2 9001 3 (Cont.vals []) (.lp (l23 w h (units w h) ks) [] [] (fun b=>(.rs 5 [] 0 16 (.r [] 6 (.cnd (.r [] 0 (.cnd (.r [yL 512,(518,.auto,Dr.val [AV.int i64 (uC (units w h) b.i)]),(523,.auto,Dr.val [AV.int u8 (uE (units w h) b.i)])] 196609 (.r [] 0 .nil)) (.r [] 0 .nil))) (.r [] 3 (.frz 4 0 .nil)))) (.r [] 3 (.lit (.r [] 3 (.frz 4 0 .nil)))))))))))) ([.agg [.int .i64 w,.int .i64 h],.full 1090 ks.length]) ([(1090,rowK ks ks.length)]) ([patW w h (wthL (units w h) ks)]) ([])=(
 (fun(zz0:Nat)=>s5 w h∧qx (length ks) (qx (length ks) (ks=ks∧1=1∧w=w∧h=h∧1=1∧iI 0=0∧iI 0=0∧1=1∧w=w∧h=h∧0=0∧0=0∧([]:List AV)=[]∧qx
 (length ks) (0=0∧qx (Cont.vals (flatU (units w h))) (qx zz0 (0=0∧iI 0=0∧(∃(k:Nat),0=(↑k:Int)∧k≤length (units w h)∧k≤length ks∧[]=flatC (wthL (take k (units w
 h)) (take k ks))∧0=length (wthL (take k (units w h)) (take k ks)))∧∀(b:L23),(∃(k:Nat),b.i=(↑k:Int)∧k≤length (units w h)∧k≤length ks∧b.l=flatC (wthL (take k
 (units w h)) (take k ks))∧b.n=length (wthL (take k (units w h)) (take k ks)))→(ltb b.i (↑zz0:Int)=true→qx (length ks) ((ltb b.i (↑(length ks):Int)=true→leb 0 b.i=true∧
 ltb b.i (↑(length ks):Int)=true∧qx (length ks) (qx (length ks) (ltn (Int.toNat b.i) (Cont.size (Cont.ints u8 ks))=true∧((getD ks (Int.toNat b.i) 0 !=0)=true→leb 0 b.i=true∧
 ltb b.i (↑zz0:Int)=true∧ltn 0 (Cont.size (Cont.vals (flatU (units w h))))=true∧(drop 0 (drop (Int.toNat b.i*2) (flatU (units w h))))[0]? =some (AV.int i64 (uC (units w h) b.i))
 ∧leb 0 b.i=true∧ltb b.i (↑zz0:Int)=true∧ltn 0 (Cont.size (Cont.vals (flatU (units w h))))=true∧(drop 1 (drop (Int.toNat b.i*2) (flatU (units w h))))[0]? =some (AV.int u8
 (uE (units w h) b.i))∧leb 0 b.i=true∧ltb b.i (↑(length ks):Int)=true∧qx (length ks) (qx (length ks) (ltn (Int.toNat b.i) (Cont.size (Cont.ints u8 ks))=true∧b.n=b.n∧len'
 ((b.n+1)*16) 140737488355328=true∧inR i64 (b.i+1)=true∧qx (length ks) (qx (length ks) (ks=ks∧1=1∧w=w∧h=h∧1=1∧iI 0=0∧iI 0=0∧1=1∧w=w∧h=h∧
 b.n+1=b.n+1∧b.n+1=b.n+1∧b.l++[AV.int i64 (uC (units w h) b.i),AV.int u8 (uE (units w h) b.i),AV.int u8 (getD ks (Int.toNat b.i) 0)]=b.l++[AV.int i64 (uC (units w h)
 b.i),AV.int u8 (uE (units w h) b.i),AV.int u8 (getD ks (Int.toNat b.i) 0)]∧qx (length ks) (0=0∧qx (Cont.vals (flatU (units w h))) (qx zz0 (0=0∧b.i+1=b.i+1∧(∃(k:Nat),
 b.i+1=(↑k:Int)∧k≤length (units w h)∧k≤length ks∧b.l++[AV.int i64 (uC (units w h) b.i),AV.int u8 (uE (units w h) b.i),AV.int u8 (getD ks (Int.toNat b.i) 0)]=flatC (wthL
 (take k (units w h)) (take k ks))∧b.n+1=length (wthL (take k (units w h)) (take k ks)))∧length (units w h)-Int.toNat (b.i+1)<length (units w h)-Int.toNat b.i∧True))))))))∧
 ((getD ks (Int.toNat b.i) 0 !=0)=false→inR i64 (b.i+1)=true∧qx (length ks) (qx (length ks) (ks=ks∧1=1∧w=w∧h=h∧1=1∧iI 0=0∧iI 0=0∧1=1∧w=w∧h=h∧
 b.n=b.n∧b.n=b.n∧b.l=b.l∧qx (length ks) (0=0∧qx (Cont.vals (flatU (units w h))) (qx zz0 (0=0∧b.i+1=b.i+1∧(∃(k:Nat),b.i+1=(↑k:Int)∧k≤length (units w
 h)∧k≤length ks∧b.l=flatC (wthL (take k (units w h)) (take k ks))∧b.n=length (wthL (take k (units w h)) (take k ks)))∧length (units w h)-Int.toNat (b.i+1)<length (units w
 h)-Int.toNat b.i∧True)))))))))∧(ltb b.i (↑(length ks):Int)=false→b.n=b.n∧qx (length ks) (qx (length ks) (ks=ks∧w=w∧h=h∧Cont.vals b.l=Cont.vals (flatC (wthL
 (units w h) ks))∧b.n=length (wthL (units w h) ks)∧True)))))∧(ltb b.i (↑zz0:Int)=false→b.n=b.n∧qx (length ks) (qx (length ks) (ks=ks∧w=w∧h=h∧Cont.vals b.l=
 Cont.vals (flatC (wthL (units w h) ks))∧b.n=length (wthL (units w h) ks)∧True))))))))) (length (units w h))):=by kernel_rfl

end Go.Proofs.YtfpcbimohikhmaaDoor.X
