/-
 What is to be shown of the functions (made by a program).
-/
import Derived.Test.YtfpcbimohikhmaaDoorQPJZ
import Derived.KernelRfl
set_option maxRecDepth 1000000
set_option linter.unusedVariables false
namespace Go.Proofs.YtfpcbimohikhmaaDoor.X
open Go Go.Ab
open List IntKind

theorem ob_o37 (w h:Int)(l:List Cr):fnP (YGr w h (facL w h l) l) G 10000 fe37 (.r [] 0 (.r [] 13 (.r [] 0 (.lit (.r [] 0 (.r [] 1 (.lp (l37 w h (facL w h l) l) [] [] (fun b=>(.r [] 0 (.cnd (.r [(513,.auto,Dr.val [AV.int i64 (cC l b.i),AV.int u8 (cE l b.i),AV.int u8 (cK l b.i)])] 64 (.r [] 55 (.r [] 524801 (.r [] 0 .nil)))) (.r [] 3 (.r [] 0 (.lp (m37 (grF w h (facL w h l) l).fst (grF w h (facL w h l) l).snd) [] [] (fun b_1=>(.mn 0 [] 0 (.r [] 1 (.lit (.r [(1089,.auto,Dr.heap)] 0 (.r [] 0 .nil)))) (fun e=>(.r [] 1 (.lit (.r [(960,.auto,Dr.val [AV.tup [AV.agg [AV.int i64 (getD e.fst 0 0),AV.int i64 (getD e.fst 1 0)],AV.int i64 (getD e.snd.fst 0 0)]])] 28 (.r [(1032,.auto,Dr.pk true)] 575 .nil)))))))))))))))))))) ([patV w h l]) ([.full 0 (jnC w h l).length,.int .i64 0]) ([blkJn (jnC w h l)])=(
 (fun(zz4:Nat)=>(s5 w h∧okV w h (flatC l) (length l))∧1=1∧w=w∧h=h∧qx (Cont.vals (flatC l)) (length l=length l∧0=0∧([]:List Ent3)=[]∧0=0∧0=0∧qx
 (Cont.ints i64 (facL w h (unC (flatC l)))) (nC w h=nC w h∧nC w h=nC w h∧qx (Cont.vals (flatC l)) (length l=length l∧ql l (iI 0=0∧(∃(n:Nat),0=(↑n:Int)∧n≤length l∧
 []=(grF w h (facL w h l) (take n l)).fst∧0=(grF w h (facL w h l) (take n l)).snd)∧∀(b:L83),(fun(zz1:Nat)=>(fun(zz0:Nat)=>(∃(n:Nat),b.i=(↑n:Int)∧n≤length l∧
 b.es=(grF w h (facL w h l) (take n l)).fst∧b.ck=(grF w h (facL w h l) (take n l)).snd)→(ltb b.i (↑(length l):Int)=true→leb 0 b.i=true∧ltb b.i (↑(length l):Int)=true∧
 ltn 0 (Cont.size (Cont.vals (flatC l)))=true∧(drop (Int.toNat b.i*3) (flatC l))[0]? =some (AV.int i64 (cC l b.i))∧(drop (Int.toNat b.i*3) (flatC l))[1]? =some (AV.int u8 (cE l
 b.i))∧(drop (Int.toNat b.i*3) (flatC l))[2]? =some (AV.int u8 (cK l b.i))∧(okN w h (cC l b.i) (cE l b.i)=true∧0≤cE l b.i)∧leb 0 (cC l b.i)=true∧ltb (cC l b.i) (↑(nC w h):
 Int)=true∧ltn 0 (Cont.size (Cont.ints i64 (facL w h (unC (flatC l)))))=true∧ltn 0 (Cont.size (Cont.ints i64 (drop zz1 (facL w h (unC (flatC l))))))=true∧leb 0 (nbI w h (cC l b.i)
 (cE l b.i))=true∧ltb (nbI w h (cC l b.i) (cE l b.i)) (↑(nC w h):Int)=true∧ltn 0 (Cont.size (Cont.ints i64 (facL w h (unC (flatC l)))))=true∧ltn 0 (Cont.size (Cont.ints i64
 (drop zz0 (facL w h (unC (flatC l))))))=true∧leb 0 (cC l b.i)=true∧ltb (cC l b.i) (↑(nC w h):Int)=true∧ltn 0 (Cont.size (Cont.ints i64 (facL w h (unC (flatC l)))))=true∧ltn
 0 (Cont.size (Cont.ints i64 (drop zz1 (facL w h (unC (flatC l))))))=true∧leb 0 (nbI w h (cC l b.i) (cE l b.i))=true∧ltb (nbI w h (cC l b.i) (cE l b.i)) (↑(nC w h):Int)=true∧ltn
 0 (Cont.size (Cont.ints i64 (facL w h (unC (flatC l)))))=true∧ltn 0 (Cont.size (Cont.ints i64 (drop zz0 (facL w h (unC (flatC l))))))=true∧inR i64 (getD (Option.getD (mget b.es [if
 getD (drop zz0 (facL w h (unC (flatC l)))) 0 0<getD (drop zz1 (facL w h (unC (flatC l)))) 0 0 then getD (drop zz0 (facL w h (unC (flatC l)))) 0 0 else getD (drop zz1 (facL w h (unC (flatC
 l)))) 0 0,if getD (drop zz0 (facL w h (unC (flatC l)))) 0 0>getD (drop zz1 (facL w h (unC (flatC l)))) 0 0 then getD (drop zz0 (facL w h (unC (flatC l)))) 0 0 else getD (drop zz1 (facL w
 h (unC (flatC l)))) 0 0]) []) 0 0+1)=true∧mst? (mput b.es [if getD (drop zz0 (facL w h (unC (flatC l)))) 0 0<getD (drop zz1 (facL w h (unC (flatC l)))) 0 0 then getD (drop zz0 (facL
 w h (unC (flatC l)))) 0 0 else getD (drop zz1 (facL w h (unC (flatC l)))) 0 0,if getD (drop zz0 (facL w h (unC (flatC l)))) 0 0>getD (drop zz1 (facL w h (unC (flatC l)))) 0 0 then getD
 (drop zz0 (facL w h (unC (flatC l)))) 0 0 else getD (drop zz1 (facL w h (unC (flatC l)))) 0 0] (Option.getD (mget b.es [if getD (drop zz0 (facL w h (unC (flatC l)))) 0 0<getD (drop zz1
 (facL w h (unC (flatC l)))) 0 0 then getD (drop zz0 (facL w h (unC (flatC l)))) 0 0 else getD (drop zz1 (facL w h (unC (flatC l)))) 0 0,if getD (drop zz0 (facL w h (unC (flatC l)))) 0 0>
 getD (drop zz1 (facL w h (unC (flatC l)))) 0 0 then getD (drop zz0 (facL w h (unC (flatC l)))) 0 0 else getD (drop zz1 (facL w h (unC (flatC l)))) 0 0]) []) b.ck) (↑(mborn b.es [if getD
 (drop zz0 (facL w h (unC (flatC l)))) 0 0<getD (drop zz1 (facL w h (unC (flatC l)))) 0 0 then getD (drop zz0 (facL w h (unC (flatC l)))) 0 0 else getD (drop zz1 (facL w h (unC (flatC l))))
 0 0,if getD (drop zz0 (facL w h (unC (flatC l)))) 0 0>getD (drop zz1 (facL w h (unC (flatC l)))) 0 0 then getD (drop zz0 (facL w h (unC (flatC l)))) 0 0 else getD (drop zz1 (facL w h (unC
 (flatC l)))) 0 0] b.ck):Int)=true∧inR i64 (b.i+1)=true∧1=1∧w=w∧h=h∧qx (Cont.vals (flatC l)) (length l=length l∧0=0∧mset (mput b.es [if getD (drop zz0 (facL w
 h (unC (flatC l)))) 0 0<getD (drop zz1 (facL w h (unC (flatC l)))) 0 0 then getD (drop zz0 (facL w h (unC (flatC l)))) 0 0 else getD (drop zz1 (facL w h (unC (flatC l)))) 0 0,if getD
 (drop zz0 (facL w h (unC (flatC l)))) 0 0>getD (drop zz1 (facL w h (unC (flatC l)))) 0 0 then getD (drop zz0 (facL w h (unC (flatC l)))) 0 0 else getD (drop zz1 (facL w h (unC (flatC l))))
 0 0] (Option.getD (mget b.es [if getD (drop zz0 (facL w h (unC (flatC l)))) 0 0<getD (drop zz1 (facL w h (unC (flatC l)))) 0 0 then getD (drop zz0 (facL w h (unC (flatC l)))) 0 0 else getD
 (drop zz1 (facL w h (unC (flatC l)))) 0 0,if getD (drop zz0 (facL w h (unC (flatC l)))) 0 0>getD (drop zz1 (facL w h (unC (flatC l)))) 0 0 then getD (drop zz0 (facL w h (unC (flatC l))))
 0 0 else getD (drop zz1 (facL w h (unC (flatC l)))) 0 0]) []) b.ck) (↑(mborn b.es [if getD (drop zz0 (facL w h (unC (flatC l)))) 0 0<getD (drop zz1 (facL w h (unC (flatC l)))) 0 0 then
 getD (drop zz0 (facL w h (unC (flatC l)))) 0 0 else getD (drop zz1 (facL w h (unC (flatC l)))) 0 0,if getD (drop zz0 (facL w h (unC (flatC l)))) 0 0>getD (drop zz1 (facL w h (unC (flatC
 l)))) 0 0 then getD (drop zz0 (facL w h (unC (flatC l)))) 0 0 else getD (drop zz1 (facL w h (unC (flatC l)))) 0 0] b.ck):Int) [getD (Option.getD (mget b.es [if getD (drop zz0 (facL w h
 (unC (flatC l)))) 0 0<getD (drop zz1 (facL w h (unC (flatC l)))) 0 0 then getD (drop zz0 (facL w h (unC (flatC l)))) 0 0 else getD (drop zz1 (facL w h (unC (flatC l)))) 0 0,if getD (drop
 zz0 (facL w h (unC (flatC l)))) 0 0>getD (drop zz1 (facL w h (unC (flatC l)))) 0 0 then getD (drop zz0 (facL w h (unC (flatC l)))) 0 0 else getD (drop zz1 (facL w h (unC (flatC l)))) 0 0])
 []) 0 0+1]=mset (mput b.es [if getD (drop zz0 (facL w h (unC (flatC l)))) 0 0<getD (drop zz1 (facL w h (unC (flatC l)))) 0 0 then getD (drop zz0 (facL w h (unC (flatC l)))) 0 0 else
 getD (drop zz1 (facL w h (unC (flatC l)))) 0 0,if getD (drop zz0 (facL w h (unC (flatC l)))) 0 0>getD (drop zz1 (facL w h (unC (flatC l)))) 0 0 then getD (drop zz0 (facL w h (unC (flatC
 l)))) 0 0 else getD (drop zz1 (facL w h (unC (flatC l)))) 0 0] (Option.getD (mget b.es [if getD (drop zz0 (facL w h (unC (flatC l)))) 0 0<getD (drop zz1 (facL w h (unC (flatC l)))) 0 0
 then getD (drop zz0 (facL w h (unC (flatC l)))) 0 0 else getD (drop zz1 (facL w h (unC (flatC l)))) 0 0,if getD (drop zz0 (facL w h (unC (flatC l)))) 0 0>getD (drop zz1 (facL w h (unC
 (flatC l)))) 0 0 then getD (drop zz0 (facL w h (unC (flatC l)))) 0 0 else getD (drop zz1 (facL w h (unC (flatC l)))) 0 0]) []) b.ck) (↑(mborn b.es [if getD (drop zz0 (facL w h (unC (flatC
 l)))) 0 0<getD (drop zz1 (facL w h (unC (flatC l)))) 0 0 then getD (drop zz0 (facL w h (unC (flatC l)))) 0 0 else getD (drop zz1 (facL w h (unC (flatC l)))) 0 0,if getD (drop zz0 (facL w
 h (unC (flatC l)))) 0 0>getD (drop zz1 (facL w h (unC (flatC l)))) 0 0 then getD (drop zz0 (facL w h (unC (flatC l)))) 0 0 else getD (drop zz1 (facL w h (unC (flatC l)))) 0 0] b.ck):Int)
 [getD (Option.getD (mget b.es [if getD (drop zz0 (facL w h (unC (flatC l)))) 0 0<getD (drop zz1 (facL w h (unC (flatC l)))) 0 0 then getD (drop zz0 (facL w h (unC (flatC l)))) 0 0 else
 getD (drop zz1 (facL w h (unC (flatC l)))) 0 0,if getD (drop zz0 (facL w h (unC (flatC l)))) 0 0>getD (drop zz1 (facL w h (unC (flatC l)))) 0 0 then getD (drop zz0 (facL w h (unC (flatC
 l)))) 0 0 else getD (drop zz1 (facL w h (unC (flatC l)))) 0 0]) []) 0 0+1]∧mck b.es [if getD (drop zz0 (facL w h (unC (flatC l)))) 0 0<getD (drop zz1 (facL w h (unC (flatC l)))) 0 0
 then getD (drop zz0 (facL w h (unC (flatC l)))) 0 0 else getD (drop zz1 (facL w h (unC (flatC l)))) 0 0,if getD (drop zz0 (facL w h (unC (flatC l)))) 0 0>getD (drop zz1 (facL w h (unC
 (flatC l)))) 0 0 then getD (drop zz0 (facL w h (unC (flatC l)))) 0 0 else getD (drop zz1 (facL w h (unC (flatC l)))) 0 0] b.ck=mck b.es [if getD (drop zz0 (facL w h (unC (flatC l)))) 0 0<
 getD (drop zz1 (facL w h (unC (flatC l)))) 0 0 then getD (drop zz0 (facL w h (unC (flatC l)))) 0 0 else getD (drop zz1 (facL w h (unC (flatC l)))) 0 0,if getD (drop zz0 (facL w h (unC
 (flatC l)))) 0 0>getD (drop zz1 (facL w h (unC (flatC l)))) 0 0 then getD (drop zz0 (facL w h (unC (flatC l)))) 0 0 else getD (drop zz1 (facL w h (unC (flatC l)))) 0 0] b.ck∧0=0∧qx
 (Cont.ints i64 (facL w h (unC (flatC l)))) (nC w h=nC w h∧nC w h=nC w h∧qx (Cont.vals (flatC l)) (length l=length l∧ql l (b.i+1=b.i+1∧(∃(n:Nat),b.i+1=(↑n:Int)∧
 n≤length l∧mset (mput b.es [if getD (drop zz0 (facL w h (unC (flatC l)))) 0 0<getD (drop zz1 (facL w h (unC (flatC l)))) 0 0 then getD (drop zz0 (facL w h (unC (flatC l)))) 0 0 else
 getD (drop zz1 (facL w h (unC (flatC l)))) 0 0,if getD (drop zz0 (facL w h (unC (flatC l)))) 0 0>getD (drop zz1 (facL w h (unC (flatC l)))) 0 0 then getD (drop zz0 (facL w h (unC (flatC
 l)))) 0 0 else getD (drop zz1 (facL w h (unC (flatC l)))) 0 0] (Option.getD (mget b.es [if getD (drop zz0 (facL w h (unC (flatC l)))) 0 0<getD (drop zz1 (facL w h (unC (flatC l)))) 0 0
 then getD (drop zz0 (facL w h (unC (flatC l)))) 0 0 else getD (drop zz1 (facL w h (unC (flatC l)))) 0 0,if getD (drop zz0 (facL w h (unC (flatC l)))) 0 0>getD (drop zz1 (facL w h (unC
 (flatC l)))) 0 0 then getD (drop zz0 (facL w h (unC (flatC l)))) 0 0 else getD (drop zz1 (facL w h (unC (flatC l)))) 0 0]) []) b.ck) (↑(mborn b.es [if getD (drop zz0 (facL w h (unC (flatC
 l)))) 0 0<getD (drop zz1 (facL w h (unC (flatC l)))) 0 0 then getD (drop zz0 (facL w h (unC (flatC l)))) 0 0 else getD (drop zz1 (facL w h (unC (flatC l)))) 0 0,if getD (drop zz0 (facL w
 h (unC (flatC l)))) 0 0>getD (drop zz1 (facL w h (unC (flatC l)))) 0 0 then getD (drop zz0 (facL w h (unC (flatC l)))) 0 0 else getD (drop zz1 (facL w h (unC (flatC l)))) 0 0] b.ck):Int)
 [getD (Option.getD (mget b.es [if getD (drop zz0 (facL w h (unC (flatC l)))) 0 0<getD (drop zz1 (facL w h (unC (flatC l)))) 0 0 then getD (drop zz0 (facL w h (unC (flatC l)))) 0 0 else
 getD (drop zz1 (facL w h (unC (flatC l)))) 0 0,if getD (drop zz0 (facL w h (unC (flatC l)))) 0 0>getD (drop zz1 (facL w h (unC (flatC l)))) 0 0 then getD (drop zz0 (facL w h (unC (flatC
 l)))) 0 0 else getD (drop zz1 (facL w h (unC (flatC l)))) 0 0]) []) 0 0+1]=(grF w h (facL w h l) (take n l)).fst∧mck b.es [if getD (drop zz0 (facL w h (unC (flatC l)))) 0 0<getD
 (drop zz1 (facL w h (unC (flatC l)))) 0 0 then getD (drop zz0 (facL w h (unC (flatC l)))) 0 0 else getD (drop zz1 (facL w h (unC (flatC l)))) 0 0,if getD (drop zz0 (facL w h (unC (flatC
 l)))) 0 0>getD (drop zz1 (facL w h (unC (flatC l)))) 0 0 then getD (drop zz0 (facL w h (unC (flatC l)))) 0 0 else getD (drop zz1 (facL w h (unC (flatC l)))) 0 0] b.ck=(grF w h (facL w h
 l) (take n l)).snd)∧length l-Int.toNat (b.i+1)<length l-Int.toNat b.i∧True)))))∧(ltb b.i (↑(length l):Int)=false→leb ((↑(length b.es):Int)*24) 140737488355328=true
 ∧1=1∧w=w∧h=h∧qx (Cont.vals (flatC l)) (length l=length l∧0=0∧b.es=b.es∧b.ck=b.ck∧0=0∧Int.toNat (↑(length b.es):Int)=length (grF w h (facL w h l) l).fst∧
 ([]:List AV)=[]∧(grF w h (facL w h l) l).snd=b.ck∧([]:List Nat)=[]∧qx (ltb b.i (↑(length l):Int)) (0=0∧0=0∧(∃(L:List Jt),[]=flJ L∧0=length L∧List.Perm
 (L++map entJ (leftE (grF w h (facL w h l) l).fst [])) (map entJ (grF w h (facL w h l) l).fst))∧∀(b_1:LM37),(∃(L:List Jt),b_1.l=flJ L∧b_1.n=length L∧List.Perm (L++map
 entJ (leftE (grF w h (facL w h l) l).fst b_1.seen)) (map entJ (grF w h (facL w h l) l).fst))→(b.ck=(grF w h (facL w h l) l).snd∧bornP b.es (grF w h (facL w h l) l).snd)∧(leftE b.es
 b_1.seen=[]→([(770,HO.blk (Blk.mk (Cont.vals b_1.l) 3 b_1.n (some zz4) (some false) true false))]=[(770,HO.blk (Blk.mk (Cont.vals b_1.l) 3 b_1.n (some zz4) (some false) true false))]
 ∧∃(L:List Jt),b_1.l=flJ L∧b_1.n=length L∧List.Perm L (map entJ (grF w h (facL w h l) l).fst))∧b_1.n=length (jnC w h l)∧length (grF w h (facL w h l) l).fst=length (jnC w
 h l)∧flJ (jnL w h (facL w h l) l)=flJ (jnC w h l)∧b_1.n=length (jnC w h l)∧iI 0=0∧True)∧∀(e:Ent3),(fun(zz5:Int)=>(fun(zz3:Int)=>(fun(zz2:Int)=>e∈leftE
 b.es b_1.seen→b.ck=(grF w h (facL w h l) l).snd∧(entL (MV.mk true [some i64,some i64]) (MV.mk false [some i64]) b.es (b_1.seen++[e.snd.snd]))[0]? =some (AV.tup [AV.agg [AV.int i64
 (getD e.fst 0 0),AV.int i64 (getD e.fst 1 0)],AV.int i64 zz5])∧b_1.n=b_1.n∧len' ((b_1.n+1)*24) 140737488355328=true∧len' (b_1.n+1) zz4=true∧1=1∧w=w∧h=h∧qx
 (Cont.vals (flatC l)) (length l=length l∧0=0∧b.es=b.es∧b.ck=b.ck∧qx (b_1.n+1) (length (grF w h (facL w h l) l).fst=length (grF w h (facL w h l) l).fst∧b_1.l++[AV.int
 i64 zz2,AV.int i64 zz3,AV.int i64 zz5]=b_1.l++[AV.int i64 zz2,AV.int i64 zz3,AV.int i64 zz5]∧(grF w h (facL w h l) l).snd=(grF w h (facL w h l) l).snd∧b_1.seen++[e.snd.snd]=
 b_1.seen++[e.snd.snd]∧qx (ltb b.i (↑(length l):Int)) (qx (b_1.n+1) (0=0∧(∃(L:List Jt),b_1.l++[AV.int i64 zz2,AV.int i64 zz3,AV.int i64 zz5]=flJ L∧b_1.n+1=length L
 ∧List.Perm (L++map entJ (leftE (grF w h (facL w h l) l).fst (b_1.seen++[e.snd.snd]))) (map entJ (grF w h (facL w h l) l).fst))∧length (leftE (grF w h (facL w h l) l).fst (b_1.seen++
 [e.snd.snd]))<length (leftE (grF w h (facL w h l) l).fst b_1.seen)∧True))))) (getD [getD e.fst 0 0,getD e.fst 1 0] 0 0)) (getD [getD e.fst 0 0,getD e.fst 1 0] 1 0)) (getD e.snd.fst 0
 0))))) (Int.toNat (nbI w h (cC l b.i) (cE l b.i)))) (Int.toNat (cC l b.i))))))) (length (grF w h (facL w h l) l).fst)):=by kernel_rfl

theorem ob_o37x (w h:Int)(l:List Cr):fnP (YW) G 10000 fe37 (.r [] 0 (.r [] 13 (.r [] 0 (.tt (.r [] 0 .nil))))) ([patV w h l]) ([.nils,.int .i64 (chkI w h l)]) ([])=(
 (okA (flatC l) (length l)∧edg (unC (flatC l))∧chkI w h (unC (flatC l))≠0)∧(chkI w h (unC (flatC l)) !=0)=true∧chkI w h (unC (flatC l))=chkI w h l∧True):=by kernel_rfl

theorem ob_o74 (a b u:Int):fnP (T0) G 10000 fe74 (.r [] 0 (.r [] 3 .nil)) ([.agg [.int .i64 a,.int .i64 b,.int .i64 u]]) ([.bool (a==b)]) ([])=(
 (a==b)=(a==b)∧True):=by kernel_rfl

theorem ob_o98 (L:List Jt):fnP (Y74) G 10000 fe98 (.r [] 0 (.r [] 0 (.lp (l98 L) [] [] (fun b=>(.r [] 0 (.cnd (.r [] 0 (.r [(324,.auto,Dr.val (jV L b.i))] 64 (.cnd (.r [] 0 .nil) (.r [] 0 .nil)))) (.r [] 0 .nil))))))) ([.imm (.vals (flJ L)) L.length none,.fn 74 [] []]) ([.int .i64 (ixJ L 0)]) ([])=(
 qx (Cont.vals (flJ L)) (length L=length L∧ql L (iI 0=0∧(∃(n:Nat),0=(↑n:Int)∧n≤length L∧ixJ L 0=ixJ (drop n L) n)∧∀(b:L1),(fun(zz0:Bool)=>(∃(n:Nat),b.i
 =(↑n:Int)∧n≤length L∧ixJ L 0=ixJ (drop n L) n)→(ltb b.i (↑(length L):Int)=true→leb 0 b.i=true∧ltb b.i (↑(length L):Int)=true∧ltn 0 (Cont.size (Cont.vals (flJ
 L)))=true∧(drop (Int.toNat b.i*3) (flJ L))[0]? =some (AV.int i64 (Option.getD L[Int.toNat b.i]? (0,0,0)).fst)∧(drop (Int.toNat b.i*3) (flJ L))[1]? =some (AV.int i64
 (Option.getD L[Int.toNat b.i]? (0,0,0)).snd.fst)∧(drop (Int.toNat b.i*3) (flJ L))[2]? =some (AV.int i64 (Option.getD L[Int.toNat b.i]? (0,0,0)).snd.snd)∧(zz0=true→b.i=ixJ L
 0∧True)∧(zz0=false→inR i64 (b.i+1)=true∧qx (Cont.vals (flJ L)) (length L=length L∧ql L (b.i+1=b.i+1∧(∃(n:Nat),b.i+1=(↑n:Int)∧n≤length L∧ixJ L 0=
 ixJ (drop n L) n)∧length L-Int.toNat (b.i+1)<length L-Int.toNat b.i∧True))))∧(ltb b.i (↑(length L):Int)=false→ -1=ixJ L 0∧True)) ((Option.getD L[Int.toNat b.i]? (0,0,
 0)).fst==(Option.getD L[Int.toNat b.i]? (0,0,0)).snd.fst)))):=by kernel_rfl

theorem ob_o98n:fnP (T0) G 10000 fe98 (.r [] 0 (.r [] 0 (.un (.r [] 0 (.lit (.r [] 0 .nil)))))) ([.nils,.fn 74 [] []]) ([.int .i64 (-1)]) ([])=(
 iI (-1)= -1∧True):=by kernel_rfl

theorem ob_o73 (L:List Jt):fnP (Y98) G 10000 fe73 (.r [] 0 (.r [] 0 .nil)) ([.imm (.vals (flJ L)) L.length none,.fn 74 [] []]) ([.bool (lseJ L)]) ([])=(
 okJ (flJ L) (length L)∧leb 0 (ixJ (unJ (flJ L)) 0)=lseJ L∧True):=by kernel_rfl

theorem ob_o73n:fnP (Y98n) G 10000 fe73 (.r [] 0 (.r [] 1 .nil)) ([.nils,.fn 74 [] []]) ([.bool false]) ([])=(
 false=false∧True):=by kernel_rfl

theorem ob_o38 (w h:Int)(l:List Cr):fnP (YLo) G 10000 fe38 (.r [] 0 (.r [] 13 (.r [] 0 .nil))) ([patV w h l]) ([.bool (lseJ (jnC w h l)),.int .i64 0]) ([])=(
 (s5 w h∧okV w h (flatC l) (length l))∧length (jnC w h (unC (flatC l)))=length (jnC w h (unC (flatC l)))∧okJ (flJ (jnC w h (unC (flatC l)))) (length (jnC w h (unC (flatC l))))∧lseJ (unJ (flJ
 (jnC w h (unC (flatC l)))))=lseJ (jnC w h l)∧iI 0=0∧True):=by kernel_rfl

theorem ob_o38x (w h:Int)(l:List Cr):fnP (YLx) G 10000 fe38 (.r [] 0 (.r [] 13 (.r [] 1 .nil))) ([patV w h l]) ([.bool false,.int .i64 (chkI w h l)]) ([])=(
 (okA (flatC l) (length l)∧edg (unC (flatC l))∧chkI w h (unC (flatC l))≠0)∧false=false∧chkI w h (unC (flatC l))=chkI w h l∧True):=by kernel_rfl

end Go.Proofs.YtfpcbimohikhmaaDoor.X
