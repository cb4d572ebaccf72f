/-
 What is to be shown of the functions (made by a program).
-/
import Derived.Test.YtfpcbimohikhmaaDoorQYD6Z
import Derived.KernelRfl
set_option maxRecDepth 1000000
set_option linter.unusedVariables false
namespace Go.Proofs.YtfpcbimohikhmaaDoor.X
open Go Go.Ab
open List IntKind

theorem ob_o37 (w h:Int)(l:List Cr):fnP (YGr w h (facL w h l) l) G 10000 fe37 (.r [] 0 (.r [] 13 (.r [] 0 (.lit (.r [] 0 (.r [] 1 (.lp (l37 w h (facL w h l) l) [] [] (fun b=>(.r [] 0 (.cnd (.r [(513,.auto,Dr.val [AV.int i64 (cC l b.i),AV.int u8 (cE l b.i),AV.int u8 (cK l b.i)])] 64 (.r [] 55 (.r [] 524801 (.r [] 0 .nil)))) (.r [] 3 (.r [] 0 (.lp (m37 (grF w h (facL w h l) l).fst (grF w h (facL w h l) l).snd) [] [] (fun b_1=>(.mn 0 [] 0 (.r [] 1 (.lit (.r [(1089,.auto,Dr.heap)] 0 (.r [] 0 .nil)))) (fun e=>(.r [] 1 (.lit (.r [(960,.auto,Dr.val [AV.tup [AV.agg [AV.int i64 (getD e.fst 0 0),AV.int i64 (getD e.fst 1 0)],AV.int i64 (getD e.snd.fst 0 0)]])] 28 (.r [(1032,.auto,Dr.pk true)] 575 .nil)))))))))))))))))))) ([patV w h l]) ([.full 0 (jnC w h l).length,.int .i64 0]) ([blkJn (jnC w h l)])=(
 (fun(zz4:Nat)=>(s5 w h∧okV w h (flatC l) (length l))∧1=1∧w=w∧h=h∧qx (Cont.vals (flatC l)) (length l=length l∧0=0∧([]:List Ent3)=[]∧0=0∧0=0∧qx
 (Cont.ints i64 (facL w h (unC (flatC l)))) (nC w h=nC w h∧nC w h=nC w h∧qx (Cont.vals (flatC l)) (length l=length l∧ql l (iI 0=0∧(∃(n:Nat),0=(↑n:Int)∧n≤length l∧
 []=(grF w h (facL w h l) (take n l)).fst∧0=(grF w h (facL w h l) (take n l)).snd)∧∀(b:L83),(fun(zz1:Nat)=>(fun(zz0:Nat)=>(∃(n:Nat),b.i=(↑n:Int)∧n≤length l∧
 b.es=(grF w h (facL w h l) (take n l)).fst∧b.ck=(grF w h (facL w h l) (take n l)).snd)→(ltb b.i (↑(length l):Int)=true→leb 0 b.i=true∧ltb b.i (↑(length l):Int)=true∧
 ltn 0 (Cont.size (Cont.vals (flatC l)))=true∧(drop (Int.toNat b.i*3) (flatC l))[0]? =some (AV.int i64 (cC l b.i))∧(drop (Int.toNat b.i*3) (flatC l))[1]? =some (AV.int u8 (cE l
 b.i))∧(drop (Int.toNat b.i*3) (flatC l))[2]? =some (AV.int u8 (cK l b.i))∧(okN w h (cC l b.i) (cE l b.i)=true∧0≤cE l b.i)∧leb 0 (cC l b.i)=true∧ltb (cC l b.i) (↑(nC w h):
 Int)=true∧ltn 0 (Cont.size (Cont.ints i64 (facL w h (unC (flatC l)))))=true∧ltn 0 (Cont.size (Cont.ints i64 (drop zz1 (facL w h (unC (flatC l))))))=true∧leb 0 (nbI w h (cC l b.i)
 (cE l b.i))=true∧ltb (nbI w h (cC l b.i) (cE l b.i)) (↑(nC w h):Int)=true∧ltn 0 (Cont.size (Cont.ints i64 (facL w h (unC (flatC l)))))=true∧ltn 0 (Cont.size (Cont.ints i64
 (drop zz0 (facL w h (unC (flatC l))))))=true∧leb 0 (cC l b.i)=true∧ltb (cC l b.i) (↑(nC w h):Int)=true∧ltn 0 (Cont.size (Cont.ints i64 (facL w h (unC (flatC l)))))=true∧ltn
 0 (Cont.size (Cont.ints i64 (drop zz1 (facL w h (unC (flatC l))))))=true∧leb 0 (nbI w h (cC l b.i) (cE l b.i))=true∧ltb (nbI w h (cC l b.i) (cE l b.i)) (↑(nC w h):Int)=true∧ltn
 0 (Cont.size (Cont.ints i64 (facL w h (unC (flatC l)))))=true∧ltn 0 (Cont.size (Cont.ints i64 (drop zz0 (facL w h (unC (flatC l))))))=true∧inR i64 (getD (Option.getD (mget b.es [if
 getD (drop zz0 (facL w h (unC (flatC l)))) 0 0<getD (drop zz1 (facL w h (unC (flatC l)))) 0 0 then getD (drop zz0 (facL w h (unC (flatC l)))) 0 0 else getD (drop zz1 (facL w h (unC (flatC
 l)))) 0 0,if getD (drop zz0 (facL w h (unC (flatC l)))) 0 0>getD (drop zz1 (facL w h (unC (flatC l)))) 0 0 then getD (drop zz0 (facL w h (unC (flatC l)))) 0 0 else getD (drop zz1 (facL w
 h (unC (flatC l)))) 0 0]) []) 0 0+1)=true∧mst? (mput b.es [if getD (drop zz0 (facL w h (unC (flatC l)))) 0 0<getD (drop zz1 (facL w h (unC (flatC l)))) 0 0 then getD (drop zz0 (facL
 w h (unC (flatC l)))) 0 0 else getD (drop zz1 (facL w h (unC (flatC l)))) 0 0,if getD (drop zz0 (facL w h (unC (flatC l)))) 0 0>getD (drop zz1 (facL w h (unC (flatC l)))) 0 0 then getD
 (drop zz0 (facL w h (unC (flatC l)))) 0 0 else getD (drop zz1 (facL w h (unC (flatC l)))) 0 0] (Option.getD (mget b.es [if getD (drop zz0 (facL w h (unC (flatC l)))) 0 0<getD (drop zz1
 (facL w h (unC (flatC l)))) 0 0 then getD (drop zz0 (facL w h (unC (flatC l)))) 0 0 else getD (drop zz1 (facL w h (unC (flatC l)))) 0 0,if getD (drop zz0 (facL w h (unC (flatC l)))) 0 0>
 getD (drop zz1 (facL w h (unC (flatC l)))) 0 0 then getD (drop zz0 (facL w h (unC (flatC l)))) 0 0 else getD (drop zz1 (facL w h (unC (flatC l)))) 0 0]) []) b.ck) (↑(mborn b.es [if getD
 (drop zz0 (facL w h (unC (flatC l)))) 0 0<getD (drop zz1 (facL w h (unC (flatC l)))) 0 0 then getD (drop zz0 (facL w h (unC (flatC l)))) 0 0 else getD (drop zz1 (facL w h (unC (flatC l))))
 0 0,if getD (drop zz0 (facL w h (unC (flatC l)))) 0 0>getD (drop zz1 (facL w h (unC (flatC l)))) 0 0 then getD (drop zz0 (facL w h (unC (flatC l)))) 0 0 else getD (drop zz1 (facL w h (unC
 (flatC l)))) 0 0] b.ck):Int)=true∧inR i64 (b.i+1)=true∧1=1∧w=w∧h=h∧qx (Cont.vals (flatC l)) (length l=length l∧0=0∧mset (mput b.es [if getD (drop zz0 (facL w
 h (unC (flatC l)))) 0 0<getD (drop zz1 (facL w h (unC (flatC l)))) 0 0 then getD (drop zz0 (facL w h (unC (flatC l)))) 0 0 else getD (drop zz1 (facL w h (unC (flatC l)))) 0 0,if getD
 (drop zz0 (facL w h (unC (flatC l)))) 0 0>getD (drop zz1 (facL w h (unC (flatC l)))) 0 0 then getD (drop zz0 (facL w h (unC (flatC l)))) 0 0 else getD (drop zz1 (facL w h (unC (flatC l))))
 0 0] (Option.getD (mget b.es [if getD (drop zz0 (facL w h (unC (flatC l)))) 0 0<getD (drop zz1 (facL w h (unC (flatC l)))) 0 0 then getD (drop zz0 (facL w h (unC (flatC l)))) 0 0 else getD
 (drop zz1 (facL w h (unC (flatC l)))) 0 0,if getD (drop zz0 (facL w h (unC (flatC l)))) 0 0>getD (drop zz1 (facL w h (unC (flatC l)))) 0 0 then getD (drop zz0 (facL w h (unC (flatC l))))
 0 0 else getD (drop zz1 (facL w h (unC (flatC l)))) 0 0]) []) b.ck) (↑(mborn b.es [if getD (drop zz0 (facL w h (unC (flatC l)))) 0 0<getD (drop zz1 (facL w h (unC (flatC l)))) 0 0 then
 getD (drop zz0 (facL w h (unC (flatC l)))) 0 0 else getD (drop zz1 (facL w h (unC (flatC l)))) 0 0,if getD (drop zz0 (facL w h (unC (flatC l)))) 0 0>getD (drop zz1 (facL w h (unC (flatC
 l)))) 0 0 then getD (drop zz0 (facL w h (unC (flatC l)))) 0 0 else getD (drop zz1 (facL w h (unC (flatC l)))) 0 0] b.ck):Int) [getD (Option.getD (mget b.es [if getD (drop zz0 (facL w h
 (unC (flatC l)))) 0 0<getD (drop zz1 (facL w h (unC (flatC l)))) 0 0 then getD (drop zz0 (facL w h (unC (flatC l)))) 0 0 else getD (drop zz1 (facL w h (unC (flatC l)))) 0 0,if getD (drop
 zz0 (facL w h (unC (flatC l)))) 0 0>getD (drop zz1 (facL w h (unC (flatC l)))) 0 0 then getD (drop zz0 (facL w h (unC (flatC l)))) 0 0 else getD (drop zz1 (facL w h (unC (flatC l)))) 0 0])
 []) 0 0+1]=mset (mput b.es [if getD (drop zz0 (facL w h (unC (flatC l)))) 0 0<getD (drop zz1 (facL w h (unC (flatC l)))) 0 0 then getD (drop zz0 (facL w h (unC (flatC l)))) 0 0 else
 getD (drop zz1 (facL w h (unC (flatC l)))) 0 0,if getD (drop zz0 (facL w h (unC (flatC l)))) 0 0>getD (drop zz1 (facL w h (unC (flatC l)))) 0 0 then getD (drop zz0 (facL w h (unC (flatC
 l)))) 0 0 else getD (drop zz1 (facL w h (unC (flatC l)))) 0 0] (Option.getD (mget b.es [if getD (drop zz0 (facL w h (unC (flatC l)))) 0 0<getD (drop zz1 (facL w h (unC (flatC l)))) 0 0
 then getD (drop zz0 (facL w h (unC (flatC l)))) 0 0 else getD (drop zz1 (facL w h (unC (flatC l)))) 0 0,if getD (drop zz0 (facL w h (unC (flatC l)))) 0 0>getD (drop zz1 (facL w h (unC
 (flatC l)))) 0 0 then getD (drop zz0 (facL w h (unC (flatC l)))) 0 0 else getD (drop zz1 (facL w h (unC (flatC l)))) 0 0]) []) b.ck) (↑(mborn b.es [if getD (drop zz0 (facL w h (unC (flatC
 l)))) 0 0<getD (drop zz1 (facL w h (unC (flatC l)))) 0 0 then getD (drop zz0 (facL w h (unC (flatC l)))) 0 0 else getD (drop zz1 (facL w h (unC (flatC l)))) 0 0,if getD (drop zz0 (facL w
 h (unC (flatC l)))) 0 0>getD (drop zz1 (facL w h (unC (flatC l)))) 0 0 then getD (drop zz0 (facL w h (unC (flatC l)))) 0 0 else getD (drop zz1 (facL w h (unC (flatC l)))) 0 0] b.ck):Int)
 [getD (Option.getD (mget b.es [if getD (drop zz0 (facL w h (unC (flatC l)))) 0 0<getD (drop zz1 (facL w h (unC (flatC l)))) 0 0 then getD (drop zz0 (facL w h (unC (flatC l)))) 0 0 else
 getD (drop zz1 (facL w h (unC (flatC l)))) 0 0,if getD (drop zz0 (facL w h (unC (flatC l)))) 0 0>getD (drop zz1 (facL w h (unC (flatC l)))) 0 0 then getD (drop zz0 (facL w h (unC (flatC
 l)))) 0 0 else getD (drop zz1 (facL w h (unC (flatC l)))) 0 0]) []) 0 0+1]∧mck b.es [if getD (drop zz0 (facL w h (unC (flatC l)))) 0 0<getD (drop zz1 (facL w h (unC (flatC l)))) 0 0
 then getD (drop zz0 (facL w h (unC (flatC l)))) 0 0 else getD (drop zz1 (facL w h (unC (flatC l)))) 0 0,if getD (drop zz0 (facL w h (unC (flatC l)))) 0 0>getD (drop zz1 (facL w h (unC
 (flatC l)))) 0 0 then getD (drop zz0 (facL w h (unC (flatC l)))) 0 0 else getD (drop zz1 (facL w h (unC (flatC l)))) 0 0] b.ck=mck b.es [if getD (drop zz0 (facL w h (unC (flatC l)))) 0 0<
 getD (drop zz1 (facL w h (unC (flatC l)))) 0 0 then getD (drop zz0 (facL w h (unC (flatC l)))) 0 0 else getD (drop zz1 (facL w h (unC (flatC l)))) 0 0,if getD (drop zz0 (facL w h (unC
 (flatC l)))) 0 0>getD (drop zz1 (facL w h (unC (flatC l)))) 0 0 then getD (drop zz0 (facL w h (unC (flatC l)))) 0 0 else getD (drop zz1 (facL w h (unC (flatC l)))) 0 0] b.ck∧0=0∧qx
 (Cont.ints i64 (facL w h (unC (flatC l)))) (nC w h=nC w h∧nC w h=nC w h∧qx (Cont.vals (flatC l)) (length l=length l∧ql l (b.i+1=b.i+1∧(∃(n:Nat),b.i+1=(↑n:Int)∧
 n≤length l∧mset (mput b.es [if getD (drop zz0 (facL w h (unC (flatC l)))) 0 0<getD (drop zz1 (facL w h (unC (flatC l)))) 0 0 then getD (drop zz0 (facL w h (unC (flatC l)))) 0 0 else
 getD (drop zz1 (facL w h (unC (flatC l)))) 0 0,if getD (drop zz0 (facL w h (unC (flatC l)))) 0 0>getD (drop zz1 (facL w h (unC (flatC l)))) 0 0 then getD (drop zz0 (facL w h (unC (flatC
 l)))) 0 0 else getD (drop zz1 (facL w h (unC (flatC l)))) 0 0] (Option.getD (mget b.es [if getD (drop zz0 (facL w h (unC (flatC l)))) 0 0<getD (drop zz1 (facL w h (unC (flatC l)))) 0 0
 then getD (drop zz0 (facL w h (unC (flatC l)))) 0 0 else getD (drop zz1 (facL w h (unC (flatC l)))) 0 0,if getD (drop zz0 (facL w h (unC (flatC l)))) 0 0>getD (drop zz1 (facL w h (unC
 (flatC l)))) 0 0 then getD (drop zz0 (facL w h (unC (flatC l)))) 0 0 else getD (drop zz1 (facL w h (unC (flatC l)))) 0 0]) []) b.ck) (↑(mborn b.es [if getD (drop zz0 (facL w h (unC (flatC
 l)))) 0 0<getD (drop zz1 (facL w h (unC (flatC l)))) 0 0 then getD (drop zz0 (facL w h (unC (flatC l)))) 0 0 else getD (drop zz1 (facL w h (unC (flatC l)))) 0 0,if getD (drop zz0 (facL w
 h (unC (flatC l)))) 0 0>getD (drop zz1 (facL w h (unC (flatC l)))) 0 0 then getD (drop zz0 (facL w h (unC (flatC l)))) 0 0 else getD (drop zz1 (facL w h (unC (flatC l)))) 0 0] b.ck):Int)
 [getD (Option.getD (mget b.es [if getD (drop zz0 (facL w h (unC (flatC l)))) 0 0<getD (drop zz1 (facL w h (unC (flatC l)))) 0 0 then getD (drop zz0 (facL w h (unC (flatC l)))) 0 0 else
 getD (drop zz1 (facL w h (unC (flatC l)))) 0 0,if getD (drop zz0 (facL w h (unC (flatC l)))) 0 0>getD (drop zz1 (facL w h (unC (flatC l)))) 0 0 then getD (drop zz0 (facL w h (unC (flatC
 l)))) 0 0 else getD (drop zz1 (facL w h (unC (flatC l)))) 0 0]) []) 0 0+1]=(grF w h (facL w h l) (take n l)).fst∧mck b.es [if getD (drop zz0 (facL w h (unC (flatC l)))) 0 0<getD
 (drop zz1 (facL w h (unC (flatC l)))) 0 0 then getD (drop zz0 (facL w h (unC (flatC l)))) 0 0 else getD (drop zz1 (facL w h (unC (flatC l)))) 0 0,if getD (drop zz0 (facL w h (unC (flatC
 l)))) 0 0>getD (drop zz1 (facL w h (unC (flatC l)))) 0 0 then getD (drop zz0 (facL w h (unC (flatC l)))) 0 0 else getD (drop zz1 (facL w h (unC (flatC l)))) 0 0] b.ck=(grF w h (facL w h
 l) (take n l)).snd)∧length l-Int.toNat (b.i+1)<length l-Int.toNat b.i∧True)))))∧(ltb b.i (↑(length l):Int)=false→leb ((↑(length b.es):Int)*24) 140737488355328=true
 ∧1=1∧w=w∧h=h∧qx (Cont.vals (flatC l)) (length l=length l∧0=0∧b.es=b.es∧b.ck=b.ck∧0=0∧Int.toNat (↑(length b.es):Int)=length (grF w h (facL w h l) l).fst∧
 ([]:List AV)=[]∧(grF w h (facL w h l) l).snd=b.ck∧([]:List Nat)=[]∧qx (ltb b.i (↑(length l):Int)) (0=0∧0=0∧(∃(L:List Jt),[]=flJ L∧0=length L∧List.Perm
 (L++map entJ (leftE (grF w h (facL w h l) l).fst [])) (map entJ (grF w h (facL w h l) l).fst))∧∀(b_1:LM37),(∃(L:List Jt),b_1.l=flJ L∧b_1.n=length L∧List.Perm (L++map
 entJ (leftE (grF w h (facL w h l) l).fst b_1.seen)) (map entJ (grF w h (facL w h l) l).fst))→(b.ck=(grF w h (facL w h l) l).snd∧bornP b.es (grF w h (facL w h l) l).snd)∧(leftE b.es
 b_1.seen=[]→([(770,HO.blk (Blk.mk (Cont.vals b_1.l) 3 b_1.n (some zz4) (some false) true false))]=[(770,HO.blk (Blk.mk (Cont.vals b_1.l) 3 b_1.n (some zz4) (some false) true false))]
 ∧∃(L:List Jt),b_1.l=flJ L∧b_1.n=length L∧List.Perm L (map entJ (grF w h (facL w h l) l).fst))∧b_1.n=length (jnC w h l)∧length (grF w h (facL w h l) l).fst=length (jnC w
 h l)∧flJ (jnL w h (facL w h l) l)=flJ (jnC w h l)∧b_1.n=length (jnC w h l)∧iI 0=0∧True)∧∀(e:Ent3),(fun(zz5:Int)=>(fun(zz3:Int)=>(fun(zz2:Int)=>e∈leftE
 b.es b_1.seen→b.ck=(grF w h (facL w h l) l).snd∧(entL (MV.mk true [some i64,some i64]) (MV.mk false [some i64]) b.es (b_1.seen++[e.snd.snd]))[0]? =some (AV.tup [AV.agg [AV.int i64
 (getD e.fst 0 0),AV.int i64 (getD e.fst 1 0)],AV.int i64 zz5])∧b_1.n=b_1.n∧len' ((b_1.n+1)*24) 140737488355328=true∧len' (b_1.n+1) zz4=true∧1=1∧w=w∧h=h∧qx
 (Cont.vals (flatC l)) (length l=length l∧0=0∧b.es=b.es∧b.ck=b.ck∧qx (b_1.n+1) (length (grF w h (facL w h l) l).fst=length (grF w h (facL w h l) l).fst∧b_1.l++[AV.int
 i64 zz2,AV.int i64 zz3,AV.int i64 zz5]=b_1.l++[AV.int i64 zz2,AV.int i64 zz3,AV.int i64 zz5]∧(grF w h (facL w h l) l).snd=(grF w h (facL w h l) l).snd∧b_1.seen++[e.snd.snd]=
 b_1.seen++[e.snd.snd]∧qx (ltb b.i (↑(length l):Int)) (qx (b_1.n+1) (0=0∧(∃(L:List Jt),b_1.l++[AV.int i64 zz2,AV.int i64 zz3,AV.int i64 zz5]=flJ L∧b_1.n+1=length L
 ∧List.Perm (L++map entJ (leftE (grF w h (facL w h l) l).fst (b_1.seen++[e.snd.snd]))) (map entJ (grF w h (facL w h l) l).fst))∧length (leftE (grF w h (facL w h l) l).fst (b_1.seen++
 [e.snd.snd]))<length (leftE (grF w h (facL w h l) l).fst b_1.seen)∧True))))) (getD [getD e.fst 0 0,getD e.fst 1 0] 0 0)) (getD [getD e.fst 0 0,getD e.fst 1 0] 1 0)) (getD e.snd.fst 0
 0))))) (Int.toNat (nbI w h (cC l b.i) (cE l b.i)))) (Int.toNat (cC l b.i))))))) (length (grF w h (facL w h l) l).fst)):=by kernel_rfl

theorem ob_o74 (a b u:Int):fnP (T0) G 10000 fe74 (.r [] 0 (.r [] 3 .nil)) ([.agg [.int .i64 a,.int .i64 b,.int .i64 u]]) ([.bool (a==b)]) ([])=(
 (a==b)=(a==b)∧True):=by kernel_rfl

theorem ob_o98 (L:List Jt):fnP (Y74) G 10000 fe98 (.r [] 0 (.r [] 0 (.lp (l98 L) [] [] (fun b=>(.r [] 0 (.cnd (.r [] 0 (.r [(324,.auto,Dr.val (jV L b.i))] 64 (.cnd (.r [] 0 .nil) (.r [] 0 .nil)))) (.r [] 0 .nil))))))) ([.imm (.vals (flJ L)) L.length none,.fn 74 [] []]) ([.int .i64 (ixJ L 0)]) ([])=(
 qx (Cont.vals (flJ L)) (length L=length L∧ql L (iI 0=0∧(∃(n:Nat),0=(↑n:Int)∧n≤length L∧ixJ L 0=ixJ (drop n L) n)∧∀(b:L1),(fun(zz0:Bool)=>(∃(n:Nat),b.i
 =(↑n:Int)∧n≤length L∧ixJ L 0=ixJ (drop n L) n)→(ltb b.i (↑(length L):Int)=true→leb 0 b.i=true∧ltb b.i (↑(length L):Int)=true∧ltn 0 (Cont.size (Cont.vals (flJ
 L)))=true∧(drop (Int.toNat b.i*3) (flJ L))[0]? =some (AV.int i64 (Option.getD L[Int.toNat b.i]? (0,0,0)).fst)∧(drop (Int.toNat b.i*3) (flJ L))[1]? =some (AV.int i64
 (Option.getD L[Int.toNat b.i]? (0,0,0)).snd.fst)∧(drop (Int.toNat b.i*3) (flJ L))[2]? =some (AV.int i64 (Option.getD L[Int.toNat b.i]? (0,0,0)).snd.snd)∧(zz0=true→b.i=ixJ L
 0∧True)∧(zz0=false→inR i64 (b.i+1)=true∧qx (Cont.vals (flJ L)) (length L=length L∧ql L (b.i+1=b.i+1∧(∃(n:Nat),b.i+1=(↑n:Int)∧n≤length L∧ixJ L 0=
 ixJ (drop n L) n)∧length L-Int.toNat (b.i+1)<length L-Int.toNat b.i∧True))))∧(ltb b.i (↑(length L):Int)=false→ -1=ixJ L 0∧True)) ((Option.getD L[Int.toNat b.i]? (0,0,
 0)).fst==(Option.getD L[Int.toNat b.i]? (0,0,0)).snd.fst)))):=by kernel_rfl

theorem ob_o73 (L:List Jt):fnP (Y98) G 10000 fe73 (.r [] 0 (.r [] 0 .nil)) ([.imm (.vals (flJ L)) L.length none,.fn 74 [] []]) ([.bool (lseJ L)]) ([])=(
 okJ (flJ L) (length L)∧leb 0 (ixJ (unJ (flJ L)) 0)=lseJ L∧True):=by kernel_rfl

theorem ob_o38 (w h:Int)(l:List Cr):fnP (YLo) G 10000 fe38 (.r [] 0 (.r [] 13 (.r [] 0 .nil))) ([patV w h l]) ([.bool (lseJ (jnC w h l)),.int .i64 0]) ([])=(
 (s5 w h∧okV w h (flatC l) (length l))∧length (jnC w h (unC (flatC l)))=length (jnC w h (unC (flatC l)))∧okJ (flJ (jnC w h (unC (flatC l)))) (length (jnC w h (unC (flatC l))))∧lseJ (unJ (flJ
 (jnC w h (unC (flatC l)))))=lseJ (jnC w h l)∧iI 0=0∧True):=by kernel_rfl

theorem ob_o39 (w h:Int)(l:List Cr):fnP (Y39) G 10000 fe39 (.r [] 0 (.r [] 1 (.r [] 0 (.r [] 0 (.r [] 0 (.gho 5 9001 2 (Cont.vals []) (.lp (a39 w h (facL w h l) l) [] [] (fun b=>(.r [] 1 (.cnd (.r [(518,.auto,Dr.val [AV.int i64 (cC l b.i)])] 1 (.r [(584,.auto,Dr.val [AV.int i64 (cC l b.i)]),(590,.auto,Dr.val [AV.int u8 (cE l b.i)])] 67 (.r [] 4 (.r [] 0 .nil)))) (.frz 5 0 (.r [] 0 (.gho 4 9002 3 (Cont.vals []) (.lp (b39 w h (facL w h l) l) [] [] (fun b_1=>(.r [] 0 (.cnd (.r [] 0 (.lp (c39 w h (facL w h l) l b_1.i) [] [] (fun b_2=>(.r [] 0 (.cnd (.r [] 0 (.r [] 0 (.lp (d39 w h (facL w h l) l b_1.i b_2.i) [] [] (fun b_3=>(.r [] 0 (.cnd (.r [(1347,.auto,Dr.val [AV.int i64 (pJ w h (facL w h l) l b_3.fst).fst,AV.int i64 (pJ w h (facL w h l) l b_3.fst).snd])] 0 (.cnd (.r [] 0 (.r [] 0 .nil)) (.r [] 0 .nil))) (.r [] 0 (.cnd (.r [] 4 (.r [] 0 .nil)) (.r [] 0 .nil))))))))) (.r [] 0 .nil)))))) (.r [] 0 .nil)))))))))))))))))) ([patV w h l]) ([.full 0 (jnC w h l).length]) ([⟨.vals (flJ (jnC w h l)),3,(jnC w h l).length,none,some true,true,false⟩])=(
 (s5 w h∧okV w h (flatC l) (length l))∧1=1∧w=w∧h=h∧qx (Cont.vals (flatC l)) (length l=length l∧nC w h=nC w h∧nC w h=nC w h∧qx (facL w h (unC (flatC l))) (0=0∧
 ([]:List AV)=[]∧0=0∧nC w h=nC w h∧0=0∧iI 0=0∧(∃(k:Nat),0=(↑k:Int)∧k≤length l∧[]=flP2 (map (prJ w h (facL w h l)) (take k l))∧0=k)∧∀(b:LI2),
 (fun(zz6:Nat)=>(fun(zz5:Nat)=>(fun(zz4:Bool)=>(fun(zz1:Int)=>(fun(zz0:Int)=>(∃(k:Nat),b.i=(↑k:Int)∧k≤length l∧b.l=flP2 (map (prJ w h (facL w h l))
 (take k l))∧b.n=k)→(ltb b.i (↑(length l):Int)=true→leb 0 b.i=true∧ltb b.i (↑(length l):Int)=true∧ltn 0 (Cont.size (Cont.vals (flatC l)))=true∧(drop 0 (drop
 (Int.toNat b.i*3) (flatC l)))[0]? =some (AV.int i64 (cC l b.i))∧leb 0 (cC l b.i)=true∧ltb (cC l b.i) (↑(nC w h):Int)=true∧nC w h=nC w h∧nC w h=nC w h∧ltn zz6
 (Cont.size (Cont.ints i64 (facL w h (unC (flatC l)))))=true∧leb 0 b.i=true∧ltb b.i (↑(length l):Int)=true∧ltn 0 (Cont.size (Cont.vals (flatC l)))=true∧(drop 0 (drop
 (Int.toNat b.i*3) (flatC l)))[0]? =some (AV.int i64 (cC l b.i))∧leb 0 b.i=true∧ltb b.i (↑(length l):Int)=true∧ltn 0 (Cont.size (Cont.vals (flatC l)))=true∧(drop 1 (drop
 (Int.toNat b.i*3) (flatC l)))[0]? =some (AV.int u8 (cE l b.i))∧inR i64 (cE l b.i)=true∧(s5 w h∧0≤cC l b.i∧cC l b.i<4*w*h∧0≤cE l b.i∧cE l b.i≤2)∧leb 0 (nbI w h
 (cC l b.i) (cE l b.i))=true∧ltb (nbI w h (cC l b.i) (cE l b.i)) (↑(nC w h):Int)=true∧nC w h=nC w h∧nC w h=nC w h∧ltn zz5 (Cont.size (Cont.ints i64 (facL w h (unC (flatC
 l)))))=true∧b.n=b.n∧len' ((b.n+1)*16) 140737488355328=true∧inR i64 (b.i+1)=true∧1=1∧w=w∧h=h∧qx (Cont.vals (flatC l)) (length l=length l∧nC w h=nC w h
 ∧nC w h=nC w h∧qx (facL w h (unC (flatC l))) (b.n+1=b.n+1∧b.l++[AV.int i64 zz0,AV.int i64 zz1]=b.l++[AV.int i64 zz0,AV.int i64 zz1]∧0=0∧nC w h=nC w h∧b.n+1=
 b.n+1∧b.i+1=b.i+1∧(∃(k:Nat),b.i+1=(↑k:Int)∧k≤length l∧b.l++[AV.int i64 zz0,AV.int i64 zz1]=flP2 (map (prJ w h (facL w h l)) (take k l))∧b.n+1=k)∧
 length l-Int.toNat (b.i+1)<length l-Int.toNat b.i∧True)))∧(ltb b.i (↑(length l):Int)=false→b.n=b.n∧1=1∧w=w∧h=h∧qx (Cont.vals (flatC l)) (length l=length l
 ∧nC w h=nC w h∧nC w h=nC w h∧qx (facL w h (unC (flatC l))) (b.n=b.n∧b.l=b.l∧0=0∧([]:List AV)=[]∧nC w h=nC w h∧0=0∧qx (Cont.vals b.l) (b.n=b.n∧qx zz4
 (iI 0=0∧(∃(a:Nat),0=(↑a:Int)∧a≤nC w h∧[]=flJ (jnP w h (facL w h l) l a)∧0=length (jnP w h (facL w h l) l a))∧∀(b_1:LI2),(fun(zz3:Nat)=>(∃(a:Nat),b_1.i
 =(↑a:Int)∧a≤nC w h∧b_1.l=flJ (jnP w h (facL w h l) l a)∧b_1.n=length (jnP w h (facL w h l) l a))→nC w h=nC w h∧(ltb b_1.i (↑(nC w h):Int)=true→1=1∧w=w∧h=
 h∧qx (Cont.vals (flatC l)) (length l=length l∧nC w h=nC w h∧nC w h=nC w h∧qx (facL w h (unC (flatC l))) (b.n=b.n∧b.l=b.l∧b_1.n=b_1.n∧b_1.l=b_1.l∧nC w h=nC w h
 ∧b_1.n=b_1.n∧qx (Cont.vals b.l) (b.n=b.n∧qx zz4 (b_1.i=b_1.i∧b_1.i=b_1.i∧(∃(c:Nat),b_1.i=(↑c:Int)∧Int.toNat b_1.i≤c∧c≤nC w h∧b_1.l=flJ (jnP w h (facL w h
 l) l zz3++jnR w h (facL w h l) l zz3 c)∧b_1.n=length (jnP w h (facL w h l) l zz3++jnR w h (facL w h l) l zz3 c))∧∀(b_2:LI2),(∃(c:Nat),b_2.i=(↑c:Int)∧Int.toNat b_1.i≤
 c∧c≤nC w h∧b_2.l=flJ (jnP w h (facL w h l) l zz3++jnR w h (facL w h l) l zz3 c)∧b_2.n=length (jnP w h (facL w h l) l zz3++jnR w h (facL w h l) l zz3 c))→nC w h=nC w h∧
 (ltb b_2.i (↑(nC w h):Int)=true→1=1∧w=w∧h=h∧qx (Cont.vals (flatC l)) (length l=length l∧nC w h=nC w h∧nC w h=nC w h∧qx (facL w h (unC (flatC l))) (b.n=b.n∧
 b.l=b.l∧b_2.n=b_2.n∧b_2.l=b_2.l∧nC w h=nC w h∧b_2.n=b_2.n∧qx (Cont.vals b.l) (b.n=b.n∧qx zz4 (b_1.i=b_1.i∧b_2.i=b_2.i∧iI 0=0∧iI 0=0∧(∃(n:Nat),0=
 (↑n:Int)∧n≤length l∧0=(↑(cntJ w h (facL w h l) (take n l) b_1.i b_2.i):Int))∧∀(b_3:Int×Int),(fun(zz2:Bool)=>(∃(n:Nat),b_3.fst=(↑n:Int)∧n≤length l∧
 b_3.snd=(↑(cntJ w h (facL w h l) (take n l) b_1.i b_2.i):Int))→(ltb b_3.fst (↑b.n:Int)=true→leb 0 b_3.fst=true∧ltb b_3.fst (↑b.n:Int)=true∧ltn 0 (Cont.size (Cont.vals
 b.l))=true∧(drop (Int.toNat b_3.fst*2) b.l)[0]? =some (AV.int i64 (loA w h (facL w h l) (Option.getD l[Int.toNat b_3.fst]? (0,0,0)),hiA w h (facL w h l) (Option.getD l[Int.toNat
 b_3.fst]? (0,0,0))).fst)∧(drop (Int.toNat b_3.fst*2) b.l)[1]? =some (AV.int i64 (loA w h (facL w h l) (Option.getD l[Int.toNat b_3.fst]? (0,0,0)),hiA w h (facL w h l) (Option.getD
 l[Int.toNat b_3.fst]? (0,0,0))).snd)∧(zz2=true→inR i64 (b_3.snd+1)=true∧inR i64 (b_3.fst+1)=true∧1=1∧w=w∧h=h∧qx (Cont.vals (flatC l)) (length l=length l∧
 nC w h=nC w h∧nC w h=nC w h∧qx (facL w h (unC (flatC l))) (b.n=b.n∧b.l=b.l∧b_2.n=b_2.n∧b_2.l=b_2.l∧nC w h=nC w h∧b_2.n=b_2.n∧qx (Cont.vals b.l) (b.n=b.n∧
 qx zz4 (b_1.i=b_1.i∧b_2.i=b_2.i∧b_3.snd+1=(b_3.fst+1,b_3.snd+1).snd∧b_3.fst+1=(b_3.fst+1,b_3.snd+1).fst∧(∃(n:Nat),(b_3.fst+1,b_3.snd+1).fst=(↑n:
 Int)∧n≤length l∧(b_3.fst+1,b_3.snd+1).snd=(↑(cntJ w h (facL w h l) (take n l) b_1.i b_2.i):Int))∧length l-Int.toNat (b_3.fst+1)<length l-Int.toNat b_3.fst∧
 True)))))∧(zz2=false→inR i64 (b_3.fst+1)=true∧1=1∧w=w∧h=h∧qx (Cont.vals (flatC l)) (length l=length l∧nC w h=nC w h∧nC w h=nC w h∧qx (facL w h (unC (flatC
 l))) (b.n=b.n∧b.l=b.l∧b_2.n=b_2.n∧b_2.l=b_2.l∧nC w h=nC w h∧b_2.n=b_2.n∧qx (Cont.vals b.l) (b.n=b.n∧qx zz4 (b_1.i=b_1.i∧b_2.i=b_2.i∧b_3.snd=(b_3.fst+
 1,b_3.snd).snd∧b_3.fst+1=(b_3.fst+1,b_3.snd).fst∧(∃(n:Nat),(b_3.fst+1,b_3.snd).fst=(↑n:Int)∧n≤length l∧(b_3.fst+1,b_3.snd).snd=(↑(cntJ w h (facL w h l)
 (take n l) b_1.i b_2.i):Int))∧length l-Int.toNat (b_3.fst+1)<length l-Int.toNat b_3.fst∧True))))))∧(ltb b_3.fst (↑b.n:Int)=false→(ltb 0 b_3.snd=true→b_2.n=b_2.n∧
 len' ((b_2.n+1)*24) 140737488355328=true∧inR i64 (b_2.i+1)=true∧1=1∧w=w∧h=h∧qx (Cont.vals (flatC l)) (length l=length l∧nC w h=nC w h∧nC w h=nC w h∧qx
 (facL w h (unC (flatC l))) (b.n=b.n∧b.l=b.l∧qx (b_2.n+1) (b_2.l++[AV.int i64 b_1.i,AV.int i64 b_2.i,AV.int i64 b_3.snd]=b_2.l++[AV.int i64 b_1.i,AV.int i64 b_2.i,AV.int
 i64 b_3.snd]∧nC w h=nC w h∧qx (b_2.n+1) (qx (Cont.vals b.l) (b.n=b.n∧qx zz4 (b_1.i=b_1.i∧qx (b_2.i+1) ((∃(c:Nat),b_2.i+1=(↑c:Int)∧Int.toNat b_1.i≤c∧c≤nC w
 h∧b_2.l++[AV.int i64 b_1.i,AV.int i64 b_2.i,AV.int i64 b_3.snd]=flJ (jnP w h (facL w h l) l zz3++jnR w h (facL w h l) l zz3 c)∧b_2.n+1=length (jnP w h (facL w h l) l zz3++
 jnR w h (facL w h l) l zz3 c))∧nC w h-Int.toNat (b_2.i+1)<nC w h-Int.toNat b_2.i∧True))))))))∧(ltb 0 b_3.snd=false→inR i64 (b_2.i+1)=true∧1=1∧w=w∧h=h∧qx
 (Cont.vals (flatC l)) (length l=length l∧nC w h=nC w h∧nC w h=nC w h∧qx (facL w h (unC (flatC l))) (b.n=b.n∧b.l=b.l∧b_2.n=b_2.n∧b_2.l=b_2.l∧nC w h=nC w h∧
 b_2.n=b_2.n∧qx (Cont.vals b.l) (b.n=b.n∧qx zz4 (b_1.i=b_1.i∧qx (b_2.i+1) ((∃(c:Nat),b_2.i+1=(↑c:Int)∧Int.toNat b_1.i≤c∧c≤nC w h∧b_2.l=flJ (jnP w h (facL w
 h l) l zz3++jnR w h (facL w h l) l zz3 c)∧b_2.n=length (jnP w h (facL w h l) l zz3++jnR w h (facL w h l) l zz3 c))∧nC w h-Int.toNat (b_2.i+1)<nC w h-Int.toNat b_2.i∧
 True)))))))) ((loA w h (facL w h l) (Option.getD l[Int.toNat b_3.fst]? (0,0,0)),hiA w h (facL w h l) (Option.getD l[Int.toNat b_3.fst]? (0,0,0))).fst==b_1.i&&(loA w h (facL w h l)
 (Option.getD l[Int.toNat b_3.fst]? (0,0,0)),hiA w h (facL w h l) (Option.getD l[Int.toNat b_3.fst]? (0,0,0))).snd==b_2.i))))))∧(ltb b_2.i (↑(nC w h):Int)=false→inR i64 (b_1.i
 +1)=true∧1=1∧w=w∧h=h∧qx (Cont.vals (flatC l)) (length l=length l∧nC w h=nC w h∧nC w h=nC w h∧qx (facL w h (unC (flatC l))) (b.n=b.n∧b.l=b.l∧b_2.n=b_2.n
 ∧b_2.l=b_2.l∧nC w h=nC w h∧b_2.n=b_2.n∧qx (Cont.vals b.l) (b.n=b.n∧qx zz4 (qx (b_1.i+1) ((∃(a:Nat),b_1.i+1=(↑a:Int)∧a≤nC w h∧b_2.l=flJ (jnP w h (facL w h
 l) l a)∧b_2.n=length (jnP w h (facL w h l) l a))∧nC w h-Int.toNat (b_1.i+1)<nC w h-Int.toNat b_1.i∧True)))))))))))∧(ltb b_1.i (↑(nC w h):Int)=false→b_1.n=length
 (jnC w h l)∧b_1.l=flJ (jnC w h l)∧b_1.n=length (jnC w h l)∧True)) (Int.toNat b_1.i))))))) (if getD (facL w h (unC (flatC l))) zz5 0<getD (facL w h (unC (flatC l))) zz6 0 then
 getD (facL w h (unC (flatC l))) zz5 0 else getD (facL w h (unC (flatC l))) zz6 0)) (if getD (facL w h (unC (flatC l))) zz5 0>getD (facL w h (unC (flatC l))) zz6 0 then getD (facL w h (unC
 (flatC l))) zz5 0 else getD (facL w h (unC (flatC l))) zz6 0)) (ltb b.i (↑(length l):Int))) (Int.toNat (nbI w h (cC l b.i) (cE l b.i)))) (Int.toNat (cC l b.i))))):=by kernel_rfl

end Go.Proofs.YtfpcbimohikhmaaDoor.X
