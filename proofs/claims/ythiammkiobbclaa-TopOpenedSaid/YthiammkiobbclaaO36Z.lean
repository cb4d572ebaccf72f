/-
 What is to be shown of the functions (made by a program).
-/
import Derived.Test.YthiammkiobbclaaD37Z
import Derived.KernelRfl
import Derived.Test.YthiammkiobbclaaD36Z
set_option maxRecDepth 1000000
set_option linter.unusedVariables false
namespace Go.Proofs.Ythiammkiobbclaa.X
open Go Go.Ab
open List IntKind

theorem ob_b38 (n:Int):fnP (T0) G 10000 fe38 (.r [] 0 (.r [] 0 (.ff (.r [] 1 (.r [] 0 (.tt (.r [] 9 (.r [] 0 .nil)))))))) ([.nils,.int .i64 n]) ([.full 0 0]) ([blkN .i64 []])=(
 ltb n 0=false∧inR i64 (n-0)=true∧ltb 0 (n-0)=true∧ltb 0 (n-0)=true∧leb ((n-0)*8) 140737488355328=true∧0=0∧iL []=[]∧0=0∧True):=by kernel_rfl

theorem ob_b39 (n:Int):fnP (T0) G 10000 fe39 (.r [] 0 (.r [] 0 (.ff (.r [] 1 (.r [] 0 (.tt (.r [] 9 (.r [] 0 .nil)))))))) ([.nils,.int .i64 n]) ([.full 0 0]) ([blkN .u8 []])=(
 ltb n 0=false∧inR i64 (n-0)=true∧ltb 0 (n-0)=true∧ltb 0 (n-0)=true∧leb ((n-0)*1) 140737488355328=true∧0=0∧iL []=[]∧0=0∧True):=by kernel_rfl

theorem ob_b22 (x y:List Int):fnP (V1) G 10000 fe22 (.r [] 0 (.r [] 0 (.r [] 0 (.un (.r [] 0 (.lit (.r [] 15 (.r [] 0 (.r [] 0 (.ff (.r [] 1 (.un (.r [] 0 (.lit (.r [] 15 (.r [] 0 (.r [] 0 (.ff (.r [] 1 (.un (.r [] 0 (.lit (.r [] 0 (.r [] 0 (.un (.r [] 0 (.lit (.r [] 15 (.r [] 1 (.r [] 1 (.un (.r [] 0 (.lit (.r [] 15 (.r [] 0 (.r [] 1 (.un (.r [] 0 (.lit (.r [] 0 .nil)))))))))))))))))))))))))))))))))))))))) ([.imm (.vals [.imm (.ints .i64 x) x.length none,.imm (.ints .i64 y) y.length none]) 2 none]) ([.full 0 (x++y).length]) ([blkN .i64 (x++y)])=(
 inR i64 (0+(↑(length x):Int))=true∧ltb (0+(↑(length x):Int)) 0=false∧inR i64 (0+(↑(length x):Int)+(↑(length y):Int))=true∧ltb (0+(↑(length x):Int)+(↑(length y):
 Int)) 0=false∧(0<0+(↑(length x):Int)+(↑(length y):Int)∧0+(↑(length x):Int)+(↑(length y):Int)<1000000000000)∧len' ((0+length x)*8) 140737488355328=true∧Cont.size
 (Cont.ints i64 x)=length x∧0+length x=0+length x∧len' ((0+length x+length y)*8) 140737488355328=true∧Cont.size (Cont.ints i64 y)=length y∧0+length x+length y=length (x
 ++y)∧[]++x++y=x++y∧0+length x+length y=length (x++y)∧True):=by kernel_rfl

theorem ob_b23 (x y:List Int):fnP (V1) G 10000 fe23 (.r [] 0 (.r [] 0 (.r [] 0 (.un (.r [] 0 (.lit (.r [] 15 (.r [] 0 (.r [] 0 (.ff (.r [] 1 (.un (.r [] 0 (.lit (.r [] 15 (.r [] 0 (.r [] 0 (.ff (.r [] 1 (.un (.r [] 0 (.lit (.r [] 0 (.r [] 0 (.un (.r [] 0 (.lit (.r [] 15 (.r [] 1 (.r [] 1 (.un (.r [] 0 (.lit (.r [] 15 (.r [] 0 (.r [] 1 (.un (.r [] 0 (.lit (.r [] 0 .nil)))))))))))))))))))))))))))))))))))))))) ([.imm (.vals [.imm (.ints .u8 x) x.length none,.imm (.ints .u8 y) y.length none]) 2 none]) ([.full 0 (x++y).length]) ([blkN .u8 (x++y)])=(
 inR i64 (0+(↑(length x):Int))=true∧ltb (0+(↑(length x):Int)) 0=false∧inR i64 (0+(↑(length x):Int)+(↑(length y):Int))=true∧ltb (0+(↑(length x):Int)+(↑(length y):
 Int)) 0=false∧(0<0+(↑(length x):Int)+(↑(length y):Int)∧0+(↑(length x):Int)+(↑(length y):Int)<1000000000000)∧len' ((0+length x)*1) 140737488355328=true∧Cont.size
 (Cont.ints u8 x)=length x∧0+length x=0+length x∧len' ((0+length x+length y)*1) 140737488355328=true∧Cont.size (Cont.ints u8 y)=length y∧0+length x+length y=length (x++
 y)∧[]++x++y=x++y∧0+length x+length y=length (x++y)∧True):=by kernel_rfl

theorem ob_d_c21 (a:List Int):fnD (T0) G 10000 (fe21) (.r [] 0 (.r [(133,.auto,Dr.pk true)] 40 .nil)) ([.full 8640 a.length]) ([(8640,.blk (blkN .i64 a))]) ([.fullc 8640 a.length a.length]) ([])=(
 length a=length a∧length a=length a∧length a=length a∧Int.toNat (↑(length a):Int)=length a∧Int.toNat (↑(length a):Int)=length a∧length a=length a∧a=a∧length a=length
 a∧length a=length a∧True):=by kernel_rfl

theorem ob_d_c14 (a:List Int):fnD (T0) G 10000 (fe14) (.r [] 0 (.r [(133,.auto,Dr.pk true)] 40 .nil)) ([.full 8640 a.length]) ([(8640,.blk (blkN .u8 a))]) ([.fullc 8640 a.length a.length]) ([])=(
 length a=length a∧length a=length a∧length a=length a∧Int.toNat (↑(length a):Int)=length a∧Int.toNat (↑(length a):Int)=length a∧length a=length a∧a=a∧length a=length
 a∧length a=length a∧True):=by kernel_rfl

theorem ob_b13 (a:List Int)(i:Int):fnP (V13) G 10000 fe13 (.r [] 0 (.r [(136,.auto,Dr.heap)] 64 .nil)) ([.imm (.ints .i64 a) a.length none,.int .i64 i]) ([.fullc 0 (rotT a i.toNat).length (rotT a i.toNat).length]) ([blkN .i64 (rotT a i.toNat)])=(
 leb 0 i=true∧len' (Int.toNat i) (length a)=true∧Cont.size (Cont.ints i64 a)=length a∧leb 0 i=true∧len' (Int.toNat i) (length a)=true∧Cont.size (Cont.ints i64 a)=length a∧
 (length a-Int.toNat i=length (drop (Int.toNat i) a)∧Int.toNat i=length (take (Int.toNat i) a)∧0<length (drop (Int.toNat i) a)+length (take (Int.toNat i) a)∧length (drop (Int.toNat i)
 a)+length (take (Int.toNat i) a)<100000000000)∧([(8640,HO.blk (Blk.mk (Cont.ints i64 (drop (Int.toNat i) a++take (Int.toNat i) a)) 1 (length (drop (Int.toNat i) a++take (Int.toNat i) a))
 none (some false) true false))]=[(8640,HO.blk (Blk.mk (Cont.ints i64 (drop (Int.toNat i) a++take (Int.toNat i) a)) 1 (length (drop (Int.toNat i) a++take (Int.toNat i) a)) none (some false) true
 false))]∧length (drop (Int.toNat i) a++take (Int.toNat i) a)=length (drop (Int.toNat i) a++take (Int.toNat i) a))∧length (drop (Int.toNat i) a++take (Int.toNat i) a)=length (rotT a
 (Int.toNat i))∧drop (Int.toNat i) a++take (Int.toNat i) a=rotT a (Int.toNat i)∧length (drop (Int.toNat i) a++take (Int.toNat i) a)=length (rotT a (Int.toNat i))∧length (drop (Int.toNat
 i) a++take (Int.toNat i) a)=length (rotT a (Int.toNat i))∧True):=by kernel_rfl

theorem ob_b15 (a:List Int)(i:Int):fnP (V15) G 10000 fe15 (.r [] 0 (.r [(136,.auto,Dr.heap)] 64 .nil)) ([.imm (.ints .u8 a) a.length none,.int .i64 i]) ([.fullc 0 (rotT a i.toNat).length (rotT a i.toNat).length]) ([blkN .u8 (rotT a i.toNat)])=(
 leb 0 i=true∧len' (Int.toNat i) (length a)=true∧Cont.size (Cont.ints u8 a)=length a∧leb 0 i=true∧len' (Int.toNat i) (length a)=true∧Cont.size (Cont.ints u8 a)=length a∧(length
 a-Int.toNat i=length (drop (Int.toNat i) a)∧Int.toNat i=length (take (Int.toNat i) a)∧0<length (drop (Int.toNat i) a)+length (take (Int.toNat i) a)∧length (drop (Int.toNat i) a)+
 length (take (Int.toNat i) a)<100000000000)∧([(8640,HO.blk (Blk.mk (Cont.ints u8 (drop (Int.toNat i) a++take (Int.toNat i) a)) 1 (length (drop (Int.toNat i) a++take (Int.toNat i) a)) none
 (some false) true false))]=[(8640,HO.blk (Blk.mk (Cont.ints u8 (drop (Int.toNat i) a++take (Int.toNat i) a)) 1 (length (drop (Int.toNat i) a++take (Int.toNat i) a)) none (some false) true
 false))]∧length (drop (Int.toNat i) a++take (Int.toNat i) a)=length (drop (Int.toNat i) a++take (Int.toNat i) a))∧length (drop (Int.toNat i) a++take (Int.toNat i) a)=length (rotT a
 (Int.toNat i))∧drop (Int.toNat i) a++take (Int.toNat i) a=rotT a (Int.toNat i)∧length (drop (Int.toNat i) a++take (Int.toNat i) a)=length (rotT a (Int.toNat i))∧length (drop (Int.toNat
 i) a++take (Int.toNat i) a)=length (rotT a (Int.toNat i))∧True):=by kernel_rfl

theorem ob_s5 (a k:List Int)(c:Int):fnP (V5) G 10000 fe5 (.r [] 0 (.r [] 1 (.r [] 0 (.lit (.r [yL 323,yL 324,yL 325,yL 326,yL 327] 254 (.ff (.r [] 1 (.r [] 2069 .nil)))))))) ([.agg [.imm (.ints .i64 a) a.length none,.imm (.ints .u8 k) k.length none],.int .i64 c]) ([.agg [.fullc 0 a.length a.length,.imm (.ints .u8 (k.take (k.length-1))) (k.length-1) (some (k.length-1))],.int .i64 0]) ([blkN .i64 a])=(
 (fun(zz1:Nat)=>(fun(zz0:Nat)=>(length a=length a∧length k=length k∧okRing a k)∧(!ltb c 0)=true∧leb (↑(length k):Int) c=false∧(length a=length a∧length k=
 length k∧okRing a k)∧((length a=length a∧length k=length k∧length (raysL a)=length (raysL a))∧0<length a∧length a≤8∧0≤c∧c<(↑(length a):Int))∧(length a=
 length a∧0<length a∧length a<100000000000∧0≤Int.tmod (c+1) (↑(length a):Int)∧Int.tmod (c+1) (↑(length a):Int)≤(↑(length a):Int))∧(length k=length k∧0<length
 k∧length k<100000000000∧0≤Int.tmod (c+1) (↑(length a):Int)∧Int.tmod (c+1) (↑(length a):Int)≤(↑(length k):Int))∧inR i64 ((↑(length k):Int)-1)=true∧qx (length
 (rotT k zz0)) (leb 0 ((↑(length k):Int)-1)=true∧len' zz1 (length (rotT k zz0))=true∧Cont.size (Cont.ints u8 (rotT k zz0))=length (rotT k zz0)∧Int.toNat ((↑(length k):Int)-
 1)=length (take zz1 (rotT k zz0))∧length (rotT a zz0)=length a∧rotT a zz0=a∧length (rotT a zz0)=length a∧length (rotT a zz0)=length a∧Cont.ints u8 (take zz1 (rotT k zz0))
 =Cont.ints u8 (take (length k-1) k)∧Int.toNat ((↑(length k):Int)-1)=length k-1∧Int.toNat ((↑(length k):Int)-1)=length k-1∧iI 0=0∧True)) (Int.toNat (Int.tmod (c+
 1) (↑(length a):Int)))) (Int.toNat ((↑(length k):Int)-1))):=by kernel_rfl

theorem ob_s9 (ls ks:List Int):fnP (T0) G 10000 fe9 (.r [] 0 (.r [] 0 (.r [] 0 (.ghc 128 0 9001 1 (Cont.ints i64 []) (.ghc 128 1 9002 1 (Cont.ints u8 []) (.lp (l9 ls ks) [] [] (fun b=>(.rs 6 [] 1 11 (.r [] 3 (.cnd (.r [] 6211 (.r [] 0 (.cnd (.r [] 0 (.r [] 1 (.cnd (.r [] 65 (.r [] 25 (.r [] 0 .nil))) (.r [] 25 (.r [] 0 .nil))))) (.r [] 0 .nil)))) (.r [] 1 (.cnd (.r [] 1 (.r [] 3 .nil)) (.r [] 3 .nil))))) (.r [] 3 (.lit (.r [] 1 (.cnd (.r [] 1 (.r [] 3 .nil)) (.r [] 3 .nil))))))))))))) ([.agg [.imm (.ints .u8 ls) ls.length none,.imm (.ints .u8 ks) ks.length none]]) ([.agg [.full 0 (aS ls).length,.full 1 (kS ks ((aS ls).length-1)).length]]) ([blkQ (aS ls),blkK (kS ks ((aS ls).length-1))])=(
 1=1∧qs u8 ls (qs u8 ks (1=1∧1=1∧0=0∧0=0∧0=0∧iL []=[]∧0=0∧iL []=[]∧0=0∧0=0∧0=0∧iI 0=0∧(∃(n:Nat),0=(↑n:Int)∧n≤length ls∧n≤12
 ∧[]=map (fun(x:Int)=>1+Int.tmod x 8) (take n ls)∧[]=kS ks (n-1))∧∀(b:L9),(fun(zz2:Bool)=>(fun(zz1:Int)=>(fun(zz0:Int)=>(∃(n:Nat),b.i=(↑n:Int)∧n
 ≤length ls∧n≤12∧b.a=map (fun(x:Int)=>1+Int.tmod x 8) (take n ls)∧b.k=kS ks (n-1))→(ltb b.i (↑(length ls):Int)=true→(ltb b.i 12=true→rd u8 ls b.i (inR i64
 (Int.tmod zz0 8)=true∧inR i64 (1+Int.tmod zz0 8)=true∧qx (length b.a) (len' ((length b.a+1)*8) 140737488355328=true∧(ltb 0 b.i=true→(leb b.i (↑(length ks):Int)=true
 →inR i64 (b.i-1)=true∧rd u8 ks (b.i-1) (inR u8 (1+Int.tmod zz1 3)=true∧qx (length b.k) (len' ((length b.k+1)*1) 140737488355328=true∧inR i64 (b.i+1)=true∧1=1∧
 qs u8 ls (qs u8 ks (1=1∧1=1∧length b.a+1=length (b.a++[1+Int.tmod zz0 8])∧length b.k+1=length (b.k++[1+Int.tmod zz1 3])∧length b.a+1=length (b.a++[1+
 Int.tmod zz0 8])∧b.a++[1+Int.tmod zz0 8]=b.a++[1+Int.tmod zz0 8]∧length b.k+1=length (b.k++[1+Int.tmod zz1 3])∧b.k++[1+Int.tmod zz1 3]=b.k++[1+Int.tmod zz1
 3]∧0=0∧0=0∧0=0∧b.i+1=b.i+1∧(∃(n:Nat),b.i+1=(↑n:Int)∧n≤length ls∧n≤12∧b.a++[1+Int.tmod zz0 8]=map (fun(x:Int)=>1+Int.tmod x 8) (take n
 ls)∧b.k++[1+Int.tmod zz1 3]=kS ks (n-1))∧length ls-Int.toNat (b.i+1)<length ls-Int.toNat b.i∧True)))))∧(leb b.i (↑(length ks):Int)=false→qx (length b.k) (len'
 ((length b.k+1)*1) 140737488355328=true∧inR i64 (b.i+1)=true∧1=1∧qs u8 ls (qs u8 ks (1=1∧1=1∧length b.a+1=length (b.a++[1+Int.tmod zz0 8])∧length b.k+1
 =length (b.k++[1])∧length b.a+1=length (b.a++[1+Int.tmod zz0 8])∧b.a++[1+Int.tmod zz0 8]=b.a++[1+Int.tmod zz0 8]∧length b.k+1=length (b.k++[1])∧b.k++[1]
 =b.k++[1]∧0=0∧0=0∧0=0∧b.i+1=b.i+1∧(∃(n:Nat),b.i+1=(↑n:Int)∧n≤length ls∧n≤12∧b.a++[1+Int.tmod zz0 8]=map (fun(x:Int)=>1+Int.tmod x 8)
 (take n ls)∧b.k++[1]=kS ks (n-1))∧length ls-Int.toNat (b.i+1)<length ls-Int.toNat b.i∧True)))))∧(ltb 0 b.i=false→inR i64 (b.i+1)=true∧1=1∧qs u8 ls (qs u8
 ks (1=1∧1=1∧length b.a+1=length (b.a++[1+Int.tmod zz0 8])∧qx (length b.k) (length b.a+1=length (b.a++[1+Int.tmod zz0 8])∧b.a++[1+Int.tmod zz0 8]=b.a++[1+
 Int.tmod zz0 8]∧qx (length b.k) (b.k=b.k∧0=0∧0=0∧0=0∧b.i+1=b.i+1∧(∃(n:Nat),b.i+1=(↑n:Int)∧n≤length ls∧n≤12∧b.a++[1+Int.tmod zz0 8]=map
 (fun(x:Int)=>1+Int.tmod x 8) (take n ls)∧b.k=kS ks (n-1))∧length ls-Int.toNat (b.i+1)<length ls-Int.toNat b.i∧True))))))))∧(ltb b.i 12=false→qx (length b.a)
 ((zz2=true→1=length (aS ls)∧[1]=aS ls∧length b.k=length (kS ks (length (aS ls)-1))∧b.k=kS ks (length (aS ls)-1)∧1=length (aS ls)∧length b.k=length (kS ks
 (length (aS ls)-1))∧True)∧(zz2=false→length b.a=length (aS ls)∧b.a=aS ls∧length b.k=length (kS ks (length (aS ls)-1))∧b.k=kS ks (length (aS ls)-1)∧length b.a=
 length (aS ls)∧length b.k=length (kS ks (length (aS ls)-1))∧True))))∧(ltb b.i (↑(length ls):Int)=false→qx (length b.a) ((zz2=true→1=length (aS ls)∧[1]=aS ls∧
 length b.k=length (kS ks (length (aS ls)-1))∧b.k=kS ks (length (aS ls)-1)∧1=length (aS ls)∧length b.k=length (kS ks (length (aS ls)-1))∧True)∧(zz2=false→length
 b.a=length (aS ls)∧b.a=aS ls∧length b.k=length (kS ks (length (aS ls)-1))∧b.k=kS ks (length (aS ls)-1)∧length b.a=length (aS ls)∧length b.k=length (kS ks (length
 (aS ls)-1))∧True)))) (getD (drop (Int.toNat b.i) ls) 0 0)) (getD (drop (Int.toNat (b.i-1)) ks) 0 0)) ((↑(length b.a):Int)==0)))):=by kernel_rfl

theorem ob_s4 (ls ks:List Int)(x:Int):fnP (V4) G 10000 fe4 (.r [] 0 (.r [] 3 (.r [] 35 (.r [] 5 (.r [] 1 (.r [] 0 (.r [] 0 (.ghc 321 0 9001 1 (Cont.ints i64 []) (.ghc 321 1 9002 1 (Cont.ints u8 []) (.lp (l4 (aS ls) (kS ks (length (aS ls)-1))) [] [] (fun b=>(.r [] 1 (.cnd (.r [] 1539 (.r [] 1 (.cnd (.r [] 1 (.r [] 1 (.cnd (.r [] 1539 (.r [] 0 .nil)) (.r [] 0 .nil)))) (.r [] 1 (.r [] 1 (.cnd (.r [] 1539 (.r [] 0 .nil)) (.r [] 0 .nil))))))) (.r [] 1 (.r [] 1 (.cnd (.r [] 0 (.cnd (.r [] 5 (.r [] 199 (.r [] 3 .nil))) (.r [] 263 (.r [] 199 (.r [] 3 .nil))))) (.r [] 795 (.r [] 0 (.cnd (.r [] 519 (.r [] 0 (.r [] 25 (.r [] 199 (.r [] 3 .nil))))) (.r [] 25 (.r [] 199 (.r [] 3 .nil)))))))))))))))))))))) ([.agg [.imm (.ints .u8 ls) ls.length none,.imm (.ints .u8 ks) ks.length none,.int .u8 x]]) ([.agg [.full 0 (rA ls).length,.full 1 (rK ls ks x).length]]) ([blkI (rA ls),blkK (rK ls ks x)])=(
 (fun(zz1:Int)=>(fun(zz0:List Int)=>(fun(zz4:Nat)=>(fun(zz2:Nat)=>leb 0 zz1=true∧len' (Int.toNat zz1) (length ls)=true∧Cont.size (Cont.ints u8 ls)=length ls∧
 (Int.toNat zz1=length zz0∧qx (length ks) ((∀(x:Int),x∈take (Int.toNat zz1) ls→0≤x∧x≤255)∧(∀(x:Int),x∈ks→0≤x∧x≤255)∧length zz0≤12))∧1=1∧qs u8 ls
 (qs u8 ks (x=x∧1=1∧1=1∧qx (Cont.ints u8 zz0) (qx (Int.toNat zz1) (qs u8 ks (length (aS zz0)=length (aS zz0)∧qx (aS zz0) (length (kS ks (length (aS zz0)-1))=length (kS ks
 (length (aS zz0)-1))∧kS ks (length (aS zz0)-1)=kS ks (length (aS zz0)-1)∧1=1∧length (aS zz0)=length (aS zz0)∧length (kS ks (length (aS zz0)-1))=length (kS ks (length
 (aS zz0)-1))∧1=1∧0=0∧0=0∧0=0∧iL []=[]∧0=0∧iL []=[]∧0=0∧0=0∧0=0∧0=0∧iI 0=0∧iI 0=0∧(∃(n:Nat),0=(↑n:Int)∧n≤length (aS ls)∧0
 =gR (raysL (aS ls)) (↑n:Int)∧[]=take n (aS ls)∧[]=take n (kS ks (length (aS ls)-1)))∧∀(b:L4),(fun(zz3:Nat)=>(∃(n:Nat),b.i=(↑n:Int)∧n≤length (aS ls)∧b.s
 =gR (raysL (aS ls)) (↑n:Int)∧b.a=take n (aS ls)∧b.k=take n (kS ks (length (aS ls)-1)))→length (aS zz0)=length (aS zz0)∧(ltb b.i (↑zz4:Int)=true→leb 0 b.i=true∧
 ltb b.i (↑zz4:Int)=true∧length (aS zz0)=length (aS zz0)∧length (aS zz0)=length (aS zz0)∧ltn (Int.toNat b.i) (Cont.size (Cont.ints i64 (aS zz0)))=true∧qx (length b.a) (len'
 ((length b.a+1)*8) 140737488355328=true∧((Int.tmod b.i 2==0)=true→leb 0 b.i=true∧ltb b.i (↑zz4:Int)=true∧length (aS zz0)=length (aS zz0)∧length (aS zz0)=length
 (aS zz0)∧ltn (Int.toNat b.i) (Cont.size (Cont.ints i64 (aS zz0)))=true∧inR i64 (b.s+getD (aS zz0) (Int.toNat b.i) 0)=true∧length (kS ks (length (aS zz0)-1))=length (kS ks
 (length (aS zz0)-1))∧(ltb b.i (↑zz2:Int)=true→leb 0 b.i=true∧ltb b.i (↑zz2:Int)=true∧length (kS ks (length (aS zz0)-1))=length (kS ks (length (aS zz0)-1))∧length
 (kS ks (length (aS zz0)-1))=length (kS ks (length (aS zz0)-1))∧ltn (Int.toNat b.i) (Cont.size (Cont.ints u8 (kS ks (length (aS zz0)-1))))=true∧qx (length b.k) (len' ((length
 b.k+1)*1) 140737488355328=true∧inR i64 (b.i+1)=true∧1=1∧qs u8 ls (qs u8 ks (x=x∧1=1∧1=1∧qx (Cont.ints u8 zz0) (qx (Int.toNat zz1) (qs u8 ks (length (aS zz0)=
 length (aS zz0)∧qx (aS zz0) (length (kS ks (length (aS zz0)-1))=length (kS ks (length (aS zz0)-1))∧kS ks (length (aS zz0)-1)=kS ks (length (aS zz0)-1)∧1=1∧length (aS
 zz0)=length (aS zz0)∧length (kS ks (length (aS zz0)-1))=length (kS ks (length (aS zz0)-1))∧1=1∧length b.a+1=length (b.a++[getD (aS zz0) (Int.toNat b.i) 0])∧length b.k
 +1=length (b.k++[getD (kS ks (length (aS zz0)-1)) (Int.toNat b.i) 0])∧length b.a+1=length (b.a++[getD (aS zz0) (Int.toNat b.i) 0])∧b.a++[getD (aS zz0) (Int.toNat b.i) 0]=
 b.a++[getD (aS zz0) (Int.toNat b.i) 0]∧length b.k+1=length (b.k++[getD (kS ks (length (aS zz0)-1)) (Int.toNat b.i) 0])∧b.k++[getD (kS ks (length (aS zz0)-1)) (Int.toNat
 b.i) 0]=b.k++[getD (kS ks (length (aS zz0)-1)) (Int.toNat b.i) 0]∧0=0∧0=0∧0=0∧0=0∧b.s+getD (aS zz0) (Int.toNat b.i) 0=b.s+getD (aS zz0) (Int.toNat b.i) 0∧b.i
 +1=b.i+1∧(∃(n:Nat),b.i+1=(↑n:Int)∧n≤length (aS ls)∧b.s+getD (aS zz0) (Int.toNat b.i) 0=gR (raysL (aS ls)) (↑n:Int)∧b.a++[getD (aS zz0) (Int.toNat b.i) 0]=
 take n (aS ls)∧b.k++[getD (kS ks (length (aS zz0)-1)) (Int.toNat b.i) 0]=take n (kS ks (length (aS ls)-1)))∧length (aS ls)-Int.toNat (b.i+1)<length (aS ls)-Int.toNat b.i
 ∧True))))))))∧(ltb b.i (↑zz2:Int)=false→inR i64 (b.i+1)=true∧1=1∧qs u8 ls (qs u8 ks (x=x∧1=1∧1=1∧qx (Cont.ints u8 zz0) (qx (Int.toNat zz1) (qs u8 ks (length
 (aS zz0)=length (aS zz0)∧qx (aS zz0) (length (kS ks (length (aS zz0)-1))=length (kS ks (length (aS zz0)-1))∧kS ks (length (aS zz0)-1)=kS ks (length (aS zz0)-1)∧1=1∧
 length (aS zz0)=length (aS zz0)∧length (kS ks (length (aS zz0)-1))=length (kS ks (length (aS zz0)-1))∧1=1∧length b.a+1=length (b.a++[getD (aS zz0) (Int.toNat b.i) 0])∧
 qx (length b.k) (length b.a+1=length (b.a++[getD (aS zz0) (Int.toNat b.i) 0])∧b.a++[getD (aS zz0) (Int.toNat b.i) 0]=b.a++[getD (aS zz0) (Int.toNat b.i) 0]∧qx (length b.k)
 (b.k=b.k∧0=0∧0=0∧0=0∧0=0∧b.s+getD (aS zz0) (Int.toNat b.i) 0=b.s+getD (aS zz0) (Int.toNat b.i) 0∧b.i+1=b.i+1∧(∃(n:Nat),b.i+1=(↑n:Int)∧n≤
 length (aS ls)∧b.s+getD (aS zz0) (Int.toNat b.i) 0=gR (raysL (aS ls)) (↑n:Int)∧b.a++[getD (aS zz0) (Int.toNat b.i) 0]=take n (aS ls)∧b.k=take n (kS ks (length (aS ls)-
 1)))∧length (aS ls)-Int.toNat (b.i+1)<length (aS ls)-Int.toNat b.i∧True))))))))))∧((Int.tmod b.i 2==0)=false→leb 0 b.i=true∧ltb b.i (↑zz4:Int)=true∧length (aS
 zz0)=length (aS zz0)∧length (aS zz0)=length (aS zz0)∧ltn (Int.toNat b.i) (Cont.size (Cont.ints i64 (aS zz0)))=true∧inR i64 (b.s-getD (aS zz0) (Int.toNat b.i) 0)=true∧length
 (kS ks (length (aS zz0)-1))=length (kS ks (length (aS zz0)-1))∧(ltb b.i (↑zz2:Int)=true→leb 0 b.i=true∧ltb b.i (↑zz2:Int)=true∧length (kS ks (length (aS zz0)-1))=
 length (kS ks (length (aS zz0)-1))∧length (kS ks (length (aS zz0)-1))=length (kS ks (length (aS zz0)-1))∧ltn (Int.toNat b.i) (Cont.size (Cont.ints u8 (kS ks (length (aS zz0)-
 1))))=true∧qx (length b.k) (len' ((length b.k+1)*1) 140737488355328=true∧inR i64 (b.i+1)=true∧1=1∧qs u8 ls (qs u8 ks (x=x∧1=1∧1=1∧qx (Cont.ints u8 zz0) (qx
 (Int.toNat zz1) (qs u8 ks (length (aS zz0)=length (aS zz0)∧qx (aS zz0) (length (kS ks (length (aS zz0)-1))=length (kS ks (length (aS zz0)-1))∧kS ks (length (aS zz0)-1)=kS ks
 (length (aS zz0)-1)∧1=1∧length (aS zz0)=length (aS zz0)∧length (kS ks (length (aS zz0)-1))=length (kS ks (length (aS zz0)-1))∧1=1∧length b.a+1=length (b.a++
 [getD (aS zz0) (Int.toNat b.i) 0])∧length b.k+1=length (b.k++[getD (kS ks (length (aS zz0)-1)) (Int.toNat b.i) 0])∧length b.a+1=length (b.a++[getD (aS zz0) (Int.toNat b.i)
 0])∧b.a++[getD (aS zz0) (Int.toNat b.i) 0]=b.a++[getD (aS zz0) (Int.toNat b.i) 0]∧length b.k+1=length (b.k++[getD (kS ks (length (aS zz0)-1)) (Int.toNat b.i) 0])∧b.k++
 [getD (kS ks (length (aS zz0)-1)) (Int.toNat b.i) 0]=b.k++[getD (kS ks (length (aS zz0)-1)) (Int.toNat b.i) 0]∧0=0∧0=0∧0=0∧0=0∧b.s-getD (aS zz0) (Int.toNat b.i) 0
 =b.s-getD (aS zz0) (Int.toNat b.i) 0∧b.i+1=b.i+1∧(∃(n:Nat),b.i+1=(↑n:Int)∧n≤length (aS ls)∧b.s-getD (aS zz0) (Int.toNat b.i) 0=gR (raysL (aS ls)) (↑n:Int)
 ∧b.a++[getD (aS zz0) (Int.toNat b.i) 0]=take n (aS ls)∧b.k++[getD (kS ks (length (aS zz0)-1)) (Int.toNat b.i) 0]=take n (kS ks (length (aS ls)-1)))∧length (aS ls)-
 Int.toNat (b.i+1)<length (aS ls)-Int.toNat b.i∧True))))))))∧(ltb b.i (↑zz2:Int)=false→inR i64 (b.i+1)=true∧1=1∧qs u8 ls (qs u8 ks (x=x∧1=1∧1=1∧qx
 (Cont.ints u8 zz0) (qx (Int.toNat zz1) (qs u8 ks (length (aS zz0)=length (aS zz0)∧qx (aS zz0) (length (kS ks (length (aS zz0)-1))=length (kS ks (length (aS zz0)-1))∧kS ks (length
 (aS zz0)-1)=kS ks (length (aS zz0)-1)∧1=1∧length (aS zz0)=length (aS zz0)∧length (kS ks (length (aS zz0)-1))=length (kS ks (length (aS zz0)-1))∧1=1∧length b.a+1
 =length (b.a++[getD (aS zz0) (Int.toNat b.i) 0])∧qx (length b.k) (length b.a+1=length (b.a++[getD (aS zz0) (Int.toNat b.i) 0])∧b.a++[getD (aS zz0) (Int.toNat b.i) 0]=b.a++
 [getD (aS zz0) (Int.toNat b.i) 0]∧qx (length b.k) (b.k=b.k∧0=0∧0=0∧0=0∧0=0∧b.s-getD (aS zz0) (Int.toNat b.i) 0=b.s-getD (aS zz0) (Int.toNat b.i) 0∧b.i+1=b.i
 +1∧(∃(n:Nat),b.i+1=(↑n:Int)∧n≤length (aS ls)∧b.s-getD (aS zz0) (Int.toNat b.i) 0=gR (raysL (aS ls)) (↑n:Int)∧b.a++[getD (aS zz0) (Int.toNat b.i) 0]=take n (aS
 ls)∧b.k=take n (kS ks (length (aS ls)-1)))∧length (aS ls)-Int.toNat (b.i+1)<length (aS ls)-Int.toNat b.i∧True))))))))))))∧(ltb b.i (↑zz4:Int)=false→qx (length b.a)
 (((Int.tmod (↑(length b.a):Int) 2==0)=true→(ltb 0 b.s=true→inR i64 ((↑(length b.a):Int)-1)=true∧inR i64 ((↑(length b.a):Int)-1)=true∧leb 0 ((↑(length b.a):Int)
 -1)=true∧ltb ((↑(length b.a):Int)-1) (↑(length b.a):Int)=true∧qx (length b.a) (qx (length b.a) (ltn zz3 (Cont.size (Cont.ints i64 b.a))=true∧inR i64 (getD b.a zz3 0+b.s)
 =true∧leb 0 ((↑(length b.a):Int)-1)=true∧ltb ((↑(length b.a):Int)-1) (↑(length b.a):Int)=true∧qx (length b.a) (qx (length b.a) (len' (Int.toNat ((↑(length b.a):Int)-
 1)+1) (Cont.size (Cont.ints i64 b.a))=true∧inR u8 (1+Int.tmod x 3)=true∧qx (length b.k) (len' ((length b.k+1)*1) 140737488355328=true∧length b.a=length (rA ls)∧set
 b.a zz3 (getD b.a zz3 0+b.s)=rA ls∧length b.k+1=length (rK ls ks x)∧b.k++[1+Int.tmod x 3]=rK ls ks x∧length b.a=length (rA ls)∧length b.k+1=length (rK ls ks x)∧
 True))))))∧(ltb 0 b.s=false→ltb 0 (↑(length b.a):Int)=true∧qx (length b.a) (qx (length b.a) (ltn 0 (Cont.size (Cont.ints i64 b.a))=true∧inR i64 (getD b.a 0 0-b.s)=true∧
 ltb 0 (↑(length b.a):Int)=true∧qx (length b.a) (qx (length b.a) (len' 1 (Cont.size (Cont.ints i64 b.a))=true∧inR u8 (1+Int.tmod x 3)=true∧qx (length b.k) (len' ((length b.k+
 1)*1) 140737488355328=true∧length b.a=length (rA ls)∧set b.a 0 (getD b.a 0 0-b.s)=rA ls∧length b.k+1=length (rK ls ks x)∧b.k++[1+Int.tmod x 3]=rK ls ks x∧length
 b.a=length (rA ls)∧length b.k+1=length (rK ls ks x)∧True)))))))∧((Int.tmod (↑(length b.a):Int) 2==0)=false→inR u8 (Int.tdiv x 3)=true∧inR u8 (1+Int.tmod (Int.tdiv x
 3) 3)=true∧qx (length b.k) (len' ((length b.k+1)*1) 140737488355328=true∧(ltb b.s 1=true→ltb 0 (↑(length b.a):Int)=true∧qx (length b.a) (qx (length b.a) (ltn 0
 (Cont.size (Cont.ints i64 b.a))=true∧inR i64 (getD b.a 0 0+1)=true∧inR i64 (getD b.a 0 0+1-b.s)=true∧ltb 0 (↑(length b.a):Int)=true∧qx (length b.a) (qx (length b.a)
 (len' 1 (Cont.size (Cont.ints i64 b.a))=true∧qx (length b.a) (len' ((length b.a+1)*8) 140737488355328=true∧inR u8 (1+Int.tmod x 3)=true∧qx (length b.k+1) (len' ((length
 b.k+1+1)*1) 140737488355328=true∧length b.a+1=length (rA ls)∧set b.a 0 (getD b.a 0 0+1-b.s)++[1]=rA ls∧length b.k+1+1=length (rK ls ks x)∧b.k++[1+
 Int.tmod (Int.tdiv x 3) 3]++[1+Int.tmod x 3]=rK ls ks x∧length b.a+1=length (rA ls)∧length b.k+1+1=length (rK ls ks x)∧True)))))))∧(ltb b.s 1=false→qx (length
 b.a) (len' ((length b.a+1)*8) 140737488355328=true∧inR u8 (1+Int.tmod x 3)=true∧qx (length b.k+1) (len' ((length b.k+1+1)*1) 140737488355328=true∧length b.a+1=
 length (rA ls)∧b.a++[b.s]=rA ls∧length b.k+1+1=length (rK ls ks x)∧b.k++[1+Int.tmod (Int.tdiv x 3) 3]++[1+Int.tmod x 3]=rK ls ks x∧length b.a+1=length (rA ls)
 ∧length b.k+1+1=length (rK ls ks x)∧True)))))))) (Int.toNat ((↑(length b.a):Int)-1))))))))) (length (kS ks (length (aS zz0)-1)))) (length (aS zz0))) (take (Int.toNat zz1) ls))
 (if 7<(↑(length ls):Int)then 7 else(↑(length ls):Int))):=by kernel_rfl

theorem ob_s3 (ls ks:List Int)(x:Int):fnP (V3) G 10000 fe3 (.r [] 0 (.r [] 35 (.r [] 5 (.r [] 899 (.r [] 49 (.r [] 25 (.r [yL 451,yL 452,yL 453,yL 454,yL 455,yL 456,yL 457,yL 458,yL 459,yL 460,yL 461,yL 462,yL 463,yL 464,yL 465,yL 466] 122879 .nil))))))) ([.agg [.imm (.ints .u8 ls) ls.length none,.imm (.ints .u8 ks) ks.length none,.int .u8 x]]) ([.bool true]) ([])=(
 (fun(zz1:Int)=>(fun(zz0:List Int)=>(fun(zz2:List Int)=>leb 0 zz1=true∧len' (Int.toNat zz1) (length ls)=true∧Cont.size (Cont.ints u8 ls)=length ls∧(Int.toNat zz1=
 length zz0∧qx (length ks) ((∀(x:Int),x∈take (Int.toNat zz1) ls→0≤x∧x≤255)∧(∀(x:Int),x∈ks→0≤x∧x≤255)∧length zz0≤5∧0≤x∧x≤255))∧length (rK zz0 ks
 x)=length (rK zz0 ks x)∧inR i64 ((↑(length (rK zz0 ks x)):Int)-1)=true∧length (rA zz0)=length (rA zz0)∧length (rK zz0 ks x)=length (rK zz0 ks x)∧(length (rA zz0)=length
 (rA zz0)∧length (rK zz0 ks x)=length (rK zz0 ks x)∧okRing (rA zz0) (rK zz0 ks x)∧(↑(length (rK zz0 ks x)):Int)-1=(↑(length (rK zz0 ks x)):Int)-1)∧length (rA zz0)=length
 (rA zz0)∧length (rK zz0 ks x)=length (rK zz0 ks x)∧(length (rA zz0)=length (rA zz0)∧length (rK zz0 ks x)=length (rK zz0 ks x)∧okRing (rA zz0) (rK zz0 ks x))∧length (rA zz0)=
 length (rA zz0)∧(length (rA zz0)=length (rA zz0)∧length (rK zz0 ks x)-1=length zz2∧okStrip (rA zz0) zz2)∧leb (↑(length (rwL (rA zz0) (rK zz0 ks x))):Int) (↑(length (swL (rA
 zz0) zz2)):Int)=true∧true=true∧True) (take (length (rK zz0 ks x)-1) (rK zz0 ks x))) (take (Int.toNat zz1) ls)) (if 5<(↑(length ls):Int)then 5 else(↑(length ls):Int))):=by kernel_rfl

end Go.Proofs.Ythiammkiobbclaa.X

/-
 What is to be shown of the functions (made by a program).
-/
set_option maxRecDepth 1000000
set_option linter.unusedVariables false
namespace Go.Proofs.Ythiammkiobbclaa.X
open Go Go.Ab
open List IntKind

theorem ob_s52 (a k o:List Int):fnP (U52) G 10000 fe52 (.r [] 0 (.r [] 29 (.r [] 0 (.lit (.r [] 2 (.r [] 3 (.cnd (.r [] 0 .nil) (.r [] 1 (.lp (ls52 k (rzF o)) [] [] (fun b=>(.r [] 0 (.cnd (.r [] 0 (.rs 3 [] 0 34 (.r [] 13 (.cnd (.r [] 0 .nil) (.r [] 0 .nil))) (.r [] 3 (.lit (.r [] 0 .nil))))) (.r [] 0 .nil))))))))))))) ([.agg [.imm (.ints .i64 a) a.length none,.imm (.ints .u8 k) k.length none],immN .i64 o]) ([.int .i64 (chkP a k o)]) ([])=(
 (length a=length a∧length k=length k∧length o=length o∧okStrip a k∧List.Perm o (idO (length a)))∧(length o=length o∧okO o)∧(cok a k (raysL a) (length a) (length k)
 (length (raysL a))∧length a=length k+1∧length a≤8∧length (raysL a)=length a+1)∧(crS (length k) (length a) (raysL a) [rzO o 0,rzO o 1,rzO o 2,rzO o 3,rzO o 4,rzO o 5,
 rzO o 6,rzO o 7]=true→12=chkP a k o∧True)∧(crS (length k) (length a) (raysL a) [rzO o 0,rzO o 1,rzO o 2,rzO o 3,rzO o 4,rzO o 5,rzO o 6,rzO o 7]=false→1=1∧qs i64 a
 (qs u8 k (1=1∧qs i64 a (qs u8 k (qs i64 (raysL a) (qx (length a+1) (32=32∧[rzO o 0,rzO o 1,rzO o 2,rzO o 3,rzO o 4,rzO o 5,rzO o 6,rzO o 7,0,0,0,0,0,0,0,0,0,0,0,
 0,0,0,0,0,0,0,0,0,0,0,0,0]=[rzO o 0,rzO o 1,rzO o 2,rzO o 3,rzO o 4,rzO o 5,rzO o 6,rzO o 7,0,0,0,0,0,0,0,0,0,0,0,0,0,0,0,0,0,0,0,0,0,0,0,0]∧0
 =0∧qs u8 k (ql k (iI 0=0∧(∃(m:Nat),0=(↑m:Int)∧m≤length k∧∀(j:Nat),j<m→wr1 k (rzF o) (↑j:Int)=false)∧∀(b:L83),(fun(zz1:Prop)=>(fun(zz0:Bool)=>
 (∃(m:Nat),b.i=(↑m:Int)∧m≤length k∧∀(j:Nat),j<m→wr1 k (rzF o) (↑j:Int)=false)→(ltb b.i (↑(length k):Int)=true→rd u8 k b.i (((getD (drop (Int.toNat b.i) k) 0
 0 !=3)=true→(0≤b.i∧b.i<7)∧(zz0=true→13=chkP a k o∧True)∧(zz0=false→inR i64 (b.i+1)=true∧1=1∧qs i64 a (qs u8 k (1=1∧qs i64 a (qs u8 k (qs i64 (raysL
 a) (qx (length a+1) (32=32∧[rzO o 0,rzO o 1,rzO o 2,rzO o 3,rzO o 4,rzO o 5,rzO o 6,rzO o 7,0,0,0,0,0,0,0,0,0,0,0,0,0,0,0,0,0,0,0,0,0,0,0,0]=[rzO o 0,
 rzO o 1,rzO o 2,rzO o 3,rzO o 4,rzO o 5,rzO o 6,rzO o 7,0,0,0,0,0,0,0,0,0,0,0,0,0,0,0,0,0,0,0,0,0,0,0,0]∧0=0∧qs u8 k (ql k (b.i+1=b.i+1∧zz1∧
 length k-Int.toNat (b.i+1)<length k-Int.toNat b.i∧True))))))))))∧((getD (drop (Int.toNat b.i) k) 0 0 !=3)=false→inR i64 (b.i+1)=true∧1=1∧qs i64 a (qs u8 k (1=1∧
 qs i64 a (qs u8 k (qs i64 (raysL a) (qx (length a+1) (32=32∧[rzO o 0,rzO o 1,rzO o 2,rzO o 3,rzO o 4,rzO o 5,rzO o 6,rzO o 7,0,0,0,0,0,0,0,0,0,0,0,0,0,0,0,0,0,
 0,0,0,0,0,0,0]=[rzO o 0,rzO o 1,rzO o 2,rzO o 3,rzO o 4,rzO o 5,rzO o 6,rzO o 7,0,0,0,0,0,0,0,0,0,0,0,0,0,0,0,0,0,0,0,0,0,0,0,0]∧0=0∧qs u8 k (ql
 k (b.i+1=b.i+1∧zz1∧length k-Int.toNat (b.i+1)<length k-Int.toNat b.i∧True)))))))))))∧(ltb b.i (↑(length k):Int)=false→0=chkP a k o∧True)) (getD (drop
 (Int.toNat b.i) k) 0 0 !=kdS [rzO o 0,rzO o 1,rzO o 2,rzO o 3,rzO o 4,rzO o 5,rzO o 6,rzO o 7] b.i)) (∃(m:Nat),b.i+1=(↑m:Int)∧m≤length k∧∀(j:Nat),j<m→wr1 k
 (rzF o) (↑j:Int)=false))))))))))):=by kernel_rfl

theorem ob_s35 (a k o:List Int):fnP (U35) G 10000 fe35 (.r [] 0 (.r [] 29 (.r [] 0 (.lit (.jn (j35 o) [7,21] [] (.r [] 2 .nil) (fun b=>(.r [] 3 (.r [] 0 (.lp (l35 (raysL a) o) [] [] (fun b_1=>(.r [] 0 (.cnd (.r [] 0 (.lp (m35 (raysL a) o b_1.o b_1.t) [] [] (fun b_2=>(.r [] 0 (.cnd (.r [] 0 (.r [] 0 (.r [] 0 (.lp (n35 (raysL a) o b_1.o b_2.i) [] [] (fun b_3=>(.r [] 0 (.cnd (.r [] 0 (.br (b_3.f) (.br (memB b_1.o b_3.k) (.r [yO 1026,yO 1027,yO 1028,yO 1029,(1030,.off,Dr.plain),(1031,.off,Dr.plain),(1032,.off,Dr.plain),(1033,.off,Dr.plain),(1034,.off,Dr.plain),(1035,.off,Dr.plain),(1036,.off,Dr.plain),(1037,.on,Dr.pk true),yO 1038,(1039,.off,Dr.plain),(1040,.off,Dr.plain),(1041,.off,Dr.plain),(1042,.off,Dr.plain),(1043,.off,Dr.plain),(1044,.on,Dr.pk true),(1045,.auto,Dr.pk true)] 1593475072 (.r [] 0 .nil)) (.br (leb (gR (rkF o) b_2.i) (gR (rkF o) b_3.k)) (.r [yO 1026,yO 1027,yO 1028,yO 1029,yO 1030,yO 1031,yO 1032,yO 1033,yO 1034,yO 1035,yO 1036,(1037,.on,Dr.pk false),yO 1038,(1039,.off,Dr.plain),(1040,.off,Dr.plain),(1041,.off,Dr.plain),(1042,.off,Dr.plain),(1043,.off,Dr.plain),(1044,.on,Dr.pk true),(1045,.auto,Dr.pk true)] 96647249920 (.r [] 0 .nil)) (.r [yO 1026,yO 1027,yO 1028,yO 1029,yO 1030,yO 1031,yO 1032,yO 1033,yO 1034,yO 1035,yO 1036,(1037,.on,Dr.pk false),yO 1038,yO 1039,yO 1040,yO 1041,yO 1042,yO 1043,(1044,.on,Dr.pk false),(1045,.auto,Dr.pk true)] 386624651264 (.r [] 0 .nil)))) (.r [(1026,.off,Dr.plain),(1027,.off,Dr.plain),(1028,.off,Dr.plain),(1029,.off,Dr.plain),(1030,.off,Dr.plain),(1031,.off,Dr.plain),(1032,.off,Dr.plain),(1033,.off,Dr.plain),(1034,.off,Dr.plain),(1035,.off,Dr.plain),(1036,.off,Dr.plain),(1037,.off,Dr.plain),(1038,.off,Dr.plain),(1039,.off,Dr.plain),(1040,.off,Dr.plain),(1041,.off,Dr.plain),(1042,.off,Dr.plain),(1043,.off,Dr.plain),(1044,.off,Dr.plain),(1045,.auto,Dr.pk false)] 2877424 (.r [] 0 .nil)))) (.r [] 0 (.cnd (.r [] 0 (.r [(1283,.auto,Dr.pk true)] 8 .nil)) (.r [] 0 .nil)))))))))) .nil))))) (.r [] 0 (.frz 4 0 .nil)))))))))))))) ([.agg [.imm (.ints .i64 a) a.length none,.imm (.ints .u8 k) k.length none],immN .i64 o]) ([immL .i64 (leastL (raysL a) o),.int .i64 0]) ([])=(
 (length a=length a∧length k=length k∧length o=length o∧okStrip a k∧List.Perm o (idO (length a)))∧((length o=length o∧okO o)∧1=1∧qs i64 a (qs u8 k (1=1∧qs i64 a
 (qs u8 k (qs i64 (raysL a) (qx (length a+1) (32=32∧[rzO o 0,rzO o 1,rzO o 2,rzO o 3,rzO o 4,rzO o 5,rzO o 6,rzO o 7,0,0,0,0,0,0,0,0,0,0,0,0,0,0,0,0,0,0,0,0,
 0,0,0,0]=rzG o∧qs i64 o (0=0∧0=0∧True∧True))))))))∧∀(b:Unit),True→leb ((↑(length o):Int)*8) 140737488355328=true∧1=1∧qs i64 a (qs u8 k (1=1∧qs i64 a
 (qs u8 k (qs i64 (raysL a) (qx (length a+1) (32=32∧rzG o=rzG o∧0=0∧Int.toNat (↑(length o):Int)=length o∧iL []=[]∧32=32∧[false,false,false,false,false,false,
 false,false,false,false,false,false,false,false,false,false,false,false,false,false,false,false,false,false,false,false,false,false,false,false,false,false]=
 [false,false,false,false,false,false,false,false,false,false,false,false,false,false,false,false,false,false,false,false,false,false,false,false,false,false,false,
 false,false,false,false,false]∧qs i64 o (0=0∧0=0∧0=0∧0=0∧(∃(m:Nat),m≤length o∧[]=lstN (raysL a) (rkF o) (length o) m∧[false,false,false,false,false,
 false,false,false,false,false,false,false,false,false,false,false,false,false,false,false,false,false,false,false,false,false,false,false,false,false,false,false]=
 [false,false,false,false,false,false,false,false,false,false,false,false,false,false,false,false,false,false,false,false,false,false,false,false,false,false,false,
 false,false,false,false,false])∧∀(b_1:L42),(fun(zz1:Prop)=>zz1→qx (length b_1.o) ((ltb (↑(length b_1.o):Int) (↑(length o):Int)=true→1=1∧qs i64 a (qs u8 k (1=1
 ∧qs i64 a (qs u8 k (qs i64 (raysL a) (qx (length a+1) (32=32∧rzG o=rzG o∧qx (length b_1.o) (length o=length o∧b_1.o=b_1.o∧32=32∧b_1.t=b_1.t∧qs i64 o (0=0∧0=0
 ∧qx (length b_1.o) (0=0∧ql o (iI 0=0∧(∃(m:Nat),0=(↑m:Int)∧m≤length o∧∀(j:Nat),j<m→frK (raysL a) (rkF o) b_1.o (↑j:Int) (length o)=false)∧∀(b_2:L83),
 (fun(zz6:Nat)=>(fun(zz2:Int)=>(∃(m:Nat),b_2.i=(↑m:Int)∧m≤length o∧∀(j:Nat),j<m→frK (raysL a) (rkF o) b_1.o (↑j:Int) (length o)=false)→(ltb b_2.i
 (↑(length o):Int)=true→leb 0 b_2.i=true∧ltb b_2.i 32=true∧ltn zz6 (Cont.size (Cont.bools b_1.t))=true∧1=1∧qs i64 a (qs u8 k (1=1∧qs i64 a (qs u8 k (qs i64 (raysL a)
 (qx (length a+1) (32=32∧rzG o=rzG o∧qx (length b_1.o) (length o=length o∧b_1.o=b_1.o∧32=32∧b_1.t=b_1.t∧qs i64 o (0=0∧0=0∧qx (length b_1.o) (0=0∧ql o
 (b_2.i=b_2.i∧b_2.i=b_2.i∧(!getD b_1.t zz6 false)= !getD b_1.t zz6 false∧ql o (iI 0=0∧(∃(m:Nat),0=(↑m:Int)∧m≤length o∧(!getD b_1.t zz6 false)=frK (raysL a) (rkF
 o) b_1.o b_2.i m)∧∀(b_3:N60),(fun(zz7:Prop)=>(fun(zz0:Nat)=>(fun(zz5:Bool)=>(fun(zz4:Int)=>(fun(zz3:Bool)=>(∃(m:Nat),b_3.k=(↑m:Int)∧m≤length o∧
 b_3.f=frK (raysL a) (rkF o) b_1.o b_2.i m)→(ltb b_3.k (↑(length o):Int)=true→(b_3.f=true→(memB b_1.o b_3.k=true→b_3.f=true∧b_3.f=true∧leb 0 b_3.k=true∧ltb b_3.k
 32=true∧b_3.f=true∧ltn zz0 (Cont.size (Cont.bools b_1.t))=true∧b_3.f=true∧zz5=true∧zz5=true∧zz5=true∧zz5=true∧zz5=true∧zz5=true∧zz5=true∧b_3.f=
 true∧getD b_1.t zz0 false=true∧b_3.f=true∧b_3.f=true∧b_3.f=true∧inR i64 (b_3.k+1)=true∧1=1∧qs i64 a (qs u8 k (1=1∧qs i64 a (qs u8 k (qs i64 (raysL a) (qx
 (length a+1) (32=32∧rzG o=rzG o∧qx (length b_1.o) (length o=length o∧b_1.o=b_1.o∧32=32∧b_1.t=b_1.t∧qs i64 o (0=0∧0=0∧qx (length b_1.o) (0=0∧ql o (b_2.i
 =b_2.i∧b_2.i=b_2.i∧true=true∧ql o (qx (b_3.k+1) (zz7∧length o-Int.toNat (b_3.k+1)<length o-Int.toNat b_3.k∧True)))))))))))))∧(memB b_1.o b_3.k=false→(leb (gR
 (rkF o) b_2.i) (gR (rkF o) b_3.k)=true→b_3.f=true∧b_3.f=true∧leb 0 b_3.k=true∧ltb b_3.k 32=true∧b_3.f=true∧ltn zz0 (Cont.size (Cont.bools b_1.t))=true∧b_3.f=
 true∧zz3=true∧zz3=true∧leb 0 b_3.k=true∧ltb b_3.k 32=true∧zz3=true∧ltn zz0 (Cont.size (Cont.ints i64 (rzG o)))=true∧zz3=true∧zz3=true∧leb 0 b_2.i=true∧
 ltb b_2.i 32=true∧zz3=true∧ltn zz6 (Cont.size (Cont.ints i64 (rzG o)))=true∧zz3=true∧b_3.f=true∧zz3=true∧b_3.f=true∧(!!leb zz2 zz4)=true∧(!!leb zz2 zz4)=
 true∧(!!leb zz2 zz4)=true∧(!!leb zz2 zz4)=true∧(!!leb zz2 zz4)=true∧b_3.f=true∧leb zz2 zz4=true∧b_3.f=true∧inR i64 (b_3.k+1)=true∧1=1∧qs i64 a (qs u8 k (1
 =1∧qs i64 a (qs u8 k (qs i64 (raysL a) (qx (length a+1) (32=32∧rzG o=rzG o∧qx (length b_1.o) (length o=length o∧b_1.o=b_1.o∧32=32∧b_1.t=b_1.t∧qs i64 o (0=0∧0
 =0∧qx (length b_1.o) (0=0∧ql o (b_2.i=b_2.i∧b_2.i=b_2.i∧true=true∧ql o (qx (b_3.k+1) (zz7∧length o-Int.toNat (b_3.k+1)<length o-Int.toNat b_3.k∧
 True)))))))))))))∧(leb (gR (rkF o) b_2.i) (gR (rkF o) b_3.k)=false→b_3.f=true∧b_3.f=true∧leb 0 b_3.k=true∧ltb b_3.k 32=true∧b_3.f=true∧ltn zz0 (Cont.size
 (Cont.bools b_1.t))=true∧b_3.f=true∧zz3=true∧zz3=true∧leb 0 b_3.k=true∧ltb b_3.k 32=true∧zz3=true∧ltn zz0 (Cont.size (Cont.ints i64 (rzG o)))=true∧zz3=true
 ∧zz3=true∧leb 0 b_2.i=true∧ltb b_2.i 32=true∧zz3=true∧ltn zz6 (Cont.size (Cont.ints i64 (rzG o)))=true∧zz3=true∧b_3.f=true∧zz3=true∧b_3.f=true∧(!leb zz2
 zz4)=true∧(!leb zz2 zz4)=true∧(!leb zz2 zz4)=true∧(!leb zz2 zz4)=true∧(cok a k (raysL a) (length a) (length k) (length (raysL a))∧0≤b_2.i∧b_2.i+1<(↑(length (raysL
 a)):Int)∧0≤b_3.k∧b_3.k+1<(↑(length (raysL a)):Int)∧length (raysL a)≤9)∧(!leb zz2 zz4)=true∧b_3.f=true∧(!leb zz2 zz4)=true∧b_3.f=true∧inR i64 (b_3.k+1)=
 true∧1=1∧qs i64 a (qs u8 k (1=1∧qs i64 a (qs u8 k (qs i64 (raysL a) (qx (length a+1) (32=32∧rzG o=rzG o∧qx (length b_1.o) (length o=length o∧b_1.o=b_1.o∧32=32∧
 b_1.t=b_1.t∧qs i64 o (0=0∧0=0∧qx (length b_1.o) (0=0∧ql o (b_2.i=b_2.i∧b_2.i=b_2.i∧(!ovS (raysL a) b_2.i b_3.k)= !ovS (raysL a) b_2.i b_3.k∧ql o (qx (b_3.k+1)
 ((∃(m:Nat),b_3.k+1=(↑m:Int)∧m≤length o∧(!ovS (raysL a) b_2.i b_3.k)=frK (raysL a) (rkF o) b_1.o b_2.i m)∧length o-Int.toNat (b_3.k+1)<length o-Int.toNat b_3.k∧
 True)))))))))))))))∧(b_3.f=false→(!b_3.f)=true∧(!b_3.f)=true∧(!b_3.f)=true∧(!b_3.f)=true∧(!b_3.f)=true∧(!b_3.f)=true∧(!b_3.f)=true∧(!b_3.f)=true∧inR i64
 (b_3.k+1)=true∧1=1∧qs i64 a (qs u8 k (1=1∧qs i64 a (qs u8 k (qs i64 (raysL a) (qx (length a+1) (32=32∧rzG o=rzG o∧qx (length b_1.o) (length o=length o∧b_1.o=
 b_1.o∧32=32∧b_1.t=b_1.t∧qs i64 o (0=0∧0=0∧qx (length b_1.o) (0=0∧ql o (b_2.i=b_2.i∧b_2.i=b_2.i∧false=false∧ql o (qx (b_3.k+1) ((∃(m:Nat),b_3.k+1=
 (↑m:Int)∧m≤length o∧false=frK (raysL a) (rkF o) b_1.o b_2.i m)∧length o-Int.toNat (b_3.k+1)<length o-Int.toNat b_3.k∧True))))))))))))))∧(ltb b_3.k (↑(length o):Int)
 =false→(b_3.f=true→leb 0 b_2.i=true∧ltb b_2.i 32=true∧len' (Int.toNat b_2.i+1) (Cont.size (Cont.bools b_1.t))=true∧qx (length b_1.o) (len' ((length b_1.o+1)*8)
 140737488355328=true∧len' (length b_1.o+1) (length o)=true∧1=1∧qs i64 a (qs u8 k (1=1∧qs i64 a (qs u8 k (qs i64 (raysL a) (qx (length a+1) (32=32∧rzG o=rzG o∧
 length b_1.o+1=length (b_1.o++[b_2.i])∧length o=length o∧b_1.o++[b_2.i]=b_1.o++[b_2.i]∧32=32∧qx (set b_1.t zz6 true) (qs i64 o (0=0∧0=0∧length b_1.o+1=
 length (b_1.o++[b_2.i])∧0=0∧(∃(m:Nat),m≤length o∧b_1.o++[b_2.i]=lstN (raysL a) (rkF o) (length o) m∧set b_1.t zz6 true=[memB (b_1.o++[b_2.i]) 0,memB (b_1.o++
 [b_2.i]) 1,memB (b_1.o++[b_2.i]) 2,memB (b_1.o++[b_2.i]) 3,memB (b_1.o++[b_2.i]) 4,memB (b_1.o++[b_2.i]) 5,memB (b_1.o++[b_2.i]) 6,memB (b_1.o++[b_2.i]) 7,memB (b_1.o++
 [b_2.i]) 8,memB (b_1.o++[b_2.i]) 9,memB (b_1.o++[b_2.i]) 10,memB (b_1.o++[b_2.i]) 11,memB (b_1.o++[b_2.i]) 12,memB (b_1.o++[b_2.i]) 13,memB (b_1.o++[b_2.i]) 14,memB (b_1.o
 ++[b_2.i]) 15,memB (b_1.o++[b_2.i]) 16,memB (b_1.o++[b_2.i]) 17,memB (b_1.o++[b_2.i]) 18,memB (b_1.o++[b_2.i]) 19,memB (b_1.o++[b_2.i]) 20,memB (b_1.o++[b_2.i]) 21,memB
 (b_1.o++[b_2.i]) 22,memB (b_1.o++[b_2.i]) 23,memB (b_1.o++[b_2.i]) 24,memB (b_1.o++[b_2.i]) 25,memB (b_1.o++[b_2.i]) 26,memB (b_1.o++[b_2.i]) 27,memB (b_1.o++[b_2.i]) 28,
 memB (b_1.o++[b_2.i]) 29,memB (b_1.o++[b_2.i]) 30,memB (b_1.o++[b_2.i]) 31])∧length o-length (b_1.o++[b_2.i])<length o-length b_1.o∧True))))))))))∧(b_3.f=false→inR
 i64 (b_2.i+1)=true∧1=1∧qs i64 a (qs u8 k (1=1∧qs i64 a (qs u8 k (qs i64 (raysL a) (qx (length a+1) (32=32∧rzG o=rzG o∧qx (length b_1.o) (length o=length o∧b_1.o=
 b_1.o∧32=32∧b_1.t=b_1.t∧qs i64 o (0=0∧0=0∧qx (length b_1.o) (0=0∧ql o (qx (b_2.i+1) ((∃(m:Nat),b_2.i+1=(↑m:Int)∧m≤length o∧∀(j:Nat),j<m→frK
 (raysL a) (rkF o) b_1.o (↑j:Int) (length o)=false)∧length o-Int.toNat (b_2.i+1)<length o-Int.toNat b_2.i∧True)))))))))))))) (!getD b_1.t zz0 false)) (getD (rzG o) zz0 0))
 (!!getD b_1.t zz0 false)) (Int.toNat b_3.k)) (∃(m:Nat),b_3.k+1=(↑m:Int)∧m≤length o∧true=frK (raysL a) (rkF o) b_1.o b_2.i m)))))))))))))∧(ltb b_2.i (↑(length o):Int)=
 false→1=1∧qs i64 a (qs u8 k (1=1∧qs i64 a (qs u8 k (qs i64 (raysL a) (qx (length a+1) (32=32∧rzG o=rzG o∧qx (length b_1.o) (length o=length o∧b_1.o=b_1.o∧32=32
 ∧b_1.t=b_1.t∧qs i64 o (0=0∧0=0∧qx (length b_1.o) (0=0∧zz1∧length o-length b_1.o<length o-length b_1.o∧True))))))))))) (getD (rzG o) zz6 0)) (Int.toNat
 b_2.i))))))))))))∧(ltb (↑(length b_1.o):Int) (↑(length o):Int)=false→qx (length b_1.o) (Cont.ints i64 b_1.o=Cont.ints i64 (leastL (raysL a) o)∧length b_1.o=length (leastL
 (raysL a) o)∧length o=length (leastL (raysL a) o)∧iI 0=0∧True)))) (∃(m:Nat),m≤length o∧b_1.o=lstN (raysL a) (rkF o) (length o) m∧b_1.t=[memB b_1.o 0,memB b_1.o 1,
 memB b_1.o 2,memB b_1.o 3,memB b_1.o 4,memB b_1.o 5,memB b_1.o 6,memB b_1.o 7,memB b_1.o 8,memB b_1.o 9,memB b_1.o 10,memB b_1.o 11,memB b_1.o 12,memB b_1.o 13,memB b_1.o 14,
 memB b_1.o 15,memB b_1.o 16,memB b_1.o 17,memB b_1.o 18,memB b_1.o 19,memB b_1.o 20,memB b_1.o 21,memB b_1.o 22,memB b_1.o 23,memB b_1.o 24,memB b_1.o 25,memB b_1.o 26,memB b_1.o
 27,memB b_1.o 28,memB b_1.o 29,memB b_1.o 30,memB b_1.o 31]))))))))):=by kernel_rfl

theorem ob_d_51 (a k o:List Int)(L:List (List Int)):fnD (T51 a k (o.length+1)) G 10000 (fe51) (.r [] 0 (.r [] 0 (.r [] 1 (.cnd (.r [(258,.auto,Dr.heap)] 1 .nil) (.r [] 613 (.r [] 0 (.lp (lr51 a k o L) [] [] (fun b=>(.r [] 0 (.cnd (.r [] 0 (.r [(581,.auto,Dr.heap)] 0 (.rs 5 [] 1 45 (.r [(647,.auto,Dr.heap)] 13 (.lit (.r [] 0 .nil))) (.r [(647,.auto,Dr.heap)] 3 (.lit (.r [] 0 .nil)))))) (.r [] 0 .nil))))))))))) ([immN .i64 o,.iptr (stpF a k),.ptr 64 0,.ptr 128 0]) (hS a k L) ([.bool true]) (wY (grO a k L o))=(
 (fun(zz1:Nat)=>(fun(zz0:Nat)=>(((↑(length o):Int)==(↑(length a):Int))=true→([(9700,HO.blk (Blk.mk (Cont.vals (outV L)) 1 (length L) none (some true) true false)),(192,
 HO.blk (Blk.mk (Cont.cells [AV.full 9700 (length L)]) 1 1 none (some false) true true)),(9128,HO.blk (Blk.mk (Cont.maps (MV.mk true [some i64,some i64,some i64,some i64,some i64,some
 i64,some i64,some i64]) (MV.mk false [none]) (fpE L) (fpK L)) 1 0 none (some false) true true)),(129,HO.blk (Blk.mk (Cont.cells [AV.mp 9128]) 1 1 none (some false) true true)),(9064,
 HO.blk (Blk.mk (Cont.cells [AV.imm (Cont.ints i64 a) (length a) none,AV.imm (Cont.ints u8 k) (length k) none]) 2 1 none (some false) true true)),(9005,HO.loop (LoopS.mk 0 none [(1,AV.ptr
 9064 0),(3,AV.ptr 129 0),(4,AV.ptr 192 0),(11,AV.fn 50 [] [AV.iptr (Cont.vals [AV.imm (Cont.ints i64 a) (length a) none,AV.imm (Cont.ints u8 k) (length k) none])])] 35 [12] as19
 bd19))]=[(9700,HO.blk (Blk.mk (Cont.vals (outV (unO (outV L)))) 1 (length (unO (outV L))) none (some true) true false)),(192,HO.blk (Blk.mk (Cont.cells [AV.full 9700 (length (unO (outV
 L)))]) 1 1 none (some false) true true)),(9128,HO.blk (Blk.mk (Cont.maps (MV.mk true [some i64,some i64,some i64,some i64,some i64,some i64,some i64,some i64]) (MV.mk false [none])
 (fpE (unO (outV L))) (fpK (unO (outV L)))) 1 0 none (some false) true true)),(129,HO.blk (Blk.mk (Cont.cells [AV.mp 9128]) 1 1 none (some false) true true)),(9064,HO.blk (Blk.mk
 (Cont.cells [AV.imm (Cont.ints i64 a) (length a) none,AV.imm (Cont.ints u8 k) (length k) none]) 2 1 none (some false) true true)),(9005,HO.loop (LoopS.mk 0 none [(1,AV.ptr 9064 0),(3,
 AV.ptr 129 0),(4,AV.ptr 192 0),(11,AV.fn 50 [] [AV.iptr (Cont.vals [AV.imm (Cont.ints i64 a) (length a) none,AV.imm (Cont.ints u8 k) (length k) none])])] 35 [12] as19 bd19))]∧length o
 =length o∧List.Perm o (idO (length a))∧okL a (unO (outV L))∧okStrip a k)∧1=1∧Cont.vals [AV.imm (Cont.ints i64 a) (length a) none,AV.imm (Cont.ints u8 k) (length k) none]=
 Cont.vals [AV.imm (Cont.ints i64 a) (length a) none,AV.imm (Cont.ints u8 k) (length k) none]∧0=0∧0=0∧length (addS a (unO (outV L)) o)=length (grO a k L o)∧outV (addS a (unO
 (outV L)) o)=outV (grO a k L o)∧1=1∧length (addS a (unO (outV L)) o)=length (grO a k L o)∧0=0∧fpE (addS a (unO (outV L)) o)=fpE (grO a k L o)∧fpK (addS a (unO (outV L))
 o)=fpK (grO a k L o)∧1=1∧1=1∧qs i64 a (qs u8 k (0=0∧(none:Option Ex)=none∧35=35∧[12]=[12]∧as19=as19∧bd19=bd19∧0=0∧0=0∧0=0∧Cont.vals [AV.imm
 (Cont.ints i64 a) (length a) none,AV.imm (Cont.ints u8 k) (length k) none]=Cont.vals [AV.imm (Cont.ints i64 a) (length a) none,AV.imm (Cont.ints u8 k) (length k) none]∧1=1∧true=
 true∧True)))∧(((↑(length o):Int)==(↑(length a):Int))=false→inR i64 ((↑(length o):Int)+1)=true∧len' zz0 (length a)=true∧Cont.size (Cont.ints i64 a)=length a∧len'
 zz1 (length k)=true∧Cont.size (Cont.ints u8 k)=length k∧inR i64 ((↑(length o):Int)+1)=true∧1=1∧Cont.vals [AV.imm (Cont.ints i64 a) (length a) none,AV.imm (Cont.ints u8
 k) (length k) none]=Cont.vals [AV.imm (Cont.ints i64 a) (length a) none,AV.imm (Cont.ints u8 k) (length k) none]∧0=0∧0=0∧length L=length (unO (outV L))∧outV L=outV (unO
 (outV L))∧1=1∧length L=length (unO (outV L))∧0=0∧fpE L=fpE (unO (outV L))∧fpK L=fpK (unO (outV L))∧1=1∧1=1∧qs i64 a (qs u8 k (0=0∧(none:Option Ex)=none
 ∧35=35∧[12]=[12]∧as19=as19∧bd19=bd19∧0=0∧0=0∧0=0∧Cont.vals [AV.imm (Cont.ints i64 a) (length a) none,AV.imm (Cont.ints u8 k) (length k) none]=Cont.vals
 [AV.imm (Cont.ints i64 a) (length a) none,AV.imm (Cont.ints u8 k) (length k) none]∧1=1∧1=1∧qx (Cont.ints i64 (take zz0 a)) (qx zz0 (qx (Cont.ints u8 (take zz1 k)) (qx zz1 (qs i64
 o (0=0∧ql o (0=0∧qx ((↑(length o):Int)+1) (iI 0=0∧(∃(m:Nat),0=(↑m:Int)∧m≤length o+1∧unO (outV L)=grM a k L o m∧okL a (unO (outV L)))∧∀(b:L58),(fun
 (zz3:Nat)=>(fun(zz2:Bool)=>(∃(m:Nat),b.i=(↑m:Int)∧m≤length o+1∧b.L=grM a k L o m∧okL a b.L)→(ltb b.i ((↑(length o):Int)+1)=true→(length o=length o∧
 0<length o∧length o<100000000000)∧([(580,HO.blk (Blk.mk (Cont.ints i64 [(↑(length o):Int)]) 1 1 (some 1) (some false) true false)),(36928,HO.blk (Blk.mk (Cont.ints i64 o) 1
 (length o) none (some false) true false))]=[(580,HO.blk (Blk.mk (Cont.ints i64 [(↑(length o):Int)]) 1 1 (some 1) (some false) true false)),(36928,HO.blk (Blk.mk (Cont.ints i64 o) 1
 (length o) none (some false) true false))]∧length o=length o∧1=1∧0<length o∧length o<1000000∧0≤b.i∧b.i≤(↑(length o):Int))∧(Int.toNat ((↑(length o):Int)+1)=
 length (take zz0 a)∧Int.toNat (↑(length o):Int)=length (take zz1 k)∧qx zz3 (okStrip (take zz0 a) (take zz1 k)∧List.Perm (insA o (Int.toNat b.i) (↑(length o):Int)) (idO (length
 (take zz0 a)))))∧(zz2=true→([(128,HO.blk (Blk.mk (Cont.cells [AV.fn 51 [] [AV.iptr (Cont.vals [AV.imm (Cont.ints i64 a) (length a) none,AV.imm (Cont.ints u8 k) (length k) none]),
 AV.ptr 64 0,AV.ptr 128 0]]) 1 1 none (some false) true true)),(9700,HO.blk (Blk.mk (Cont.vals (outV b.L)) 1 (length b.L) none (some true) true false)),(192,HO.blk (Blk.mk (Cont.cells
 [AV.full 9700 (length b.L)]) 1 1 none (some false) true true)),(9128,HO.blk (Blk.mk (Cont.maps (MV.mk true [some i64,some i64,some i64,some i64,some i64,some i64,some i64,some i64])
 (MV.mk false [none]) (fpE b.L) (fpK b.L)) 1 0 none (some false) true true)),(129,HO.blk (Blk.mk (Cont.cells [AV.mp 9128]) 1 1 none (some false) true true)),(9064,HO.blk (Blk.mk
 (Cont.cells [AV.imm (Cont.ints i64 a) (length a) none,AV.imm (Cont.ints u8 k) (length k) none]) 2 1 none (some false) true true)),(9005,HO.loop (LoopS.mk 0 none [(1,AV.ptr 9064 0),(3,
 AV.ptr 129 0),(4,AV.ptr 192 0),(11,AV.fn 50 [] [AV.iptr (Cont.vals [AV.imm (Cont.ints i64 a) (length a) none,AV.imm (Cont.ints u8 k) (length k) none])])] 35 [12] as19 bd19)),(64,
 HO.blk (Blk.mk (Cont.cells [AV.yld 9005]) 1 1 none (some false) true true))]=[(128,HO.blk (Blk.mk (Cont.cells [AV.fn 51 [] [AV.iptr (Cont.vals [AV.imm (Cont.ints i64 a) (length a) none,
 AV.imm (Cont.ints u8 k) (length k) none]),AV.ptr 64 0,AV.ptr 128 0]]) 1 1 none (some false) true true)),(9700,HO.blk (Blk.mk (Cont.vals (outV (unO (outV b.L)))) 1 (length (unO (outV
 b.L))) none (some true) true false)),(192,HO.blk (Blk.mk (Cont.cells [AV.full 9700 (length (unO (outV b.L)))]) 1 1 none (some false) true true)),(9128,HO.blk (Blk.mk (Cont.maps (MV.mk
 true [some i64,some i64,some i64,some i64,some i64,some i64,some i64,some i64]) (MV.mk false [none]) (fpE (unO (outV b.L))) (fpK (unO (outV b.L)))) 1 0 none (some false) true true)),
 (129,HO.blk (Blk.mk (Cont.cells [AV.mp 9128]) 1 1 none (some false) true true)),(9064,HO.blk (Blk.mk (Cont.cells [AV.imm (Cont.ints i64 a) (length a) none,AV.imm (Cont.ints u8 k) (length
 k) none]) 2 1 none (some false) true true)),(9005,HO.loop (LoopS.mk 0 none [(1,AV.ptr 9064 0),(3,AV.ptr 129 0),(4,AV.ptr 192 0),(11,AV.fn 50 [] [AV.iptr (Cont.vals [AV.imm
 (Cont.ints i64 a) (length a) none,AV.imm (Cont.ints u8 k) (length k) none])])] 35 [12] as19 bd19)),(64,HO.blk (Blk.mk (Cont.cells [AV.yld 9005]) 1 1 none (some false) true true))]∧a=a
 ∧k=k∧length a=length a∧length k=length k∧qx zz3 (length (insA o (Int.toNat b.i) (↑(length o):Int))=length o+1∧length o+1≤length a∧0<length o+1∧okG (insA o
 (Int.toNat b.i) (↑(length o):Int))∧okL a (unO (outV b.L))))∧inR i64 (b.i+1)=true∧1=1∧Cont.vals [AV.imm (Cont.ints i64 a) (length a) none,AV.imm (Cont.ints u8 k) (length k)
 none]=Cont.vals [AV.imm (Cont.ints i64 a) (length a) none,AV.imm (Cont.ints u8 k) (length k) none]∧0=0∧0=0∧length (grO a k (unO (outV b.L)) (insA o (Int.toNat b.i) (↑(length o)
 :Int)))=length (unO (outV (grO a k (unO (outV b.L)) (insA o (Int.toNat b.i) (↑(length o):Int)))))∧outV (grO a k (unO (outV b.L)) (insA o (Int.toNat b.i) (↑(length o):Int)))=outV
 (unO (outV (grO a k (unO (outV b.L)) (insA o (Int.toNat b.i) (↑(length o):Int)))))∧1=1∧length (grO a k (unO (outV b.L)) (insA o (Int.toNat b.i) (↑(length o):Int)))=length (unO
 (outV (grO a k (unO (outV b.L)) (insA o (Int.toNat b.i) (↑(length o):Int)))))∧0=0∧fpE (grO a k (unO (outV b.L)) (insA o (Int.toNat b.i) (↑(length o):Int)))=fpE (unO (outV (grO a
 k (unO (outV b.L)) (insA o (Int.toNat b.i) (↑(length o):Int)))))∧fpK (grO a k (unO (outV b.L)) (insA o (Int.toNat b.i) (↑(length o):Int)))=fpK (unO (outV (grO a k (unO (outV b.L))
 (insA o (Int.toNat b.i) (↑(length o):Int)))))∧1=1∧1=1∧qs i64 a (qs u8 k (0=0∧(none:Option Ex)=none∧35=35∧[12]=[12]∧as19=as19∧bd19=bd19∧0=0∧0=0∧0
 =0∧Cont.vals [AV.imm (Cont.ints i64 a) (length a) none,AV.imm (Cont.ints u8 k) (length k) none]=Cont.vals [AV.imm (Cont.ints i64 a) (length a) none,AV.imm (Cont.ints u8 k) (length k)
 none]∧1=1∧1=1∧qx (Cont.ints i64 (take zz0 a)) (qx zz0 (qx (Cont.ints u8 (take zz1 k)) (qx zz1 (qs i64 o (0=0∧ql o (0=0∧qx ((↑(length o):Int)+1) (b.i+1=b.i+1∧(∃
 (m:Nat),b.i+1=(↑m:Int)∧m≤length o+1∧unO (outV (grO a k (unO (outV b.L)) (insA o (Int.toNat b.i) (↑(length o):Int))))=grM a k L o m∧okL a (unO (outV (grO a k (unO (outV
 b.L)) (insA o (Int.toNat b.i) (↑(length o):Int))))))∧length o+1-Int.toNat (b.i+1)<length o+1-Int.toNat b.i∧True))))))))))∧(zz2=false→inR i64 (b.i+1)=true∧1=1
 ∧Cont.vals [AV.imm (Cont.ints i64 a) (length a) none,AV.imm (Cont.ints u8 k) (length k) none]=Cont.vals [AV.imm (Cont.ints i64 a) (length a) none,AV.imm (Cont.ints u8 k) (length k)
 none]∧0=0∧0=0∧length b.L=length (unO (outV b.L))∧outV b.L=outV (unO (outV b.L))∧1=1∧length b.L=length (unO (outV b.L))∧0=0∧fpE b.L=fpE (unO (outV b.L))∧fpK
 b.L=fpK (unO (outV b.L))∧1=1∧1=1∧qs i64 a (qs u8 k (0=0∧(none:Option Ex)=none∧35=35∧[12]=[12]∧as19=as19∧bd19=bd19∧0=0∧0=0∧0=0∧Cont.vals
 [AV.imm (Cont.ints i64 a) (length a) none,AV.imm (Cont.ints u8 k) (length k) none]=Cont.vals [AV.imm (Cont.ints i64 a) (length a) none,AV.imm (Cont.ints u8 k) (length k) none]∧1=1∧
 1=1∧qx (Cont.ints i64 (take zz0 a)) (qx zz0 (qx (Cont.ints u8 (take zz1 k)) (qx zz1 (qs i64 o (0=0∧ql o (0=0∧qx ((↑(length o):Int)+1) (b.i+1=b.i+1∧(∃(m:Nat),b.i+
 1=(↑m:Int)∧m≤length o+1∧unO (outV b.L)=grM a k L o m∧okL a (unO (outV b.L)))∧length o+1-Int.toNat (b.i+1)<length o+1-Int.toNat b.i∧True)))))))))))∧(ltb b.i
 ((↑(length o):Int)+1)=false→1=1∧Cont.vals [AV.imm (Cont.ints i64 a) (length a) none,AV.imm (Cont.ints u8 k) (length k) none]=Cont.vals [AV.imm (Cont.ints i64 a) (length a)
 none,AV.imm (Cont.ints u8 k) (length k) none]∧0=0∧0=0∧length b.L=length (grO a k L o)∧outV b.L=outV (grO a k L o)∧1=1∧length b.L=length (grO a k L o)∧0=0∧fpE
 b.L=fpE (grO a k L o)∧fpK b.L=fpK (grO a k L o)∧1=1∧1=1∧qs i64 a (qs u8 k (0=0∧(none:Option Ex)=none∧35=35∧[12]=[12]∧as19=as19∧bd19=bd19∧0=0∧0=
 0∧0=0∧Cont.vals [AV.imm (Cont.ints i64 a) (length a) none,AV.imm (Cont.ints u8 k) (length k) none]=Cont.vals [AV.imm (Cont.ints i64 a) (length a) none,AV.imm (Cont.ints u8 k)
 (length k) none]∧1=1∧true=true∧True)))) (chkP (take zz0 a) (take zz1 k) (insA o (Int.toNat b.i) (↑(length o):Int))==0)) (length (insA o (Int.toNat b.i) (↑(length o):
 Int)))))))))))))) (Int.toNat ((↑(length o):Int)+1))) (Int.toNat (↑(length o):Int))):=by kernel_rfl

theorem ob_d_51n (a k:List Int):fnD (T51n a k) G 10000 (fe51) (.r [] 0 (.r [] 0 (.r [] 1 (.ff (.r [] 743 (.r [] 1 (.un (.r [] 0 (.lit (.r [] 0 (.r [(581,.auto,Dr.heap)] 1 (.r [(647,.auto,Dr.heap)] 53 (.lit (.r [] 1 (.un (.r [] 0 (.lit (.r [] 0 .nil)))))))))))))))))) ([.nils,.iptr (stpF a k),.ptr 64 0,.ptr 128 0]) (hS a k []) ([.bool true]) (wY (grO a k [] []))=(
 (0==(↑(length a):Int))=false∧len' 1 (length a)=true∧Cont.size (Cont.ints i64 a)=length a∧Cont.size (Cont.ints u8 k)=length k∧([(580,HO.blk (Blk.mk (Cont.ints i64 [0]) 1
 1 (some 1) (some false) true false))]=[(580,HO.blk (Blk.mk (Cont.ints i64 [0]) 1 1 (some 1) (some false) true false))]∧1=1∧iI 0=0)∧(1=length (take 1 a)∧0=0∧1=1∧
 okStrip (take 1 a) []∧List.Perm [0] (idO (length (take 1 a))))∧([(128,HO.blk (Blk.mk (Cont.cells [AV.fn 51 [] [AV.iptr (Cont.vals [AV.imm (Cont.ints i64 a) (length a) none,AV.imm
 (Cont.ints u8 k) (length k) none]),AV.ptr 64 0,AV.ptr 128 0]]) 1 1 none (some false) true true)),(9700,HO.blk (Blk.mk (Cont.vals []) 1 0 none (some true) true false)),(192,HO.blk
 (Blk.mk (Cont.cells [AV.full 9700 0]) 1 1 none (some false) true true)),(9128,HO.blk (Blk.mk (Cont.maps (MV.mk true [some i64,some i64,some i64,some i64,some i64,some i64,some i64,
 some i64]) (MV.mk false [none]) [] 0) 1 0 none (some false) true true)),(129,HO.blk (Blk.mk (Cont.cells [AV.mp 9128]) 1 1 none (some false) true true)),(9064,HO.blk (Blk.mk (Cont.cells
 [AV.imm (Cont.ints i64 a) (length a) none,AV.imm (Cont.ints u8 k) (length k) none]) 2 1 none (some false) true true)),(9005,HO.loop (LoopS.mk 0 none [(1,AV.ptr 9064 0),(3,AV.ptr 129
 0),(4,AV.ptr 192 0),(11,AV.fn 50 [] [AV.iptr (Cont.vals [AV.imm (Cont.ints i64 a) (length a) none,AV.imm (Cont.ints u8 k) (length k) none])])] 35 [12] as19 bd19)),(64,HO.blk (Blk.mk
 (Cont.cells [AV.yld 9005]) 1 1 none (some false) true true))]=[(128,HO.blk (Blk.mk (Cont.cells [AV.fn 51 [] [AV.iptr (Cont.vals [AV.imm (Cont.ints i64 a) (length a) none,AV.imm
 (Cont.ints u8 k) (length k) none]),AV.ptr 64 0,AV.ptr 128 0]]) 1 1 none (some false) true true)),(9700,HO.blk (Blk.mk (Cont.vals []) 1 0 none (some true) true false)),(192,HO.blk
 (Blk.mk (Cont.cells [AV.full 9700 0]) 1 1 none (some false) true true)),(9128,HO.blk (Blk.mk (Cont.maps (MV.mk true [some i64,some i64,some i64,some i64,some i64,some i64,some i64,
 some i64]) (MV.mk false [none]) [] 0) 1 0 none (some false) true true)),(129,HO.blk (Blk.mk (Cont.cells [AV.mp 9128]) 1 1 none (some false) true true)),(9064,HO.blk (Blk.mk (Cont.cells
 [AV.imm (Cont.ints i64 a) (length a) none,AV.imm (Cont.ints u8 k) (length k) none]) 2 1 none (some false) true true)),(9005,HO.loop (LoopS.mk 0 none [(1,AV.ptr 9064 0),(3,AV.ptr 129
 0),(4,AV.ptr 192 0),(11,AV.fn 50 [] [AV.iptr (Cont.vals [AV.imm (Cont.ints i64 a) (length a) none,AV.imm (Cont.ints u8 k) (length k) none])])] 35 [12] as19 bd19)),(64,HO.blk (Blk.mk
 (Cont.cells [AV.yld 9005]) 1 1 none (some false) true true))]∧a=a∧k=k∧length a=length a∧length k=length k∧1=1∧1=1∧1≤length a∧0<1∧okG [0]∧okL a [])∧1=1
 ∧Cont.vals [AV.imm (Cont.ints i64 a) (length a) none,AV.imm (Cont.ints u8 k) (length k) none]=Cont.vals [AV.imm (Cont.ints i64 a) (length a) none,AV.imm (Cont.ints u8 k) (length k)
 none]∧0=0∧0=0∧length (grO a k [] [0])=length (grO a k [] [])∧outV (grO a k [] [0])=outV (grO a k [] [])∧1=1∧length (grO a k [] [0])=length (grO a k [] [])∧0=0∧
 fpE (grO a k [] [0])=fpE (grO a k [] [])∧fpK (grO a k [] [0])=fpK (grO a k [] [])∧1=1∧1=1∧qs i64 a (qs u8 k (0=0∧(none:Option Ex)=none∧35=35∧[12]=[12]∧as19
 =as19∧bd19=bd19∧0=0∧0=0∧0=0∧Cont.vals [AV.imm (Cont.ints i64 a) (length a) none,AV.imm (Cont.ints u8 k) (length k) none]=Cont.vals [AV.imm (Cont.ints i64 a) (length a)
 none,AV.imm (Cont.ints u8 k) (length k) none]∧1=1∧true=true∧True))):=by kernel_rfl

theorem ob_s34 (a k:List Int):fnP (T0) G 10000 fe34 (.r [] 0 (.frz 1 0 (.r [] 0 .nil))) ([.agg [.imm (.ints .i64 a) a.length none,.imm (.ints .u8 k) k.length none]]) ([visV a k]) ([])=(
 Cont.vals [AV.imm (Cont.ints i64 a) (length a) none,AV.imm (Cont.ints u8 k) (length k) none]=Cont.vals [AV.imm (Cont.ints i64 a) (length a) none,AV.imm (Cont.ints u8 k) (length k) none]∧True):=by kernel_rfl

theorem ob_d_50 (a k:List Int):fnD (T50 a k) G 10000 (fe50) (.r [] 0 (.r [] 0 (.r [] 1 (.r [(257,.auto,Dr.heap)] 1 .nil)))) ([.yld 9005,.iptr (stpF a k)]) (hY a k []) ([]) (wY (grO a k [] []))=(
 ([(128,HO.blk (Blk.mk (Cont.cells [AV.fn 51 [] [AV.iptr (Cont.vals [AV.imm (Cont.ints i64 a) (length a) none,AV.imm (Cont.ints u8 k) (length k) none]),AV.ptr 64 0,AV.ptr 128 0]]) 1 1
 none (some false) true true)),(9700,HO.blk (Blk.mk (Cont.vals []) 1 0 none (some true) true false)),(192,HO.blk (Blk.mk (Cont.cells [AV.full 9700 0]) 1 1 none (some false) true true)),
 (9128,HO.blk (Blk.mk (Cont.maps (MV.mk true [some i64,some i64,some i64,some i64,some i64,some i64,some i64,some i64]) (MV.mk false [none]) [] 0) 1 0 none (some false) true true)),
 (129,HO.blk (Blk.mk (Cont.cells [AV.mp 9128]) 1 1 none (some false) true true)),(9064,HO.blk (Blk.mk (Cont.cells [AV.imm (Cont.ints i64 a) (length a) none,AV.imm (Cont.ints u8 k) (length
 k) none]) 2 1 none (some false) true true)),(9005,HO.loop (LoopS.mk 0 none [(1,AV.ptr 9064 0),(3,AV.ptr 129 0),(4,AV.ptr 192 0),(11,AV.fn 50 [] [AV.iptr (Cont.vals [AV.imm
 (Cont.ints i64 a) (length a) none,AV.imm (Cont.ints u8 k) (length k) none])])] 35 [12] as19 bd19)),(64,HO.blk (Blk.mk (Cont.cells [AV.yld 9005]) 1 1 none (some false) true true))]=
 [(128,HO.blk (Blk.mk (Cont.cells [AV.fn 51 [] [AV.iptr (Cont.vals [AV.imm (Cont.ints i64 a) (length a) none,AV.imm (Cont.ints u8 k) (length k) none]),AV.ptr 64 0,AV.ptr 128 0]]) 1 1 none
 (some false) true true)),(9700,HO.blk (Blk.mk (Cont.vals []) 1 0 none (some true) true false)),(192,HO.blk (Blk.mk (Cont.cells [AV.full 9700 0]) 1 1 none (some false) true true)),(9128,
 HO.blk (Blk.mk (Cont.maps (MV.mk true [some i64,some i64,some i64,some i64,some i64,some i64,some i64,some i64]) (MV.mk false [none]) [] 0) 1 0 none (some false) true true)),(129,
 HO.blk (Blk.mk (Cont.cells [AV.mp 9128]) 1 1 none (some false) true true)),(9064,HO.blk (Blk.mk (Cont.cells [AV.imm (Cont.ints i64 a) (length a) none,AV.imm (Cont.ints u8 k) (length k)
 none]) 2 1 none (some false) true true)),(9005,HO.loop (LoopS.mk 0 none [(1,AV.ptr 9064 0),(3,AV.ptr 129 0),(4,AV.ptr 192 0),(11,AV.fn 50 [] [AV.iptr (Cont.vals [AV.imm (Cont.ints
 i64 a) (length a) none,AV.imm (Cont.ints u8 k) (length k) none])])] 35 [12] as19 bd19)),(64,HO.blk (Blk.mk (Cont.cells [AV.yld 9005]) 1 1 none (some false) true true))]∧a=a∧k=k∧
 length a=length a∧length k=length k∧okStrip a k)∧qx (length (grO a k [] [])) (qx (outV (grO a k [] [])) (1=1∧qx (length (grO a k [] [])) (0=0∧qx (fpE (grO a k [] [])) (qx
 (fpK (grO a k [] [])) (1=1∧1=1∧qs i64 a (qs u8 k (0=0∧(none:Option Ex)=none∧35=35∧[12]=[12]∧as19=as19∧bd19=bd19∧0=0∧0=0∧0=0∧Cont.vals [AV.imm
 (Cont.ints i64 a) (length a) none,AV.imm (Cont.ints u8 k) (length k) none]=Cont.vals [AV.imm (Cont.ints i64 a) (length a) none,AV.imm (Cont.ints u8 k) (length k) none]∧True)))))))):=by kernel_rfl

theorem ob_y_19 (a k o:List Int)(L:List (List Int)):fnY (U19) G 10000 (9005) (.r [] 0 (.r [] 13 (.r [] 0 (.r [] 6 (.r [] 1 (.cnd (.r [] 1 (.r [] 25 .nil)) .nil)))))) ([immN .i64 o]) (hY a k L) (true) (wY (addS a L o))=(
 (fun(zz1:Nat)=>(fun(zz0:Bool)=>(length a=length a∧length k=length k∧length o=length o∧okStrip a k∧List.Perm o (idO (length a)))∧Nat.ble zz1 8=true∧Cont.size
 (Cont.ints i64 (leastL (raysL a) o))=length (leastL (raysL a) o)∧len' 8 (Cont.size (Cont.ints i64 (padK (leastL (raysL a) o))))=true∧(zz0=true→len' 8 (Cont.size (Cont.ints i64
 (padK (leastL (raysL a) o))))=true∧length L=length L∧len' ((length L+1)*24) 140737488355328=true∧length L+1=length (addS a L o)∧outV L++[AV.imm (Cont.ints i64 (leastL
 (raysL a) o)) zz1 (some zz1)]=outV (addS a L o)∧1=1∧length L+1=length (addS a L o)∧0=0∧mput (fpE L) (pad8 (leastL (raysL a) o)) [1] (fpK L)=fpE (addS a L o)∧mck (fpE L)
 (pad8 (leastL (raysL a) o)) (fpK L)=fpK (addS a L o)∧1=1∧1=1∧qs i64 a (qs u8 k (0=0∧(none:Option Ex)=none∧35=35∧[12]=[12]∧as19=as19∧bd19=bd19∧0=0∧0
 =0∧0=0∧Cont.vals [AV.imm (Cont.ints i64 a) (length a) none,AV.imm (Cont.ints u8 k) (length k) none]=Cont.vals [AV.imm (Cont.ints i64 a) (length a) none,AV.imm (Cont.ints u8 k)
 (length k) none]∧true=true∧True)))∧(zz0=false→length L=length (addS a L o)∧outV L=outV (addS a L o)∧1=1∧length L=length (addS a L o)∧0=0∧fpE L=fpE (addS a L
 o)∧fpK L=fpK (addS a L o)∧1=1∧1=1∧qs i64 a (qs u8 k (0=0∧(none:Option Ex)=none∧35=35∧[12]=[12]∧as19=as19∧bd19=bd19∧0=0∧0=0∧0=0∧Cont.vals
 [AV.imm (Cont.ints i64 a) (length a) none,AV.imm (Cont.ints u8 k) (length k) none]=Cont.vals [AV.imm (Cont.ints i64 a) (length a) none,AV.imm (Cont.ints u8 k) (length k) none]∧true=
 true∧True)))) (!getD (Option.getD (mget (fpE L) (pad8 (leastL (raysL a) o))) []) 0 0 !=0)) (length (leastL (raysL a) o))):=by kernel_rfl

theorem ob_s19 (a k:List Int):fnP (T19 a k) G 10000 fe19 (.jn (j19r a k) [0] [] (.r [] 0 .nil) (fun b=>(.jn (j19s) [] [] (.r [] 1 .nil) (fun b_1=>(.r [] 0 (.ghc 192 0 9700 1 (Cont.vals []) (.jn (j19t a k) [] [] (.r [] 1 .nil) (fun b_2=>(.rf 9005 0 (.r [(769,.auto,Dr.heap)] 1 (.r [] 1 (.frz 2 0 .nil)))))))))))) ([.agg [.imm (.ints .i64 a) a.length none,.imm (.ints .u8 k) k.length none]]) ([.imm (.vals (outV (swL a k))) (swL a k).length none]) ([])=(
 (1=1∧qs i64 a (qs u8 k (0=0∧True∧True)))∧∀(b:Unit),True→(1=1∧qs i64 a (qs u8 k (0=0∧([]:List (List Int×List Int×Nat))=[]∧0=0∧1=1∧0=0∧0=0∧
 True∧True)))∧∀(b_1:Unit),True→((length a=length a∧length k=length k)∧1=1∧qs i64 a (qs u8 k (0=0∧([]:List (List Int×List Int×Nat))=[]∧0=0∧1=1∧1=1
 ∧0=0∧0=0∧([]:List AV)=[]∧0=0∧0=0∧0=0∧Cont.vals [AV.imm (Cont.ints i64 a) (length a) none,AV.imm (Cont.ints u8 k) (length k) none]=Cont.vals [AV.imm (Cont.ints
 i64 a) (length a) none,AV.imm (Cont.ints u8 k) (length k) none]∧True∧True)))∧∀(b_2:Unit),True→([(9700,HO.blk (Blk.mk (Cont.vals []) 1 0 none (some true) true false)),(192,
 HO.blk (Blk.mk (Cont.cells [AV.full 9700 0]) 1 1 none (some false) true true)),(9128,HO.blk (Blk.mk (Cont.maps (MV.mk true [some i64,some i64,some i64,some i64,some i64,some i64,some
 i64,some i64]) (MV.mk false [none]) [] 0) 1 0 none (some false) true true)),(129,HO.blk (Blk.mk (Cont.cells [AV.mp 9128]) 1 1 none (some false) true true)),(9064,HO.blk (Blk.mk
 (Cont.cells [AV.imm (Cont.ints i64 a) (length a) none,AV.imm (Cont.ints u8 k) (length k) none]) 2 1 none (some false) true true)),(9005,HO.loop (LoopS.mk 0 none [(1,AV.ptr 9064 0),(3,
 AV.ptr 129 0),(4,AV.ptr 192 0),(11,AV.fn 50 [] [AV.iptr (Cont.vals [AV.imm (Cont.ints i64 a) (length a) none,AV.imm (Cont.ints u8 k) (length k) none])])] 35 [12] as19 bd19))]=[(9700,
 HO.blk (Blk.mk (Cont.vals []) 1 0 none (some true) true false)),(192,HO.blk (Blk.mk (Cont.cells [AV.full 9700 0]) 1 1 none (some false) true true)),(9128,HO.blk (Blk.mk (Cont.maps (MV.mk
 true [some i64,some i64,some i64,some i64,some i64,some i64,some i64,some i64]) (MV.mk false [none]) [] 0) 1 0 none (some false) true true)),(129,HO.blk (Blk.mk (Cont.cells [AV.mp
 9128]) 1 1 none (some false) true true)),(9064,HO.blk (Blk.mk (Cont.cells [AV.imm (Cont.ints i64 a) (length a) none,AV.imm (Cont.ints u8 k) (length k) none]) 2 1 none (some false) true
 true)),(9005,HO.loop (LoopS.mk 0 none [(1,AV.ptr 9064 0),(3,AV.ptr 129 0),(4,AV.ptr 192 0),(11,AV.fn 50 [] [AV.iptr (Cont.vals [AV.imm (Cont.ints i64 a) (length a) none,AV.imm
 (Cont.ints u8 k) (length k) none])])] 35 [12] as19 bd19))]∧a=a∧k=k∧length a=length a∧length k=length k∧okStrip a k)∧([(9700,HO.blk (Blk.mk (Cont.vals (outV (grO a k []
 []))) 1 (length (grO a k [] [])) none (some true) true false))]=[(9700,HO.blk (Blk.mk (Cont.vals (outV (unO (outV (grO a k [] []))))) 1 (length (unO (outV (grO a k [] [])))) none (some
 true) true false))]∧length (grO a k [] [])=length (unO (outV (grO a k [] [])))∧okL a (unO (outV (grO a k [] [])))∧length a≤8)∧length (unO (outV (grO a k [] [])))=length (grO a
 k [] [])∧Cont.vals (outV (srtL (unO (outV (grO a k [] [])))))=Cont.vals (outV (swL a k))∧length (grO a k [] [])=length (swL a k)∧True):=by kernel_rfl

theorem ob_s18 (a k:List Int):fnP (U18) G 10000 fe18 (.r [] 0 (.r [] 1 (.r [] 0 (.lit (.r [] 1 (.ff (.r [] 0 .nil))))))) ([.agg [.imm (.ints .i64 a) a.length none,.imm (.ints .u8 k) k.length none]]) ([.int .i64 0]) ([])=(
 (length a=length a∧length k=length k∧okStrip a k)∧ltb 8 (↑(length a):Int)=false∧iI 0=0∧True):=by kernel_rfl

theorem ob_s7 (a k:List Int):fnP (U7) G 10000 fe7 (.r [] 0 (.r [] 1 (.r [] 0 (.lit (.r [] 1 .nil))))) ([.agg [.imm (.ints .i64 a) a.length none,.imm (.ints .u8 k) k.length none]]) ([.int .i64 ((swL a k).length:Nat),.int .i64 0]) ([])=(
 (length a=length a∧length k=length k∧okStrip a k)∧(length a=length a∧length k=length k∧okStrip a k)∧(↑(length (swL a k)):Int)=(↑(length (swL a k)):Int)∧iI 0=0∧True):=by kernel_rfl

end Go.Proofs.Ythiammkiobbclaa.X
