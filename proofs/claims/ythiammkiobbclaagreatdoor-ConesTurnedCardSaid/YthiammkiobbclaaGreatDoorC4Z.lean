/-
 What is to be shown of the functions (made by a program).
-/
import Derived.Test.YthiammkiobbclaaGreatDoorD4Z
import Derived.KernelRfl
import Derived.Test.YthiammkiobbclaaGreatDoorC1Z

set_option maxRecDepth 1000000
set_option linter.unusedVariables false
namespace Go.Proofs.YthiammkiobbclaaGreatDoor.X
open Go Go.Ab

end Go.Proofs.YthiammkiobbclaaGreatDoor.X

/-
 What is to be shown of the functions (made by a program).
-/
set_option maxRecDepth 1000000
set_option linter.unusedVariables false
namespace Go.Proofs.YthiammkiobbclaaGreatDoor.X
open Go Go.Ab
open List IntKind

theorem ob_o85 (n:Int):fnP (T0) G 10000 fe88 (.r [] 0 (.r [] 0 (.ff (.r [] 1 (.r [] 0 (.tt (.r [] 9 (.r [] 0 .nil)))))))) ([.nils,.int .i64 n]) ([.full 0 0]) ([blkN .i64 []])=(
 ltb n 0=false∧inR i64 (n-0)=true∧ltb 0 (n-0)=true∧ltb 0 (n-0)=true∧leb ((n-0)*8) 140737488355328=true∧0=0∧iL []=[]∧0=0∧True):=by kernel_rfl

theorem ob_o86 (n:Int):fnP (T0) G 10000 fe89 (.r [] 0 (.r [] 0 (.ff (.r [] 1 (.r [] 0 (.tt (.r [] 9 (.r [] 0 .nil)))))))) ([.nils,.int .i64 n]) ([.full 0 0]) ([blkN .u8 []])=(
 ltb n 0=false∧inR i64 (n-0)=true∧ltb 0 (n-0)=true∧ltb 0 (n-0)=true∧leb ((n-0)*1) 140737488355328=true∧0=0∧iL []=[]∧0=0∧True):=by kernel_rfl

theorem ob_o65 (x y:List Int):fnP (UA) G 10000 fe66 (.r [] 0 (.r [] 0 (.r [] 0 (.un (.r [] 0 (.lit (.r [] 15 (.r [] 0 (.r [] 0 (.lit (.r [] 1 (.un (.r [] 0 (.lit (.r [] 15 (.r [] 0 (.r [] 0 (.lit (.r [] 1 (.un (.r [] 0 (.lit (.r [] 0 (.r [] 0 (.un (.r [] 0 (.lit (.r [] 15 (.r [] 1 (.r [] 1 (.un (.r [] 0 (.lit (.r [] 15 (.r [] 0 (.r [] 1 (.un (.r [] 0 (.lit (.r [] 0 .nil)))))))))))))))))))))))))))))))))))))))) ([.imm (.vals [.imm (.ints .i64 x) x.length none,.imm (.ints .i64 y) y.length none]) 2 none]) ([.full 0 (x++y).length]) ([blkN .i64 (x++y)])=(
 inR i64 (0+(↑(length x):Int))=true∧inR i64 (0+(↑(length x):Int)+(↑(length y):Int))=true∧(0<0+(↑(length x):Int)+(↑(length y):Int)∧0+(↑(length x):Int)+(↑(length y)
 :Int)<1000000000000)∧len' ((0+length x)*8) 140737488355328=true∧Cont.size (Cont.ints i64 x)=length x∧0+length x=0+length x∧len' ((0+length x+length y)*8) 140737488355328
 =true∧Cont.size (Cont.ints i64 y)=length y∧0+length x+length y=length (x++y)∧[]++x++y=x++y∧0+length x+length y=length (x++y)∧True):=by kernel_rfl

theorem ob_o66 (x y:List Int):fnP (UA) G 10000 fe68 (.r [] 0 (.r [] 0 (.r [] 0 (.un (.r [] 0 (.lit (.r [] 15 (.r [] 0 (.r [] 0 (.lit (.r [] 1 (.un (.r [] 0 (.lit (.r [] 15 (.r [] 0 (.r [] 0 (.lit (.r [] 1 (.un (.r [] 0 (.lit (.r [] 0 (.r [] 0 (.un (.r [] 0 (.lit (.r [] 15 (.r [] 1 (.r [] 1 (.un (.r [] 0 (.lit (.r [] 15 (.r [] 0 (.r [] 1 (.un (.r [] 0 (.lit (.r [] 0 .nil)))))))))))))))))))))))))))))))))))))))) ([.imm (.vals [.imm (.ints .u8 x) x.length none,.imm (.ints .u8 y) y.length none]) 2 none]) ([.full 0 (x++y).length]) ([blkN .u8 (x++y)])=(
 inR i64 (0+(↑(length x):Int))=true∧inR i64 (0+(↑(length x):Int)+(↑(length y):Int))=true∧(0<0+(↑(length x):Int)+(↑(length y):Int)∧0+(↑(length x):Int)+(↑(length y)
 :Int)<1000000000000)∧len' ((0+length x)*1) 140737488355328=true∧Cont.size (Cont.ints u8 x)=length x∧0+length x=0+length x∧len' ((0+length x+length y)*1) 140737488355328
 =true∧Cont.size (Cont.ints u8 y)=length y∧0+length x+length y=length (x++y)∧[]++x++y=x++y∧0+length x+length y=length (x++y)∧True):=by kernel_rfl

theorem ob_d_41b (a:List Int):fnD (T0) G 10000 (fe40) (.r [] 0 (.r [(133,.auto,Dr.pk true)] 40 .nil)) ([.full 8640 a.length]) ([(8640,.blk (blkN .i64 a))]) ([.fullc 8640 a.length a.length]) ([])=(
 length a=length a∧length a=length a∧length a=length a∧Int.toNat (↑(length a):Int)=length a∧Int.toNat (↑(length a):Int)=length a∧length a=length a∧a=a∧length a=length
 a∧length a=length a∧True):=by kernel_rfl

theorem ob_d_61b (a:List Int):fnD (T0) G 10000 (fe67) (.r [] 0 (.r [(133,.auto,Dr.pk true)] 40 .nil)) ([.full 8640 a.length]) ([(8640,.blk (blkN .u8 a))]) ([.fullc 8640 a.length a.length]) ([])=(
 length a=length a∧length a=length a∧length a=length a∧Int.toNat (↑(length a):Int)=length a∧Int.toNat (↑(length a):Int)=length a∧length a=length a∧a=a∧length a=length
 a∧length a=length a∧True):=by kernel_rfl

theorem ob_d_41t (a:List Int):fnD (T0) G 10000 (fe40) (.r [] 0 (.r [(133,.auto,Dr.pk true)] 40 .nil)) ([.full 8256 a.length]) ([(8256,.blk (blkN .i64 a))]) ([.fullc 8256 a.length a.length]) ([])=(
 length a=length a∧length a=length a∧length a=length a∧Int.toNat (↑(length a):Int)=length a∧Int.toNat (↑(length a):Int)=length a∧length a=length a∧a=a∧length a=length
 a∧length a=length a∧True):=by kernel_rfl

theorem ob_d_61t (a:List Int):fnD (T0) G 10000 (fe67) (.r [] 0 (.r [(133,.auto,Dr.pk true)] 40 .nil)) ([.full 8256 a.length]) ([(8256,.blk (blkN .u8 a))]) ([.fullc 8256 a.length a.length]) ([])=(
 length a=length a∧length a=length a∧length a=length a∧Int.toNat (↑(length a):Int)=length a∧Int.toNat (↑(length a):Int)=length a∧length a=length a∧a=a∧length a=length
 a∧length a=length a∧True):=by kernel_rfl

theorem ob_d_68 (a:List Int):fnD (T0) G 10000 (fe69) (.r [] 0 (.lp (l68 i64 a) [] [] (fun b=>(.r [] 0 (.cnd (.r [] 0 (.r [] 0 .nil)) .nil))))) ([.fullc 8256 a.length a.length]) ([(8256,.blk (blkN .i64 a))]) ([]) ([(8256,.blk (blkN .i64 a.reverse))])=(
 length a=length a∧inR i64 ((↑(length a):Int)-1)=true∧length a=length a∧a=a∧length a=length a∧length a=length a∧iI 0=0∧(↑(length a):Int)-1=(↑(length a):
 Int)-1∧(∃(n:Nat),0=(↑n:Int)∧(↑(length a):Int)-1=(↑(length a):Int)-1-(↑n:Int)∧2*n≤length a+1∧length a=length a∧∀(m:Nat),m<length a→
 Option.getD a[m]? 0=if m<n∨length a≤m+n then Option.getD a[length a-1-m]? 0 else Option.getD a[m]? 0)∧∀(b:L68),(fun(zz1:Int)=>(fun(zz0:List Int)=>(∃(n:Nat),
 b.i=(↑n:Int)∧b.j=(↑(length a):Int)-1-(↑n:Int)∧2*n≤length a+1∧length b.l=length a∧∀(m:Nat),m<length a→Option.getD b.l[m]? 0=if m<n∨length a≤m+n
 then Option.getD a[length a-1-m]? 0 else Option.getD a[m]? 0)→(ltb b.i b.j=true→leb 0 b.j=true∧ltb b.j (↑(length a):Int)=true∧length b.l=length a∧length b.l=length
 a∧ltn (Int.toNat b.j) (Cont.size (Cont.ints i64 b.l))=true∧leb 0 b.i=true∧ltb b.i (↑(length a):Int)=true∧length b.l=length a∧length b.l=length a∧ltn (Int.toNat b.i)
 (Cont.size (Cont.ints i64 b.l))=true∧leb 0 b.i=true∧ltb b.i (↑(length a):Int)=true∧length b.l=length a∧length b.l=length a∧len' (Int.toNat b.i+1) (Cont.size
 (Cont.ints i64 b.l))=true∧leb 0 b.j=true∧ltb b.j (↑(length a):Int)=true∧length b.l=length a∧length b.l=length a∧len' (Int.toNat b.j+1) (Cont.size (Cont.ints i64 zz0))
 =true∧inR i64 (b.i+1)=true∧inR i64 (b.j-1)=true∧length b.l=length (set zz0 (Int.toNat b.j) zz1)∧set zz0 (Int.toNat b.j) zz1=set zz0 (Int.toNat b.j) zz1∧length a=
 length a∧length a=length a∧b.i+1=b.i+1∧b.j-1=b.j-1∧(∃(n:Nat),b.i+1=(↑n:Int)∧b.j-1=(↑(length a):Int)-1-(↑n:Int)∧2*n≤length a+1∧length
 (set zz0 (Int.toNat b.j) zz1)=length a∧∀(m:Nat),m<length a→Option.getD (set zz0 (Int.toNat b.j) zz1)[m]? 0=if m<n∨length a≤m+n then Option.getD a[length a-1-m]? 0
 else Option.getD a[m]? 0)∧length a-Int.toNat (b.i+1)<length a-Int.toNat b.i∧True)∧(ltb b.i b.j=false→length b.l=length (reverse a)∧b.l=reverse a∧True)) (set b.l
 (Int.toNat b.i) (getD b.l (Int.toNat b.j) 0))) (getD b.l (Int.toNat b.i) 0)):=by kernel_rfl

theorem ob_d_70 (a:List Int):fnD (T0) G 10000 (fe71) (.r [] 0 (.lp (l68 u8 a) [] [] (fun b=>(.r [] 0 (.cnd (.r [] 0 (.r [] 0 .nil)) .nil))))) ([.fullc 8256 a.length a.length]) ([(8256,.blk (blkN .u8 a))]) ([]) ([(8256,.blk (blkN .u8 a.reverse))])=(
 length a=length a∧inR i64 ((↑(length a):Int)-1)=true∧length a=length a∧a=a∧length a=length a∧length a=length a∧iI 0=0∧(↑(length a):Int)-1=(↑(length a):
 Int)-1∧(∃(n:Nat),0=(↑n:Int)∧(↑(length a):Int)-1=(↑(length a):Int)-1-(↑n:Int)∧2*n≤length a+1∧length a=length a∧∀(m:Nat),m<length a→
 Option.getD a[m]? 0=if m<n∨length a≤m+n then Option.getD a[length a-1-m]? 0 else Option.getD a[m]? 0)∧∀(b:L68),(fun(zz1:Int)=>(fun(zz0:List Int)=>(∃(n:Nat),
 b.i=(↑n:Int)∧b.j=(↑(length a):Int)-1-(↑n:Int)∧2*n≤length a+1∧length b.l=length a∧∀(m:Nat),m<length a→Option.getD b.l[m]? 0=if m<n∨length a≤m+n
 then Option.getD a[length a-1-m]? 0 else Option.getD a[m]? 0)→(ltb b.i b.j=true→leb 0 b.j=true∧ltb b.j (↑(length a):Int)=true∧length b.l=length a∧length b.l=length
 a∧ltn (Int.toNat b.j) (Cont.size (Cont.ints u8 b.l))=true∧leb 0 b.i=true∧ltb b.i (↑(length a):Int)=true∧length b.l=length a∧length b.l=length a∧ltn (Int.toNat b.i)
 (Cont.size (Cont.ints u8 b.l))=true∧leb 0 b.i=true∧ltb b.i (↑(length a):Int)=true∧length b.l=length a∧length b.l=length a∧len' (Int.toNat b.i+1) (Cont.size (Cont.ints
 u8 b.l))=true∧leb 0 b.j=true∧ltb b.j (↑(length a):Int)=true∧length b.l=length a∧length b.l=length a∧len' (Int.toNat b.j+1) (Cont.size (Cont.ints u8 zz0))=true∧inR
 i64 (b.i+1)=true∧inR i64 (b.j-1)=true∧length b.l=length (set zz0 (Int.toNat b.j) zz1)∧set zz0 (Int.toNat b.j) zz1=set zz0 (Int.toNat b.j) zz1∧length a=length a∧length
 a=length a∧b.i+1=b.i+1∧b.j-1=b.j-1∧(∃(n:Nat),b.i+1=(↑n:Int)∧b.j-1=(↑(length a):Int)-1-(↑n:Int)∧2*n≤length a+1∧length (set zz0 (Int.toNat
 b.j) zz1)=length a∧∀(m:Nat),m<length a→Option.getD (set zz0 (Int.toNat b.j) zz1)[m]? 0=if m<n∨length a≤m+n then Option.getD a[length a-1-m]? 0 else Option.getD
 a[m]? 0)∧length a-Int.toNat (b.i+1)<length a-Int.toNat b.i∧True)∧(ltb b.i b.j=false→length b.l=length (reverse a)∧b.l=reverse a∧True)) (set b.l (Int.toNat b.i)
 (getD b.l (Int.toNat b.j) 0))) (getD b.l (Int.toNat b.i) 0)):=by kernel_rfl

theorem ob_o42 (a:List Int)(i:Int):fnP (UB42) G 10000 fe46 (.r [] 0 (.r [(136,.auto,Dr.heap)] 64 .nil)) ([.imm (.ints .i64 a) a.length none,.int .i64 i]) ([.fullc 0 (rotL' a i.toNat).length (rotL' a i.toNat).length]) ([blkN .i64 (rotL' a i.toNat)])=(
 leb 0 i=true∧len' (Int.toNat i) (length a)=true∧Cont.size (Cont.ints i64 a)=length a∧leb 0 i=true∧len' (Int.toNat i) (length a)=true∧Cont.size (Cont.ints i64 a)=length a∧
 (length a-Int.toNat i=length (drop (Int.toNat i) a)∧Int.toNat i=length (take (Int.toNat i) a)∧0<length (drop (Int.toNat i) a)+length (take (Int.toNat i) a)∧length (drop (Int.toNat i)
 a)+length (take (Int.toNat i) a)<100000000000)∧([(8640,HO.blk (Blk.mk (Cont.ints i64 (drop (Int.toNat i) a++take (Int.toNat i) a)) 1 (length (drop (Int.toNat i) a++take (Int.toNat i) a))
 none (some false) true false))]=[(8640,HO.blk (Blk.mk (Cont.ints i64 (drop (Int.toNat i) a++take (Int.toNat i) a)) 1 (length (drop (Int.toNat i) a++take (Int.toNat i) a)) none (some false) true
 false))]∧length (drop (Int.toNat i) a++take (Int.toNat i) a)=length (drop (Int.toNat i) a++take (Int.toNat i) a))∧length (drop (Int.toNat i) a++take (Int.toNat i) a)=length (rotL' a
 (Int.toNat i))∧drop (Int.toNat i) a++take (Int.toNat i) a=rotL' a (Int.toNat i)∧length (drop (Int.toNat i) a++take (Int.toNat i) a)=length (rotL' a (Int.toNat i))∧length (drop (Int.toNat
 i) a++take (Int.toNat i) a)=length (rotL' a (Int.toNat i))∧True):=by kernel_rfl

theorem ob_o43 (a:List Int)(i:Int):fnP (UB43) G 10000 fe47 (.r [] 0 (.r [(136,.auto,Dr.heap)] 64 .nil)) ([.imm (.ints .u8 a) a.length none,.int .i64 i]) ([.fullc 0 (rotL' a i.toNat).length (rotL' a i.toNat).length]) ([blkN .u8 (rotL' a i.toNat)])=(
 leb 0 i=true∧len' (Int.toNat i) (length a)=true∧Cont.size (Cont.ints u8 a)=length a∧leb 0 i=true∧len' (Int.toNat i) (length a)=true∧Cont.size (Cont.ints u8 a)=length a∧(length
 a-Int.toNat i=length (drop (Int.toNat i) a)∧Int.toNat i=length (take (Int.toNat i) a)∧0<length (drop (Int.toNat i) a)+length (take (Int.toNat i) a)∧length (drop (Int.toNat i) a)+
 length (take (Int.toNat i) a)<100000000000)∧([(8640,HO.blk (Blk.mk (Cont.ints u8 (drop (Int.toNat i) a++take (Int.toNat i) a)) 1 (length (drop (Int.toNat i) a++take (Int.toNat i) a)) none
 (some false) true false))]=[(8640,HO.blk (Blk.mk (Cont.ints u8 (drop (Int.toNat i) a++take (Int.toNat i) a)) 1 (length (drop (Int.toNat i) a++take (Int.toNat i) a)) none (some false) true
 false))]∧length (drop (Int.toNat i) a++take (Int.toNat i) a)=length (drop (Int.toNat i) a++take (Int.toNat i) a))∧length (drop (Int.toNat i) a++take (Int.toNat i) a)=length (rotL' a
 (Int.toNat i))∧drop (Int.toNat i) a++take (Int.toNat i) a=rotL' a (Int.toNat i)∧length (drop (Int.toNat i) a++take (Int.toNat i) a)=length (rotL' a (Int.toNat i))∧length (drop (Int.toNat
 i) a++take (Int.toNat i) a)=length (rotL' a (Int.toNat i))∧True):=by kernel_rfl

theorem ob_o67 (a:List Int):fnP (T0) G 10000 fe41 (.r [] 0 (.r [] 0 (.lit (.r [] 1 .nil)))) ([.imm (.ints .i64 a) a.length none]) ([.full 0 a.length]) ([blkN .i64 a])=(
 ltn 0 (length a)=true∧len' ((0+length a)*8) 140737488355328=true∧Cont.size (Cont.ints i64 a)=length a∧0+length a=length a∧[]++a=a∧0+length a=length a∧True):=by kernel_rfl

theorem ob_o69 (a:List Int):fnP (T0) G 10000 fe70 (.r [] 0 (.r [] 0 (.lit (.r [] 1 .nil)))) ([.imm (.ints .u8 a) a.length none]) ([.full 0 a.length]) ([blkN .u8 a])=(
 ltn 0 (length a)=true∧len' ((0+length a)*1) 140737488355328=true∧Cont.size (Cont.ints u8 a)=length a∧0+length a=length a∧[]++a=a∧0+length a=length a∧True):=by kernel_rfl

theorem ob_o67z:fnP (T0) G 10000 fe41 (.r [] 0 (.nl 1 [] 0 3 (.r [] 0 (.lit (.r [] 0 (.frz 2 0 .nil)))) (.r [] 0 (.lit (.r [] 7 (.frz 2 1 .nil)))))) ([.imm (.ints .i64 []) 0 none]) ([.imm (.ints .i64 []) 0 none]) ([])=(
 (0=0∧0=0→0=0∧0=0∧True)∧Cont.ints i64 []=Cont.ints i64 []∧0=0∧True):=by kernel_rfl

theorem ob_o69z:fnP (T0) G 10000 fe70 (.r [] 0 (.nl 1 [] 0 3 (.r [] 0 (.lit (.r [] 0 (.frz 2 0 .nil)))) (.r [] 0 (.lit (.r [] 7 (.frz 2 1 .nil)))))) ([.imm (.ints .u8 []) 0 none]) ([.imm (.ints .u8 []) 0 none]) ([])=(
 (0=0∧0=0→0=0∧0=0∧True)∧Cont.ints u8 []=Cont.ints u8 []∧0=0∧True):=by kernel_rfl

theorem ob_o68z:fnP (T0) G 10000 fe69 (.r [] 1 (.un (.r [] 0 (.lit .nil)))) ([.imm (.ints .i64 []) 0 none]) ([]) ([])=(
 True):=by kernel_rfl

theorem ob_o70z:fnP (T0) G 10000 fe71 (.r [] 1 (.un (.r [] 0 (.lit .nil)))) ([.imm (.ints .u8 []) 0 none]) ([]) ([])=(
 True):=by kernel_rfl

theorem ob_o44p (a:List Int):fnP (UP44) G 10000 fe48 (.r [] 0 (.r [(130,.auto,Dr.heap)] 0 (.r [(193,.auto,Dr.heap)] 0 (.r [] 0 (.frz 2 0 .nil))))) ([.imm (.ints .i64 a) a.length none]) ([.imm (.ints .i64 a.reverse) a.length (some a.length)]) ([])=(
 (length a=length a∧0<length a∧length a<100000000000)∧([(8256,HO.blk (Blk.mk (Cont.ints i64 a) 1 (length a) none (some false) true false))]=[(8256,HO.blk (Blk.mk (Cont.ints i64 a) 1
 (length a) none (some false) true false))]∧length a=length a)∧([(8256,HO.blk (Blk.mk (Cont.ints i64 a) 1 (length a) none (some false) true false))]=[(8256,HO.blk (Blk.mk (Cont.ints i64 a) 1
 (length a) none (some false) true false))]∧length a=length a∧length a=length a∧length a<1000000000000)∧length (reverse a)=length a∧Cont.ints i64 (reverse a)=Cont.ints i64 (reverse
 a)∧length a=length a∧length a=length a∧True):=by kernel_rfl

theorem ob_o45p (a:List Int):fnP (UP45) G 10000 fe49 (.r [] 0 (.r [(130,.auto,Dr.heap)] 0 (.r [(193,.auto,Dr.heap)] 0 (.r [] 0 (.frz 2 0 .nil))))) ([.imm (.ints .u8 a) a.length none]) ([.imm (.ints .u8 a.reverse) a.length (some a.length)]) ([])=(
 (length a=length a∧0<length a∧length a<100000000000)∧([(8256,HO.blk (Blk.mk (Cont.ints u8 a) 1 (length a) none (some false) true false))]=[(8256,HO.blk (Blk.mk (Cont.ints u8 a) 1
 (length a) none (some false) true false))]∧length a=length a)∧([(8256,HO.blk (Blk.mk (Cont.ints u8 a) 1 (length a) none (some false) true false))]=[(8256,HO.blk (Blk.mk (Cont.ints u8 a) 1
 (length a) none (some false) true false))]∧length a=length a∧length a=length a∧length a<1000000000000)∧length (reverse a)=length a∧Cont.ints u8 (reverse a)=Cont.ints u8 (reverse a)
 ∧length a=length a∧length a=length a∧True):=by kernel_rfl

theorem ob_o44z:fnP (UZ44) G 10000 fe48 (.r [] 0 (.r [] 0 (.r [] 0 (.r [] 0 .nil)))) ([.imm (.ints .i64 []) 0 none]) ([.imm (.ints .i64 []) 0 (some 0)]) ([])=(
 (0=0∧iL []=[])∧0=0∧(0=0∧iL []=[])∧Cont.ints i64 []=Cont.ints i64 []∧0=0∧0=0∧True):=by kernel_rfl

theorem ob_o45z:fnP (UZ44) G 10000 fe49 (.r [] 0 (.r [] 0 (.r [] 0 (.r [] 0 .nil)))) ([.imm (.ints .u8 []) 0 none]) ([.imm (.ints .u8 []) 0 (some 0)]) ([])=(
 (0=0∧iL []=[])∧0=0∧(0=0∧iL []=[])∧Cont.ints u8 []=Cont.ints u8 []∧0=0∧0=0∧True):=by kernel_rfl

theorem ob_o19 (a k:List Int)(i:Int):fnP (UC) G 10000 fe22 (.r [] 0 (.r [] 1 (.r [] 0 (.ff (.r [yL 323] 14 (.ff (.r [] 21 .nil))))))) ([fanV a k,.int .i64 i]) ([.agg [.fullc 0 (rotL' a i.toNat).length (rotL' a i.toNat).length,.fullc 1 (rotL' k i.toNat).length (rotL' k i.toNat).length],.int .i64 0]) ([blkN .i64 (rotL' a i.toNat),blkN .u8 (rotL' k i.toNat)])=(
 (length a=length a∧length k=length k∧length a<1000000000000)∧(chk a k !=0)=false∧(!ltb i 0)=true∧leb (if 1>(↑(length a):Int)then 1 else(↑(length a):Int)) i=false∧
 (length a=length a∧0<length a∧length a<100000000000∧0≤i∧i≤(↑(length a):Int))∧(length k=length k∧0<length k∧length k<100000000000∧0≤i∧i≤(↑(length k):Int))∧
 length (rotL' a (Int.toNat i))=length (rotL' a (Int.toNat i))∧rotL' a (Int.toNat i)=rotL' a (Int.toNat i)∧length (rotL' k (Int.toNat i))=length (rotL' k (Int.toNat i))∧rotL' k (Int.toNat
 i)=rotL' k (Int.toNat i)∧length (rotL' a (Int.toNat i))=length (rotL' a (Int.toNat i))∧length (rotL' a (Int.toNat i))=length (rotL' a (Int.toNat i))∧length (rotL' k (Int.toNat i))=length
 (rotL' k (Int.toNat i))∧length (rotL' k (Int.toNat i))=length (rotL' k (Int.toNat i))∧iI 0=0∧True):=by kernel_rfl

theorem ob_o20p (a k:List Int):fnP (UC) G 10000 fe23 (.r [] 0 (.r [] 21 (.r [] 1 (.r [] 0 (.tt (.r [] 9 (.r [] 3 .nil))))))) ([fanV a k]) ([.agg [immL .i64 a.reverse,.fullc 0 (mirK' k).length (mirK' k).length]]) ([blkN .u8 (mirK' k)])=(
 (fun(zz0:Nat)=>(length a=length a∧length a<100000000000)∧(length k=length k∧length k<100000000000)∧ltb 0 (↑(length k):Int)=true∧inR i64 ((↑(length k):Int)-1)=
 true∧(length k=length (reverse k)∧0<length (reverse k)∧length (reverse k)<100000000000∧0≤(↑(length k):Int)-1∧(↑(length k):Int)-1≤(↑(length (reverse k)):Int))∧
 length (rotL' (reverse k) zz0)=length (mirK' k)∧rotL' (reverse k) zz0=mirK' k∧Cont.ints i64 (reverse a)=Cont.ints i64 (reverse a)∧length a=length (reverse a)∧length a=
 length (reverse a)∧length (rotL' (reverse k) zz0)=length (mirK' k)∧length (rotL' (reverse k) zz0)=length (mirK' k)∧True) (Int.toNat ((↑(length k):Int)-1))):=by kernel_rfl

theorem ob_o20f (a k:List Int):fnP (UC) G 10000 fe23 (.r [] 0 (.r [] 21 (.r [] 1 (.r [] 0 (.tt (.r [] 9 (.frz 3 0 (.r [] 3 .nil)))))))) ([fanV a k]) ([fanC a.reverse (mirK' k)]) ([])=(
 (fun(zz0:Nat)=>(length a=length a∧length a<100000000000)∧(length k=length k∧length k<100000000000)∧ltb 0 (↑(length k):Int)=true∧inR i64 ((↑(length k):Int)-1)=
 true∧(length k=length (reverse k)∧0<length (reverse k)∧length (reverse k)<100000000000∧0≤(↑(length k):Int)-1∧(↑(length k):Int)-1≤(↑(length (reverse k)):Int))∧
 length (rotL' (reverse k) zz0)=length (rotL' (reverse k) zz0)∧Cont.ints i64 (reverse a)=Cont.ints i64 (reverse a)∧length a=length (reverse a)∧length a=length (reverse a)∧
 Cont.ints u8 (rotL' (reverse k) zz0)=Cont.ints u8 (mirK' k)∧length (rotL' (reverse k) zz0)=length (mirK' k)∧length (rotL' (reverse k) zz0)=length (mirK' k)∧True) (Int.toNat
 ((↑(length k):Int)-1))):=by kernel_rfl

theorem ob_o20z (a k:List Int):fnP (UC) G 10000 fe23 (.r [] 0 (.r [] 21 (.r [] 1 (.r [] 0 (.ff (.r [] 3 .nil)))))) ([fanV a k]) ([fanC a.reverse (mirK' k)]) ([])=(
 (length a=length a∧length a<100000000000)∧(length k=length k∧length k<100000000000)∧ltb 0 (↑(length k):Int)=false∧Cont.ints i64 (reverse a)=Cont.ints i64 (reverse a)∧length a
 =length (reverse a)∧length a=length (reverse a)∧Cont.ints u8 (reverse k)=Cont.ints u8 (mirK' k)∧length k=length (mirK' k)∧length k=length (mirK' k)∧True):=by kernel_rfl

theorem ob_o21 (a k:List Int):fnP (UO) G 10000 fe24 (.r [] 0 (.r [] 5 (.r [] 1 (.lp (l21 (mirK' k)) [] [] (fun b=>(.r [] 0 (.cnd (.r [] 0 (.rs 3 [] 0 18 (.r [] 3 (.lit (.r [] 1 (.r [] 0 .nil)))) (.r [] 3 (.cnd (.r [] 1 (.r [] 0 .nil)) (.r [] 0 .nil))))) (.frz 3 0 (.r [] 3 .nil))))))))) ([fanV a k]) ([fanC a.reverse (ovK' (mirK' k))]) ([])=(
 (fun(zz0:Nat)=>(length a=length a∧length k=length k∧length a<100000000000∧0<length k∧length k<100000000000)∧length (mirK' k)=length (mirK' k)∧1=1∧Cont.ints
 i64 a=Cont.ints i64 a∧length a=length a∧Cont.ints u8 k=Cont.ints u8 k∧length k=length k∧1=1∧length (mirK' k)=length (mirK' k)∧mirK' k=mirK' k∧1=1∧Cont.ints
 i64 (reverse a)=Cont.ints i64 (reverse a)∧length (reverse a)=length (reverse a)∧length (reverse a)=length (reverse a)∧length (mirK' k)=length (mirK' k)∧length (mirK' k)=
 length (mirK' k)∧0=0∧0=0∧length (mirK' k)=length (mirK' k)∧length (mirK' k)=length (mirK' k)∧(↑zz0:Int)=(↑zz0:Int)∧iI 0=0∧(∃(n:Nat),0=(↑n:Int)∧n≤
 length (mirK' k)∧mirK' k=take n (ovK' (mirK' k))++drop n (mirK' k))∧∀(b:L21),(fun(zz2:List Int)=>(fun(zz1:Prop)=>(∃(n:Nat),b.i=(↑n:Int)∧n≤length (mirK' k)∧
 b.l=take n (ovK' (mirK' k))++drop n (mirK' k))→(ltb b.i (↑zz0:Int)=true→leb 0 b.i=true∧ltb b.i (↑zz0:Int)=true∧length b.l=length (mirK' k)∧length b.l=length
 (mirK' k)∧ltn (Int.toNat b.i) (Cont.size (Cont.ints u8 b.l))=true∧((getD b.l (Int.toNat b.i) 0==1)=true→inR u8 (3-getD b.l (Int.toNat b.i) 0)=true∧leb 0 b.i=true∧ltb
 b.i (↑zz0:Int)=true∧length b.l=length (mirK' k)∧length b.l=length (mirK' k)∧len' (Int.toNat b.i+1) (Cont.size (Cont.ints u8 b.l))=true∧inR i64 (b.i+1)=true∧1=1∧
 Cont.ints i64 a=Cont.ints i64 a∧length a=length a∧Cont.ints u8 k=Cont.ints u8 k∧length k=length k∧1=1∧length b.l=length zz2∧set b.l (Int.toNat b.i) (3-getD b.l
 (Int.toNat b.i) 0)=set b.l (Int.toNat b.i) (3-getD b.l (Int.toNat b.i) 0)∧1=1∧Cont.ints i64 (reverse a)=Cont.ints i64 (reverse a)∧length (reverse a)=length (reverse a)∧
 length (reverse a)=length (reverse a)∧length (mirK' k)=length (mirK' k)∧length (mirK' k)=length (mirK' k)∧0=0∧0=0∧length (mirK' k)=length (mirK' k)∧length (mirK' k)=
 length (mirK' k)∧(↑zz0:Int)=(↑zz0:Int)∧b.i+1=b.i+1∧zz1∧length (mirK' k)-Int.toNat (b.i+1)<length (mirK' k)-Int.toNat b.i∧True)∧((getD b.l (Int.toNat b.i) 0==
 1)=false→((getD b.l (Int.toNat b.i) 0==2)=true→inR u8 (3-getD b.l (Int.toNat b.i) 0)=true∧leb 0 b.i=true∧ltb b.i (↑zz0:Int)=true∧length b.l=length (mirK' k)∧
 length b.l=length (mirK' k)∧len' (Int.toNat b.i+1) (Cont.size (Cont.ints u8 b.l))=true∧inR i64 (b.i+1)=true∧1=1∧Cont.ints i64 a=Cont.ints i64 a∧length a=length a∧
 Cont.ints u8 k=Cont.ints u8 k∧length k=length k∧1=1∧length b.l=length zz2∧set b.l (Int.toNat b.i) (3-getD b.l (Int.toNat b.i) 0)=set b.l (Int.toNat b.i) (3-getD b.l
 (Int.toNat b.i) 0)∧1=1∧Cont.ints i64 (reverse a)=Cont.ints i64 (reverse a)∧length (reverse a)=length (reverse a)∧length (reverse a)=length (reverse a)∧length (mirK' k)=
 length (mirK' k)∧length (mirK' k)=length (mirK' k)∧0=0∧0=0∧length (mirK' k)=length (mirK' k)∧length (mirK' k)=length (mirK' k)∧(↑zz0:Int)=(↑zz0:Int)∧b.i+1=
 b.i+1∧zz1∧length (mirK' k)-Int.toNat (b.i+1)<length (mirK' k)-Int.toNat b.i∧True)∧((getD b.l (Int.toNat b.i) 0==2)=false→inR i64 (b.i+1)=true∧1=1∧Cont.ints
 i64 a=Cont.ints i64 a∧length a=length a∧Cont.ints u8 k=Cont.ints u8 k∧length k=length k∧1=1∧length b.l=length b.l∧b.l=b.l∧1=1∧Cont.ints i64 (reverse a)=
 Cont.ints i64 (reverse a)∧length (reverse a)=length (reverse a)∧length (reverse a)=length (reverse a)∧length (mirK' k)=length (mirK' k)∧length (mirK' k)=length (mirK' k)∧0
 =0∧0=0∧length (mirK' k)=length (mirK' k)∧length (mirK' k)=length (mirK' k)∧(↑zz0:Int)=(↑zz0:Int)∧b.i+1=b.i+1∧(∃(n:Nat),b.i+1=(↑n:Int)∧n≤length
 (mirK' k)∧b.l=take n (ovK' (mirK' k))++drop n (mirK' k))∧length (mirK' k)-Int.toNat (b.i+1)<length (mirK' k)-Int.toNat b.i∧True)))∧(ltb b.i (↑zz0:Int)=false→length
 b.l=length (mirK' k)∧Cont.ints i64 (reverse a)=Cont.ints i64 (reverse a)∧length (reverse a)=length (reverse a)∧length (reverse a)=length (reverse a)∧Cont.ints u8 b.l=
 Cont.ints u8 (ovK' (mirK' k))∧length (mirK' k)=length (ovK' (mirK' k))∧length (mirK' k)=length (ovK' (mirK' k))∧True)) (∃(n:Nat),b.i+1=(↑n:Int)∧n≤length (mirK' k)∧
 set b.l (Int.toNat b.i) (3-getD b.l (Int.toNat b.i) 0)=take n (ovK' (mirK' k))++drop n (mirK' k))) (set b.l (Int.toNat b.i) (3-getD b.l (Int.toNat b.i) 0))) (length (mirK' k))):=by kernel_rfl

theorem ob_o21z (a:List Int):fnP (UOz) G 10000 fe24 (.r [] 0 (.r [] 5 (.r [] 1 (.un (.r [] 0 (.lit (.r [] 3 .nil))))))) ([.agg [.imm (.ints .i64 a) a.length none,.imm (.ints .u8 []) 0 none]]) ([fanC a.reverse []]) ([])=(
 (length a=length a∧0=0∧length a<100000000000∧0<100000000000)∧Cont.ints i64 (reverse a)=Cont.ints i64 (reverse a)∧length (reverse a)=length (reverse a)∧length (reverse a)=
 length (reverse a)∧Cont.ints u8 []=Cont.ints u8 []∧0=0∧0=0∧True):=by kernel_rfl

end Go.Proofs.YthiammkiobbclaaGreatDoor.X
/-
 What is to be shown of the functions (made by a program).
-/
set_option maxRecDepth 1000000
set_option linter.unusedVariables false
namespace Go.Proofs.YthiammkiobbclaaGreatDoor.X
open Go Go.Ab
open List IntKind

theorem ob_o38 (a k:List Int):fnP (TB1) G 10000 fe64 (.r [] 0 (.r [] 1 (.r [] 0 (.cnd (.r [] 0 .nil) (.r [] 1 (.r [] 0 (.frz 4 0 (.r [] 1 (.gho 5 9001 1 (Cont.ints i64 []) (.lp (l38 a k) [] [] (fun b=>(.r [] 0 (.cnd (.r [] 0 (.r [] 33 (.cnd (.r [] 0 .nil) (.r [] 0 (.un (.r [] 0 (.lit (.r [] 7 (.r [] 1 (.cnd (.r [] 0 .nil) (.r [] 1 (.un (.r [] 0 (.lit (.r [] 7 (.r [] 1 (.cnd (.r [] 0 .nil) (.r [] 1 (.un (.r [] 0 (.lit (.r [] 4 (.r [] 0 .nil))))))))))))))))))))))) (.frz 5 0 (.r [] 0 .nil))))))))))))))) ([fanV a k]) ([immL .i64 (stI a k)]) ([])=(
 (ltb (↑(length a):Int) 4=true→Cont.size (Cont.ints i64 (stI a k))=0∧length (stI a k)=0∧length (stI a k)=0∧True)∧(ltb (↑(length a):Int) 4=false→1=1∧Cont.ints i64
 a=Cont.ints i64 a∧length a=length a∧Cont.ints u8 k=Cont.ints u8 k∧length k=length k∧1=1∧(↑(length a):Int)=(↑(length a):Int)∧0=0∧iL []=[]∧0=0∧Cont.vals
 [AV.int i64 (↑(length a):Int)]=Cont.vals [AV.int i64 (↑(length a):Int)]∧0=0∧Cont.ints i64 a=Cont.ints i64 a∧length a=length a∧(↑(length a):Int)=(↑(length a):Int)∧
 iI 0=0∧(∃(n:Nat),0=(↑n:Int)∧n≤length a∧[]=inL (filter (stB a k) (range.loop n [])))∧∀(b:L38),(fun(zz3:Int)=>(fun(zz2:Prop)=>(fun(zz1:Int)=>(fun(zz0
 :Int)=>(fun(zz4:Bool)=>(∃(n:Nat),b.i=(↑n:Int)∧n≤length a∧b.l=inL (filter (stB a k) (range.loop n [])))→(ltb b.i (↑(length a):Int)=true→leb 0 b.i=true∧ltb
 b.i (↑(length a):Int)=true∧ltn 0 (Cont.size (Cont.ints i64 a))=true∧ltn 0 (Cont.size (Cont.ints i64 (drop (Int.toNat b.i) a)))=true∧leb 0 b.i=true∧ltb b.i (↑(length k):
 Int)=true∧ltn 0 (Cont.size (Cont.ints u8 k))=true∧ltn 0 (Cont.size (Cont.ints u8 (drop (Int.toNat b.i) k)))=true∧inR i64 (b.i+1)=true∧(0<(↑(length a):Int)∧(↑(length
 a):Int)<1000000000000∧ -1000000000000<b.i+1∧b.i+1<1000000000000)∧leb 0 zz0=true∧ltb zz0 (↑(length k):Int)=true∧ltn 0 (Cont.size (Cont.ints u8 k))=true∧ltn 0
 (Cont.size (Cont.ints u8 (drop (Int.toNat zz0) k)))=true∧(zz4=true→inR i64 (b.i+1)=true∧1=1∧Cont.ints i64 a=Cont.ints i64 a∧length a=length a∧Cont.ints u8 k=
 Cont.ints u8 k∧length k=length k∧1=1∧(↑(length a):Int)=(↑(length a):Int)∧length b.l=length b.l∧b.l=b.l∧0=0∧Cont.vals [AV.int i64 (↑(length a):Int)]=
 Cont.vals [AV.int i64 (↑(length a):Int)]∧length b.l=length b.l∧Cont.ints i64 a=Cont.ints i64 a∧length a=length a∧(↑(length a):Int)=(↑(length a):Int)∧b.i+1=b.i+1
 ∧zz2∧length a-Int.toNat (b.i+1)<length a-Int.toNat b.i∧True)∧(zz4=false→inR i64 (b.i-1)=true∧(0<(↑(length a):Int)∧(↑(length a):Int)<1000000000000∧
 -1000000000000<b.i-1∧b.i-1<1000000000000)∧inR i64 (b.i+1)=true∧(0<(↑(length a):Int)∧(↑(length a):Int)<1000000000000∧ -1000000000000<b.i+1∧b.i+1<
 1000000000000)∧leb 0 zz1=true∧ltb zz1 (↑(length a):Int)=true∧ltn 0 (Cont.size (Cont.ints i64 a))=true∧ltn 0 (Cont.size (Cont.ints i64 (drop (Int.toNat zz1) a)))=true∧(ltb
 (getD (drop (Int.toNat zz1) a) 0 0) zz3=true→inR i64 (b.i+1)=true∧1=1∧Cont.ints i64 a=Cont.ints i64 a∧length a=length a∧Cont.ints u8 k=Cont.ints u8 k∧length k=
 length k∧1=1∧(↑(length a):Int)=(↑(length a):Int)∧length b.l=length b.l∧b.l=b.l∧0=0∧Cont.vals [AV.int i64 (↑(length a):Int)]=Cont.vals [AV.int i64 (↑(length a):
 Int)]∧length b.l=length b.l∧Cont.ints i64 a=Cont.ints i64 a∧length a=length a∧(↑(length a):Int)=(↑(length a):Int)∧b.i+1=b.i+1∧zz2∧length a-Int.toNat (b.i+
 1)<length a-Int.toNat b.i∧True)∧(ltb (getD (drop (Int.toNat zz1) a) 0 0) zz3=false→leb 0 zz0=true∧ltb zz0 (↑(length a):Int)=true∧ltn 0 (Cont.size (Cont.ints i64 a))=
 true∧ltn 0 (Cont.size (Cont.ints i64 (drop (Int.toNat zz0) a)))=true∧(ltb (getD (drop (Int.toNat zz0) a) 0 0) zz3=true→inR i64 (b.i+1)=true∧1=1∧Cont.ints i64 a=
 Cont.ints i64 a∧length a=length a∧Cont.ints u8 k=Cont.ints u8 k∧length k=length k∧1=1∧(↑(length a):Int)=(↑(length a):Int)∧length b.l=length b.l∧b.l=b.l∧0=
 0∧Cont.vals [AV.int i64 (↑(length a):Int)]=Cont.vals [AV.int i64 (↑(length a):Int)]∧length b.l=length b.l∧Cont.ints i64 a=Cont.ints i64 a∧length a=length a∧(↑(length a)
 :Int)=(↑(length a):Int)∧b.i+1=b.i+1∧zz2∧length a-Int.toNat (b.i+1)<length a-Int.toNat b.i∧True)∧(ltb (getD (drop (Int.toNat zz0) a) 0 0) zz3=false→length b.l
 =length b.l∧len' ((length b.l+1)*8) 140737488355328=true∧inR i64 (b.i+1)=true∧1=1∧Cont.ints i64 a=Cont.ints i64 a∧length a=length a∧Cont.ints u8 k=Cont.ints u8
 k∧length k=length k∧1=1∧(↑(length a):Int)=(↑(length a):Int)∧length b.l+1=length (b.l++[b.i])∧b.l++[b.i]=b.l++[b.i]∧0=0∧Cont.vals [AV.int i64 (↑(length
 a):Int)]=Cont.vals [AV.int i64 (↑(length a):Int)]∧length b.l+1=length (b.l++[b.i])∧Cont.ints i64 a=Cont.ints i64 a∧length a=length a∧(↑(length a):Int)=(↑(length
 a):Int)∧b.i+1=b.i+1∧(∃(n:Nat),b.i+1=(↑n:Int)∧n≤length a∧b.l++[b.i]=inL (filter (stB a k) (range.loop n [])))∧length a-Int.toNat (b.i+1)<length a-
 Int.toNat b.i∧True))))∧(ltb b.i (↑(length a):Int)=false→length b.l=length b.l∧length b.l=length b.l∧Cont.ints i64 b.l=Cont.ints i64 (stI a k)∧length b.l=length (stI a
 k)∧length b.l=length (stI a k)∧True)) (getD (drop (Int.toNat b.i) k) 0 0==getD (drop (Int.toNat zz0) k) 0 0)) (Int.tmod (b.i+1+(↑(length a):Int)) (↑(length a):Int)))
 (Int.tmod (b.i-1+(↑(length a):Int)) (↑(length a):Int))) (∃(n:Nat),b.i+1=(↑n:Int)∧n≤length a∧b.l=inL (filter (stB a k) (range.loop n [])))) (getD (drop (Int.toNat
 b.i) a) 0 0))):=by kernel_rfl

theorem ob_o40 (a k:List Int)(i:Int):fnP (TB1) G 10000 fe65 (.r [] 0 (.r [] 1 (.r [] 1 (.r [] 0 (.frz 6 0 (.r [] 0 (.ghc 256 0 9001 1 (Cont.ints i64 []) (.ghc 256 1 9002 1 (Cont.ints u8 []) (.lp (l40 a k (Int.toNat i)) [] [] (fun b=>(.r [] 0 (.cnd (.r [] 0 (.rs 4 [] 0 22 (.r [] 3 (.lit (.r [] 0 .nil))) (.r [] 12 (.cnd (.r [] 0 .nil) (.r [] 1 (.r [] 0 (.cnd (.r [] 129 (.r [] 28729 (.r [] 0 .nil))) (.r [] 28729 (.r [] 0 .nil))))))))) (.frz 7 0 (.r [] 21 .nil)))))))))))))) ([fanV a k,.int .i64 i]) ([.agg [immL .i64 (doneA a i.toNat),immL .u8 (doneK k i.toNat)]]) ([])=(
 (fun(zz5:Int)=>(fun(zz4:List Int)=>(fun(zz0:List Int)=>1=1∧Cont.ints i64 a=Cont.ints i64 a∧length a=length a∧Cont.ints u8 k=Cont.ints u8 k∧length k=length k
 ∧1=1∧1=1∧(↑(length a):Int)=(↑(length a):Int)∧1=1∧0=0∧0=0∧0=0∧iL []=[]∧0=0∧iL []=[]∧i=i∧0=0∧0=0∧Cont.vals [AV.int i64 (↑(length a):
 Int)]=Cont.vals [AV.int i64 (↑(length a):Int)]∧0=0∧(↑(length a):Int)=(↑(length a):Int)∧iI 0=0∧(∃(n:Nat),0=(↑n:Int)∧n≤length a∧[]=map (valF a (Int.toNat
 i)) (keepL (length a) (Int.toNat i) n)∧[]=map (gt k) (keepL (length a) (Int.toNat i) n))∧∀(b:L40),(fun(zz7:Bool)=>(fun(zz6:Bool)=>(fun(zz3:Prop)=>(fun(zz2:List
 Int)=>(fun(zz1:List Int)=>(∃(n:Nat),b.i=(↑n:Int)∧n≤length a∧b.a=map (valF a (Int.toNat i)) (keepL (length a) (Int.toNat i) n)∧b.k=map (gt k) (keepL (length a)
 (Int.toNat i) n))→(ltb b.i (↑(length a):Int)=true→((b.i==i)=true→inR i64 (b.i+1)=true∧1=1∧Cont.ints i64 a=Cont.ints i64 a∧length a=length a∧Cont.ints u8 k=
 Cont.ints u8 k∧length k=length k∧1=1∧1=1∧(↑(length a):Int)=(↑(length a):Int)∧1=1∧length b.a=length b.a∧length b.k=length b.k∧length b.a=length b.a∧b.a=
 b.a∧length b.k=length b.k∧b.k=b.k∧i=i∧0=0∧0=0∧Cont.vals [AV.int i64 (↑(length a):Int)]=Cont.vals [AV.int i64 (↑(length a):Int)]∧0=0∧(↑(length a):Int)=
 (↑(length a):Int)∧b.i+1=b.i+1∧zz3∧length a-Int.toNat (b.i+1)<length a-Int.toNat b.i∧True)∧((b.i==i)=false→inR i64 (i+1)=true∧(0<(↑(length a):Int)∧
 (↑(length a):Int)<1000000000000∧ -1000000000000<i+1∧i+1<1000000000000)∧(zz6=true→inR i64 (b.i+1)=true∧1=1∧Cont.ints i64 a=Cont.ints i64 a∧length a=length
 a∧Cont.ints u8 k=Cont.ints u8 k∧length k=length k∧1=1∧1=1∧(↑(length a):Int)=(↑(length a):Int)∧1=1∧length b.a=length b.a∧length b.k=length b.k∧length b.a
 =length b.a∧b.a=b.a∧length b.k=length b.k∧b.k=b.k∧i=i∧0=0∧0=0∧Cont.vals [AV.int i64 (↑(length a):Int)]=Cont.vals [AV.int i64 (↑(length a):Int)]∧0=0∧
 (↑(length a):Int)=(↑(length a):Int)∧b.i+1=b.i+1∧zz3∧length a-Int.toNat (b.i+1)<length a-Int.toNat b.i∧True)∧(zz6=false→leb 0 b.i=true∧ltb b.i (↑(length
 a):Int)=true∧ltn 0 (Cont.size (Cont.ints i64 a))=true∧ltn 0 (Cont.size (Cont.ints i64 zz1))=true∧inR i64 (i-1)=true∧(0<(↑(length a):Int)∧(↑(length a):Int)<
 1000000000000∧ -1000000000000<i-1∧i-1<1000000000000)∧(zz7=true→inR i64 (i+1)=true∧(0<(↑(length a):Int)∧(↑(length a):Int)<1000000000000∧ -1000000000000<i+
 1∧i+1<1000000000000)∧leb 0 zz5=true∧ltb zz5 (↑(length a):Int)=true∧ltn 0 (Cont.size (Cont.ints i64 a))=true∧ltn 0 (Cont.size (Cont.ints i64 zz0))=true∧leb 0 i=
 true∧ltb i (↑(length a):Int)=true∧ltn 0 (Cont.size (Cont.ints i64 a))=true∧ltn 0 (Cont.size (Cont.ints i64 zz4))=true∧inR i64 (getD zz0 0 0-getD zz4 0 0)=true∧inR i64
 (getD zz1 0 0+(getD zz0 0 0-getD zz4 0 0))=true∧length b.a=length b.a∧len' ((length b.a+1)*8) 140737488355328=true∧leb 0 b.i=true∧ltb b.i (↑(length k):Int)=true∧
 ltn 0 (Cont.size (Cont.ints u8 k))=true∧ltn 0 (Cont.size (Cont.ints u8 zz2))=true∧length b.k=length b.k∧len' ((length b.k+1)*1) 140737488355328=true∧inR i64 (b.i+1)=
 true∧1=1∧Cont.ints i64 a=Cont.ints i64 a∧length a=length a∧Cont.ints u8 k=Cont.ints u8 k∧length k=length k∧1=1∧1=1∧(↑(length a):Int)=(↑(length a):Int)∧1
 =1∧length b.a+1=length (b.a++[getD zz1 0 0+(getD zz0 0 0-getD zz4 0 0)])∧length b.k+1=length (b.k++[getD zz2 0 0])∧length b.a+1=length (b.a++[getD zz1 0 0+
 (getD zz0 0 0-getD zz4 0 0)])∧b.a++[getD zz1 0 0+(getD zz0 0 0-getD zz4 0 0)]=b.a++[getD zz1 0 0+(getD zz0 0 0-getD zz4 0 0)]∧length b.k+1=length (b.k++[getD zz2 0
 0])∧b.k++[getD zz2 0 0]=b.k++[getD zz2 0 0]∧i=i∧0=0∧0=0∧Cont.vals [AV.int i64 (↑(length a):Int)]=Cont.vals [AV.int i64 (↑(length a):Int)]∧0=0∧(↑(length a):
 Int)=(↑(length a):Int)∧b.i+1=b.i+1∧(∃(n:Nat),b.i+1=(↑n:Int)∧n≤length a∧b.a++[getD zz1 0 0+(getD zz0 0 0-getD zz4 0 0)]=map (valF a (Int.toNat i)) (keepL
 (length a) (Int.toNat i) n)∧b.k++[getD zz2 0 0]=map (gt k) (keepL (length a) (Int.toNat i) n))∧length a-Int.toNat (b.i+1)<length a-Int.toNat b.i∧True)∧(zz7=false→
 length b.a=length b.a∧len' ((length b.a+1)*8) 140737488355328=true∧leb 0 b.i=true∧ltb b.i (↑(length k):Int)=true∧ltn 0 (Cont.size (Cont.ints u8 k))=true∧ltn 0
 (Cont.size (Cont.ints u8 zz2))=true∧length b.k=length b.k∧len' ((length b.k+1)*1) 140737488355328=true∧inR i64 (b.i+1)=true∧1=1∧Cont.ints i64 a=Cont.ints i64 a∧
 length a=length a∧Cont.ints u8 k=Cont.ints u8 k∧length k=length k∧1=1∧1=1∧(↑(length a):Int)=(↑(length a):Int)∧1=1∧length b.a+1=length (b.a++[getD zz1 0
 0])∧length b.k+1=length (b.k++[getD zz2 0 0])∧length b.a+1=length (b.a++[getD zz1 0 0])∧b.a++[getD zz1 0 0]=b.a++[getD zz1 0 0]∧length b.k+1=length (b.k++
 [getD zz2 0 0])∧b.k++[getD zz2 0 0]=b.k++[getD zz2 0 0]∧i=i∧0=0∧0=0∧Cont.vals [AV.int i64 (↑(length a):Int)]=Cont.vals [AV.int i64 (↑(length a):Int)]∧0=0∧
 (↑(length a):Int)=(↑(length a):Int)∧b.i+1=b.i+1∧(∃(n:Nat),b.i+1=(↑n:Int)∧n≤length a∧b.a++[getD zz1 0 0]=map (valF a (Int.toNat i)) (keepL (length a)
 (Int.toNat i) n)∧b.k++[getD zz2 0 0]=map (gt k) (keepL (length a) (Int.toNat i) n))∧length a-Int.toNat (b.i+1)<length a-Int.toNat b.i∧True))))∧(ltb b.i (↑(length a):
 Int)=false→length b.a=length b.a∧length b.k=length b.k∧length b.a=length b.a∧length b.k=length b.k∧Cont.ints i64 b.a=Cont.ints i64 (doneA a (Int.toNat i))∧length b.a
 =length (doneA a (Int.toNat i))∧length b.a=length (doneA a (Int.toNat i))∧Cont.ints u8 b.k=Cont.ints u8 (doneK k (Int.toNat i))∧length b.k=length (doneK k (Int.toNat i))∧
 length b.k=length (doneK k (Int.toNat i))∧True)) (drop (Int.toNat b.i) a)) (drop (Int.toNat b.i) k)) (∃(n:Nat),b.i+1=(↑n:Int)∧n≤length a∧b.a=map (valF a (Int.toNat i))
 (keepL (length a) (Int.toNat i) n)∧b.k=map (gt k) (keepL (length a) (Int.toNat i) n))) (b.i==Int.tmod (i+1+(↑(length a):Int)) (↑(length a):Int))) (b.i==Int.tmod (i-1+
 (↑(length a):Int)) (↑(length a):Int))) (drop (Int.toNat zz5) a)) (drop (Int.toNat i) a)) (Int.tmod (i+1+(↑(length a):Int)) (↑(length a):Int))):=by kernel_rfl

end Go.Proofs.YthiammkiobbclaaGreatDoor.X
/-
 The contracts of the functions that fold angles away.
-/
set_option maxRecDepth 1000000
set_option linter.unusedVariables false
set_option linter.unusedSimpArgs false
namespace Go.Proofs.YthiammkiobbclaaGreatDoor.X
open Go Go.Ab

theorem tm1 {j n:Nat}:((j:Int)+1+n).tmod n=(((j+1)%n:Nat):Int):=by
 have e:(j:Int)+1+n=((j+1+n:Nat):Int):=by omega
 rw[e]
 change (((j+1+n)%n:Nat):Int)=_
 rw[Nat.add_mod_right]
theorem tm2 {j n:Nat}(h:0<n):((j:Int)-1+n).tmod n=(((j+n-1)%n:Nat):Int):=by
 have e:(j:Int)-1+n=((j+n-1:Nat):Int):=by omega
 rw[e]
 rfl
theorem filter_yes {p:Nat→Bool}{n:Nat}(h:p n=true):(List.range (n+1)).filter p=(List.range n).filter p++[n]:=by
 rw[List.range_succ,List.filter_append];simp[h]
theorem filter_no {p:Nat→Bool}{n:Nat}(h:p n=false):(List.range (n+1)).filter p=(List.range n).filter p:=by
 rw[List.range_succ,List.filter_append];simp[h]
theorem inL_yes {p:Nat→Bool}{n:Nat}{l:List Int}(hl:l=inL ((List.range n).filter p))(h:p n=true):l++[(n:Int)]=inL ((List.range (n+1)).filter p):=by
 rw[filter_yes h,hl];simp[inL]
theorem inL_no {p:Nat→Bool}{n:Nat}{l:List Int}(hl:l=inL ((List.range n).filter p))(h:p n=false):l=inL ((List.range (n+1)).filter p):=by
 rw[filter_no h,hl]
theorem inL_len {p:Nat→Bool}{n:Nat}{l:List Int}(hl:l=inL ((List.range n).filter p)):l.length≤n:=by
 rw[hl];simp only[inL,List.length_map]
 exact Nat.le_trans (List.length_filter_le _ _) (by simp)
theorem stB_iff {a k:List Int}{n:Nat}:stB a k n=true↔¬ k[n]?.getD 0=k[(n+1)%a.length]?.getD 0∧a[n]?.getD 0≤a[(n+a.length-1)%a.length]?.getD 0∧a[n]?.getD 0≤a[(n+1)%a.length]?.getD 0:=by
 simp only[stB,Bool.and_eq_true,decide_eq_true_eq,Bool.not_eq_true',beq_eq_false_iff_ne,ne_eq]
 exact Iff.rfl
theorem stB_no {a k:List Int}{n:Nat}(h:¬ (¬ k[n]?.getD 0=k[(n+1)%a.length]?.getD 0∧a[n]?.getD 0≤a[(n+a.length-1)%a.length]?.getD 0∧a[n]?.getD 0≤a[(n+1)%a.length]?.getD 0)):stB a k n=false:=by
 cases e:stB a k n with
 |false=>rfl
 |true=>exact absurd (stB_iff.1 e) h
theorem sp38 (a k:List Int)(hk:k.length=a.length)(hz:a.length<1000000000):SpecP Tryz.prog G 64 [fanV a k] (immL .i64 (stI a k)) []:=by
 refine fnP_spec hcm hmx TB1ok ok64 rfl (ob_o38 a k) ?_
 dsimp -failIfUnchanged -proj -eta -iota -zeta only
 simp only[ltb_iff,ltb_no,leb_iff,leb_no,ltn_iff,ltn_no,len'_iff,len'_no,inR_i64,inR_u8,inR_i32,size_ints,size_bools,size_vals,size_cells,getD_drop,List.getElem?_drop,beq_iff_eq,beq_eq_false_iff_ne,bne_iff_ne,bne_eq_false_iff_eq,ne_eq,Nat.zero_add,Nat.add_zero,Nat.mul_one,Int.toNat_natCast,and_true,true_and,List.length_drop,List.length_append,List.length_cons,List.length_nil,List.length_set,List.getD_eq_getElem?_getD,implies_true,iI,iL,Bool.not_eq_true',Bool.not_eq_false',Int.natCast_inj]
 refine⟨fun h4=>?_,fun h4=>⟨⟨0,rfl,by omega,rfl⟩,?_⟩⟩
 ·have h:a.length<4:=by omega
  have e:stI a k=[]:=by simp[stI,stepsN,h,inL]
  rw[e];simp
 ·have h4:¬ a.length<4:=by omega
  rintro⟨i,l⟩ ⟨n,rfl,hn,hl⟩
  have hlen:=inL_len hl
  simp only at hl hlen
  simp only[Int.toNat_natCast,tm1,tm2 (show 0<a.length by omega),hk]
  have hm1:(n+1)%a.length<a.length:=Nat.mod_lt _ (by omega)
  have hm2:(n+a.length-1)%a.length<a.length:=Nat.mod_lt _ (by omega)
  refine⟨fun hlt=>?_,fun hge=>?_⟩
  ·refine⟨by omega,by omega,by omega,by omega,by omega,by omega,by omega,by omega,by omega,by omega,by omega,by omega,by omega,by omega,fun he=>⟨by omega,⟨n+1,by omega,by omega,?_⟩,by omega⟩,fun he=>⟨by omega,by omega,by omega,by omega,by omega,by omega,by omega,by omega,fun h1=>⟨by omega,⟨n+1,by omega,by omega,?_⟩,by omega⟩,fun h1=>⟨by omega,by omega,by omega,by omega,fun h2=>⟨by omega,⟨n+1,by omega,by omega,?_⟩,by omega⟩,fun h2=>⟨by omega,by omega,⟨n+1,by omega,by omega,?_⟩,by omega⟩⟩⟩⟩
   ·exact inL_no hl (stB_no fun h=>h.1 he)
   ·exact inL_no hl (stB_no fun h=>by omega)
   ·exact inL_no hl (stB_no fun h=>by omega)
   ·exact inL_yes hl (stB_iff.2 ⟨he,h1,h2⟩)
  ·have e:n=a.length:=by omega
   subst e
   have e2:l=inL (stepsN a k):=by rw[hl,stepsN,if_neg h4];rfl
   exact⟨congrArg _ e2,congrArg _ e2,congrArg _ e2⟩
theorem ct38:CtOk Tryz.prog G 64 e38:=by
 intro args r h hp
 unfold e38 at h
 split at h<;>cases h
 obtain⟨rfl,rfl,h1,h2⟩:=hp
 exact(sp38 _ _ h1 h2).caps
theorem tlCok:CtsOk Tryz.prog G tlC:=⟨ct38,ct37,tlBok⟩
theorem okF_ok:∀{a k:List Int} {s:Int},0≤s→okF a k s=true→(∀x∈a,1≤x∧x≤s)∧a.sum≤s∧∀x∈k,x=1∨x=2
 |[],[],s,hs,h=>⟨by simp,by simpa using hs,by simp⟩
 |x::a,y::k,s,hs,h=>by
  simp only[okF,Bool.and_eq_true,Bool.or_eq_true,beq_iff_eq,decide_eq_true_eq]at h
  obtain⟨h1,h2,h3,h4⟩:=h
  obtain⟨g1,g2,g3⟩:=okF_ok (by omega) h4
  refine⟨fun z hz=>?_,by simp;omega,fun z hz=>?_⟩
  ·rcases List.mem_cons.1 hz with rfl|hz
   ·omega
   ·have:=g1 z hz;omega
  ·rcases List.mem_cons.1 hz with rfl|hz
   ·exact h3
   ·exact g3 z hz
 |[],y::k,s,hs,h=>by simp[okF]at h
 |x::a,[],s,hs,h=>by simp[okF]at h
theorem memB_iff:∀{l:List Int} {x:Int} {i:Int},0≤i→(0≤idxL x l i↔x∈l)
 |[],x,i,h=>by simp[idxL]
 |y::l,x,i,h=>by
  simp only[idxL]
  split
  ·rename_i e;simp[e,h]
  ·rename_i e
   rw[memB_iff (by omega)]
   simp[e]
theorem memB_true {l:List Int}{x:Int}:memB l x=true↔x∈l:=by
 unfold memB
 rw[leb_iff];exact memB_iff (by omega)
theorem okF_get {a k:List Int}(h:okF a k 8=true){n:Nat}(hn:n<a.length):1≤a[n]?.getD 0∧a[n]?.getD 0≤8:=(okF_ok (by omega) h).1 _ (getD_mem hn)

theorem keep_no {n i m:Nat}(h:keepB n i m=false):keepL n i (m+1)=keepL n i m:=filter_no h
theorem keep_yes {n i m:Nat}(h:keepB n i m=true):keepL n i (m+1)=keepL n i m++[m]:=filter_yes h
theorem keep_len {n i m:Nat}:(keepL n i m).length≤m:=Nat.le_trans (List.length_filter_le _ _) (by simp)
theorem sp40 (a k:List Int)(i:Int)(hok:okF a k 8=true)(h2:2≤a.length)(h0:0≤i)(hi:i<a.length):SpecP Tryz.prog G 65 [fanV a k,.int .i64 i] (.agg [immL .i64 (doneA a i.toNat),immL .u8 (doneK k i.toNat)]) []:=by
 refine fnP_spec hcm hmx TB1ok ok65 rfl (ob_o40 a k i) ?_
 dsimp -failIfUnchanged -proj -eta -iota -zeta only
 obtain⟨hk,hz⟩:=okF_len hok
 have hz:=hz (by omega)
 obtain⟨m,rfl⟩:∃m:Nat,i=m:=⟨i.toNat,by omega⟩
 simp only[Int.toNat_natCast]
 have hm:m<a.length:=by omega
 simp only[ltb_iff,ltb_no,leb_iff,leb_no,ltn_iff,ltn_no,len'_iff,len'_no,inR_i64,inR_u8,inR_i32,size_ints,size_bools,size_vals,size_cells,getD_drop,List.getElem?_drop,beq_iff_eq,beq_eq_false_iff_ne,bne_iff_ne,bne_eq_false_iff_eq,ne_eq,Nat.zero_add,Nat.add_zero,Nat.mul_one,Int.toNat_natCast,and_true,true_and,List.length_drop,List.length_append,List.length_cons,List.length_nil,List.length_set,List.getD_eq_getElem?_getD,implies_true,iI,iL,Bool.not_eq_true',Bool.not_eq_false',Int.natCast_inj]
 refine⟨⟨0,rfl,by omega,rfl,rfl⟩,?_⟩
 rintro⟨j,A,K⟩ ⟨n,rfl,hn,hA,hK⟩
 simp only at hA hK
 have hla:A.length≤n:=by rw[hA];simpa using keep_len
 have hlk:K.length≤n:=by rw[hK];simpa using keep_len
 have hm1:(m+1)%a.length<a.length:=Nat.mod_lt _ (by omega)
 have hm2:(m+a.length-1)%a.length<a.length:=Nat.mod_lt _ (by omega)
 have g1:=okF_get hok hm1
 have g2:=okF_get hok hm
 simp only[Int.toNat_natCast,tm1,tm2 (show 0<a.length by omega),hk,List.length_append,List.length_cons,List.length_nil]
 refine⟨fun hlt=>?_,fun hge=>?_⟩
 ·have g3:=okF_get hok (show n<a.length by omega)
  have fin:keepB a.length m n=false→∃n_1:Nat,(n:Int)+1=n_1∧n_1≤a.length∧A=(keepL a.length m n_1).map (valF a m)∧K=(keepL a.length m n_1).map (gt k):=fun h=>⟨n+1,by omega,by omega,by rw[keep_no h,hA],by rw[keep_no h,hK]⟩
  have fy:keepB a.length m n=true→∀v w,valF a m n=v→gt k n=w→∃n_1:Nat,(n:Int)+1=n_1∧n_1≤a.length∧A++[v]=(keepL a.length m n_1).map (valF a m)∧K++[w]=(keepL a.length m n_1).map (gt k):=fun h v w hv hw=>⟨n+1,by omega,by omega,by rw[keep_yes h,hA];simp[hv],by rw[keep_yes h,hK];simp[hw]⟩
  refine⟨fun he=>⟨by omega,fin ?_,by omega⟩,fun he=>⟨by omega,by omega,fun h1=>⟨by omega,fin ?_,by omega⟩,fun h1=>⟨by omega,by omega,by omega,by omega,by omega,by omega,fun h3=>?_,fun h3=>?_⟩⟩⟩
  ·have:n=m:=by omega
   simp[keepB,this]
  ·have:n=(m+1)%a.length:=by omega
   simp[keepB,this]
  ·have hkb:keepB a.length m n=true:=by
    have e1:n≠m:=by omega
    have e2:n≠(m+1)%a.length:=by omega
    simp[keepB,e1,e2]
   have hv:valF a m n=a[n]?.getD 0+(a[(m+1)%a.length]?.getD 0-a[m]?.getD 0):=by
    have e3:n=(m+a.length-1)%a.length:=by omega
    unfold valF;rw[if_pos (by simpa using e3)];rfl
   refine⟨by omega,by omega,by omega,by omega,by omega,by omega,by omega,by omega,by omega,by omega,by omega,by omega,by omega,by omega,by omega,by omega,by omega,by omega,by omega,fy hkb _ _ hv rfl,by omega⟩
  ·have hkb:keepB a.length m n=true:=by
    have e1:n≠m:=by omega
    have e2:n≠(m+1)%a.length:=by omega
    simp[keepB,e1,e2]
   have hv:valF a m n=a[n]?.getD 0:=by
    have e3:n≠(m+a.length-1)%a.length:=by omega
    unfold valF;rw[if_neg (by simpa using e3)];rfl
   refine⟨by omega,by omega,by omega,by omega,by omega,by omega,by omega,fy hkb _ _ hv rfl,by omega⟩
 ·have e:n=a.length:=by omega
  subst e
  have eA:A=doneA a m:=hA
  have eK:K=doneK k m:=by rw[hK];unfold doneK;rw[hk]
  rw[eA,eK];simp
theorem ct40:CtOk Tryz.prog G 65 e40:=by
 intro args r h hp
 unfold e40 at h
 split at h<;>cases h
 obtain⟨rfl,rfl,h1,h2,h3,h4⟩:=hp
 exact(sp40 _ _ _ h1 h2 h3 h4).caps
theorem tlDok:CtsOk Tryz.prog G tlD:=⟨ct40,tlCok⟩
end Go.Proofs.YthiammkiobbclaaGreatDoor.X
/-
 The contracts of slices joined, cloned, reversed; of fans turned, mirrored, turned over.
-/
set_option maxRecDepth 1000000
set_option linter.unusedVariables false
set_option linter.unusedSimpArgs false
namespace Go.Proofs.YthiammkiobbclaaGreatDoor.X
open Go Go.Ab

theorem len_rot (l:List Int)(i:Nat):(rotL' l i).length=l.length:=by simp[rotL'];omega
theorem len_mir (l:List Int):(mirK' l).length=l.length:=by rw[mirK',len_rot,List.length_reverse]
theorem len_ov (l:List Int):(ovK' l).length=l.length:=by simp[ovK']
theorem chk_len {a k:List Int}(h:chk a k=0):a.length=k.length:=(chk_ok h).1
theorem ov_get {k:List Int}{j:Nat}(hj:j<k.length):(ovK' k)[j]?.getD 0=if k[j]?.getD 0=1∨k[j]?.getD 0=2 then 3-k[j]?.getD 0 else k[j]?.getD 0:=by
 rw[ovK',List.getElem?_map,List.getElem?_eq_getElem hj];rfl
theorem rev_get {a:List Int}{m:Nat}(h:m<a.length):a.reverse[m]?.getD 0=a[a.length-1-m]?.getD 0:=by
 rw[List.getElem?_reverse h]
theorem ext_getD {a b:List Int}(hl:a.length=b.length)(h:∀m,m<a.length→a[m]?.getD 0=b[m]?.getD 0):a=b:=by
 refine List.ext_getElem hl fun m h1 h2=>?_
 have:=h m h1
 rwa [List.getElem?_eq_getElem h1,List.getElem?_eq_getElem h2]at this
theorem set_getD {l:List Int}{i m:Nat}{v:Int}(h:i<l.length):(l.set i v)[m]?.getD 0=if i=m then v else l[m]?.getD 0:=by
 rw[List.getElem?_set]
 split
 ·simp_all
 ·rfl
theorem revStep {a l:List Int}{n:Nat}(hl:l.length=a.length)(hn:n<a.length-1-n)(h:∀m,m<a.length→l[m]?.getD 0=if m<n∨a.length≤m+n then a[a.length-1-m]?.getD 0 else a[m]?.getD 0):
  ∀m,m<a.length→((l.set n (l[a.length-1-n]?.getD 0)).set (a.length-1-n) (l[n]?.getD 0))[m]?.getD 0=if m<n+1∨a.length≤m+(n+1)then a[a.length-1-m]?.getD 0 else a[m]?.getD 0:=by
 intro m hm
 rw[set_getD (by simp;omega),set_getD (by omega)]
 have h1:=h n (by omega)
 have h2:=h (a.length-1-n) (by omega)
 rw[if_neg (by omega)]at h1 h2
 by_cases e1:a.length-1-n=m
 ·rw[if_pos e1,if_pos (by omega),h1];congr 2;omega
 ·rw[if_neg e1]
  by_cases e2:n=m
  ·rw[if_pos e2,if_pos (by omega),h2,e2]
  ·rw[if_neg e2,h m hm]
   by_cases e3:m<n∨a.length≤m+n
   ·rw[if_pos e3,if_pos (by omega)]
   ·rw[if_neg e3,if_neg (by omega)]
theorem revEnd {a l:List Int}{n:Nat}(hl:l.length=a.length)(hn:a.length≤2*n+1)(h:∀m,m<a.length→l[m]?.getD 0=if m<n∨a.length≤m+n then a[a.length-1-m]?.getD 0 else a[m]?.getD 0):l=a.reverse:=by
 refine ext_getD (by simp[hl]) fun m hm=>?_
 rw[rev_get (by omega),h m (by omega)]
 split
 ·rfl
 ·congr 2;omega

theorem sp85 (n:Int)(h0:0<n)(h1:n<1000000000000):SpecP Tryz.prog G 88 [.nils,.int .i64 n] (.full 0 0) [blkN .i64 []]:=by
 refine fnP_spec hcm hmx T0ok ok88 rfl (ob_o85 n) ?_
 simp
 omega
theorem ct85:CtOk Tryz.prog G 88 (eGrow .i64 8):=by
 intro args r h hp
 unfold eGrow at h
 split at h<;>cases h
 obtain⟨h0,h1⟩:=hp
 exact sp85 _ h0 h1

theorem sp86 (n:Int)(h0:0<n)(h1:n<1000000000000):SpecP Tryz.prog G 89 [.nils,.int .i64 n] (.full 0 0) [blkN .u8 []]:=by
 refine fnP_spec hcm hmx T0ok ok89 rfl (ob_o86 n) ?_
 simp
 omega
theorem ct86:CtOk Tryz.prog G 89 (eGrow .u8 1):=by
 intro args r h hp
 unfold eGrow at h
 split at h<;>cases h
 obtain⟨h0,h1⟩:=hp
 exact sp86 _ h0 h1

theorem uAok:CtsOk Tryz.prog G uA:=⟨ct85,ct86,tlDok⟩
theorem UAok:TabOk Tryz.prog G UA:=tabL_ok noCh_ok uAok

theorem sp65 (x y:List Int)(h0:0<x.length+y.length)(h1:x.length+y.length<100000000000):SpecP Tryz.prog G 66 [.imm (.vals [.imm (.ints .i64 x) x.length none,.imm (.ints .i64 y) y.length none]) 2 none] (.full 0 (x++y).length) [blkN .i64 (x++y)]:=by
 refine fnP_spec hcm hmx UAok ok66 rfl (ob_o65 x y) ?_
 simp
 omega
theorem ct65:CtOk Tryz.prog G 66 (eCat .i64):=by
 intro args r h hp
 unfold eCat at h
 split at h
 ·rw[cond_eq_ite]at h
  split at h
  ·rename_i hk
   rw[Bool.and_eq_true]at hk
   cases h
   obtain⟨rfl,rfl,h0,h1⟩:=hp
   cases beqK_ok hk.1;cases beqK_ok hk.2
   exact(sp65 _ _ h0 h1).caps
  ·cases h
 ·cases h

theorem sp66 (x y:List Int)(h0:0<x.length+y.length)(h1:x.length+y.length<100000000000):SpecP Tryz.prog G 68 [.imm (.vals [.imm (.ints .u8 x) x.length none,.imm (.ints .u8 y) y.length none]) 2 none] (.full 0 (x++y).length) [blkN .u8 (x++y)]:=by
 refine fnP_spec hcm hmx UAok ok68 rfl (ob_o66 x y) ?_
 simp
 omega
theorem ct66:CtOk Tryz.prog G 68 (eCat .u8):=by
 intro args r h hp
 unfold eCat at h
 split at h
 ·rw[cond_eq_ite]at h
  split at h
  ·rename_i hk
   rw[Bool.and_eq_true]at hk
   cases h
   obtain⟨rfl,rfl,h0,h1⟩:=hp
   cases beqK_ok hk.1;cases beqK_ok hk.2
   exact(sp66 _ _ h0 h1).caps
  ·cases h
 ·cases h

theorem uBok:CtsOk Tryz.prog G uB:=⟨ct65,ct66,uAok⟩

theorem sp41b (a:List Int):SpecD Tryz.prog G (.fn 40 [] []) [.full 8640 a.length] [(8640,.blk (blkN .i64 a))] (.fullc 8640 a.length a.length) [] []:=by
 refine fnD_spec hcm hmx T0ok ok40 rfl (ob_d_41b a) ?_
 simp
theorem sp41t (a:List Int):SpecD Tryz.prog G (.fn 40 [] []) [.full 8256 a.length] [(8256,.blk (blkN .i64 a))] (.fullc 8256 a.length a.length) [] []:=by
 refine fnD_spec hcm hmx T0ok ok40 rfl (ob_d_41t a) ?_
 simp
theorem sp68 (a:List Int)(hl:a.length<1000000000000):SpecD Tryz.prog G (.fn 69 [] []) [.fullc 8256 a.length a.length] [(8256,.blk (blkN .i64 a))] (.tup []) [(8256,.blk (blkN .i64 a.reverse))] []:=by
 refine fnD_spec hcm hmx T0ok ok69 rfl (ob_d_68 a) ?_
 dsimp -failIfUnchanged -proj -eta -iota -zeta only
 simp only[ltb_iff,ltb_no,leb_iff,leb_no,ltn_iff,ltn_no,len'_iff,len'_no,inR_i64,inR_u8,inR_i32,size_ints,size_bools,size_vals,size_cells,getD_drop,List.getElem?_drop,beq_iff_eq,beq_eq_false_iff_ne,bne_iff_ne,bne_eq_false_iff_eq,ne_eq,Nat.zero_add,Nat.add_zero,Nat.mul_one,Int.toNat_natCast,and_true,true_and,List.length_drop,List.length_append,List.length_cons,List.length_nil,List.length_set,List.getD_eq_getElem?_getD,implies_true,iI,iL,Bool.not_eq_true',Bool.not_eq_false',Int.natCast_inj]
 refine⟨by omega,⟨0,rfl,by omega,by omega,fun m hm=>by rw[if_neg (by omega)]⟩,?_⟩
 rintro⟨i,j,l⟩ ⟨n,rfl,rfl,h1,h2,h3⟩
 simp only[Int.toNat_natCast]at h2 h3 ⊢
 refine⟨fun hlt=>?_,fun hge=>?_⟩
 ·have ej:((a.length:Int)-1-n).toNat=a.length-1-n:=by omega
  rw[ej]
  have hs:=revStep h2 (by omega) h3
  refine⟨by omega,by omega,by omega,by omega,by omega,by omega,by omega,by omega,by omega,by omega,by omega,by omega,by omega,by omega,by omega,by omega,by omega,by omega,by omega,by omega,by omega,by omega,⟨n+1,by omega,by omega,by omega,by omega,hs⟩,by omega⟩
 ·have:=revEnd h2 (by omega) h3
  exact⟨by rw[this],this⟩

theorem sp61b (a:List Int):SpecD Tryz.prog G (.fn 67 [] []) [.full 8640 a.length] [(8640,.blk (blkN .u8 a))] (.fullc 8640 a.length a.length) [] []:=by
 refine fnD_spec hcm hmx T0ok ok67 rfl (ob_d_61b a) ?_
 simp
theorem sp61t (a:List Int):SpecD Tryz.prog G (.fn 67 [] []) [.full 8256 a.length] [(8256,.blk (blkN .u8 a))] (.fullc 8256 a.length a.length) [] []:=by
 refine fnD_spec hcm hmx T0ok ok67 rfl (ob_d_61t a) ?_
 simp
theorem sp70 (a:List Int)(hl:a.length<1000000000000):SpecD Tryz.prog G (.fn 71 [] []) [.fullc 8256 a.length a.length] [(8256,.blk (blkN .u8 a))] (.tup []) [(8256,.blk (blkN .u8 a.reverse))] []:=by
 refine fnD_spec hcm hmx T0ok ok71 rfl (ob_d_70 a) ?_
 dsimp -failIfUnchanged -proj -eta -iota -zeta only
 simp only[ltb_iff,ltb_no,leb_iff,leb_no,ltn_iff,ltn_no,len'_iff,len'_no,inR_i64,inR_u8,inR_i32,size_ints,size_bools,size_vals,size_cells,getD_drop,List.getElem?_drop,beq_iff_eq,beq_eq_false_iff_ne,bne_iff_ne,bne_eq_false_iff_eq,ne_eq,Nat.zero_add,Nat.add_zero,Nat.mul_one,Int.toNat_natCast,and_true,true_and,List.length_drop,List.length_append,List.length_cons,List.length_nil,List.length_set,List.getD_eq_getElem?_getD,implies_true,iI,iL,Bool.not_eq_true',Bool.not_eq_false',Int.natCast_inj]
 refine⟨by omega,⟨0,rfl,by omega,by omega,fun m hm=>by rw[if_neg (by omega)]⟩,?_⟩
 rintro⟨i,j,l⟩ ⟨n,rfl,rfl,h1,h2,h3⟩
 simp only[Int.toNat_natCast]at h2 h3 ⊢
 refine⟨fun hlt=>?_,fun hge=>?_⟩
 ·have ej:((a.length:Int)-1-n).toNat=a.length-1-n:=by omega
  rw[ej]
  have hs:=revStep h2 (by omega) h3
  refine⟨by omega,by omega,by omega,by omega,by omega,by omega,by omega,by omega,by omega,by omega,by omega,by omega,by omega,by omega,by omega,by omega,by omega,by omega,by omega,by omega,by omega,by omega,⟨n+1,by omega,by omega,by omega,by omega,hs⟩,by omega⟩
 ·have:=revEnd h2 (by omega) h3
  exact⟨by rw[this],this⟩

theorem chTok1 {k:IntKind}{id f1:Nat}(h1:∀a,SpecD Tryz.prog G (.fn f1 [] []) [.full id a.length] [(id,.blk (blkN k a))] (.fullc id a.length a.length) [] []):ChOk Tryz.prog G (chT1 k id f1):=by
 intro h cv args r hr hp
 unfold chT1 at hr
 split at hr
 ·simp only[cond_eq_ite]at hr
  split at hr
  ·rename_i hi
   rw[Bool.and_eq_true]at hi
   have e1:=Nat.eq_of_beq_eq_true hi.1;have e2:=Nat.eq_of_beq_eq_true hi.2;subst e1;subst e2
   cases hr
   obtain⟨rfl,rfl⟩:=hp
   exact h1 _
  ·cases hr
 ·cases hr
theorem chTok {k:IntKind}{id f1 f2:Nat}(h1:∀a,SpecD Tryz.prog G (.fn f1 [] []) [.full id a.length] [(id,.blk (blkN k a))] (.fullc id a.length a.length) [] [])(h2:∀a:List Int,a.length<1000000000000→SpecD Tryz.prog G (.fn f2 [] []) [.fullc id a.length a.length] [(id,.blk (blkN k a))] (.tup []) [(id,.blk (blkN k a.reverse))] []):ChOk Tryz.prog G (chT k id f1 f2):=by
 intro h cv args r hr hp
 unfold chT at hr
 split at hr
 ·simp only[cond_eq_ite]at hr
  split at hr
  ·rename_i hi
   rw[Bool.and_eq_true]at hi
   have e1:=Nat.eq_of_beq_eq_true hi.1;have e2:=Nat.eq_of_beq_eq_true hi.2;subst e1;subst e2
   cases hr
   obtain⟨rfl,rfl⟩:=hp
   exact h1 _
  ·cases hr
 ·simp only[cond_eq_ite]at hr
  split at hr
  ·rename_i hi
   rw[Bool.and_eq_true]at hi
   have e1:=Nat.eq_of_beq_eq_true hi.1;have e2:=Nat.eq_of_beq_eq_true hi.2;subst e1;subst e2
   cases hr
   obtain⟨rfl,rfl,rfl,hl⟩:=hp
   exact h2 _ hl
  ·cases hr
 ·cases hr
theorem UB42ok:TabOk Tryz.prog G UB42:=tabL_ok (chTok1 sp41b) uBok
theorem UB43ok:TabOk Tryz.prog G UB43:=tabL_ok (chTok1 sp61b) uBok

theorem sp42 (a:List Int)(i:Int)(h0:0<a.length)(hl:a.length<100000000000)(h1:0≤i)(h2:i≤a.length):SpecP Tryz.prog G 46 [.imm (.ints .i64 a) a.length none,.int .i64 i] (.fullc 0 (rotL' a i.toNat).length (rotL' a i.toNat).length) [blkN .i64 (rotL' a i.toNat)]:=by
 refine fnP_spec hcm hmx UB42ok ok46 rfl (ob_o42 a i) ?_
 simp[rotL',h1]
 omega
theorem ct42:CtOk Tryz.prog G 46 (eBegun .i64):=by
 intro args r h hp
 unfold eBegun at h
 split at h
 ·rw[cond_eq_ite]at h
  split at h
  ·rename_i hk
   cases h
   cases beqK_ok hk
   obtain⟨rfl,h0,hl,h1,h2⟩:=hp
   exact(sp42 _ _ h0 hl h1 h2).caps
  ·cases h
 ·cases h
theorem sp67 (a:List Int)(h0:0<a.length)(hl:a.length<100000000000):SpecP Tryz.prog G 41 [.imm (.ints .i64 a) a.length none] (.full 0 a.length) [blkN .i64 a]:=by
 refine fnP_spec hcm hmx T0ok ok41 rfl (ob_o67 a) ?_
 simp[h0]
 omega
theorem sp67z:SpecP Tryz.prog G 41 [.imm (.ints .i64 []) 0 none] (.imm (.ints .i64 []) 0 none) []:=by
 refine fnP_spec hcm hmx T0ok ok41 rfl ob_o67z ?_
 simp
theorem sp68z:SpecP Tryz.prog G 69 [.imm (.ints .i64 []) 0 none] (.tup []) []:=by
 refine fnP_spec hcm hmx T0ok ok69 rfl ob_o68z ?_
 simp
theorem ct67:CtOk Tryz.prog G 41 (eCloneP .i64):=by
 intro args r h hp
 unfold eCloneP at h
 split at h
 ·rw[cond_eq_ite]at h
  split at h
  ·rename_i hk
   cases h
   cases beqK_ok hk
   obtain⟨rfl,h0,hl⟩:=hp
   exact(sp67 _ h0 hl).caps
  ·cases h
 ·cases h
theorem ct67z:CtOk Tryz.prog G 41 (eCloneZ .i64):=by
 intro args r h hp
 unfold eCloneZ at h
 split at h
 ·rw[cond_eq_ite]at h
  split at h
  ·rename_i hk
   cases h
   cases beqK_ok hk
   obtain⟨rfl,rfl⟩:=hp
   exact sp67z.caps
  ·cases h
 ·cases h
theorem ct68z:CtOk Tryz.prog G 69 (eRevZ .i64):=by
 intro args r h hp
 unfold eRevZ at h
 split at h
 ·rw[cond_eq_ite]at h
  split at h
  ·rename_i hk
   cases h
   cases beqK_ok hk
   obtain⟨rfl,rfl⟩:=hp
   exact sp68z.caps
  ·cases h
 ·cases h

theorem sp43 (a:List Int)(i:Int)(h0:0<a.length)(hl:a.length<100000000000)(h1:0≤i)(h2:i≤a.length):SpecP Tryz.prog G 47 [.imm (.ints .u8 a) a.length none,.int .i64 i] (.fullc 0 (rotL' a i.toNat).length (rotL' a i.toNat).length) [blkN .u8 (rotL' a i.toNat)]:=by
 refine fnP_spec hcm hmx UB43ok ok47 rfl (ob_o43 a i) ?_
 simp[rotL',h1]
 omega
theorem ct43:CtOk Tryz.prog G 47 (eBegun .u8):=by
 intro args r h hp
 unfold eBegun at h
 split at h
 ·rw[cond_eq_ite]at h
  split at h
  ·rename_i hk
   cases h
   cases beqK_ok hk
   obtain⟨rfl,h0,hl,h1,h2⟩:=hp
   exact(sp43 _ _ h0 hl h1 h2).caps
  ·cases h
 ·cases h
theorem sp69 (a:List Int)(h0:0<a.length)(hl:a.length<100000000000):SpecP Tryz.prog G 70 [.imm (.ints .u8 a) a.length none] (.full 0 a.length) [blkN .u8 a]:=by
 refine fnP_spec hcm hmx T0ok ok70 rfl (ob_o69 a) ?_
 simp[h0]
 omega
theorem sp69z:SpecP Tryz.prog G 70 [.imm (.ints .u8 []) 0 none] (.imm (.ints .u8 []) 0 none) []:=by
 refine fnP_spec hcm hmx T0ok ok70 rfl ob_o69z ?_
 simp
theorem sp70z:SpecP Tryz.prog G 71 [.imm (.ints .u8 []) 0 none] (.tup []) []:=by
 refine fnP_spec hcm hmx T0ok ok71 rfl ob_o70z ?_
 simp
theorem ct69:CtOk Tryz.prog G 70 (eCloneP .u8):=by
 intro args r h hp
 unfold eCloneP at h
 split at h
 ·rw[cond_eq_ite]at h
  split at h
  ·rename_i hk
   cases h
   cases beqK_ok hk
   obtain⟨rfl,h0,hl⟩:=hp
   exact(sp69 _ h0 hl).caps
  ·cases h
 ·cases h
theorem ct69z:CtOk Tryz.prog G 70 (eCloneZ .u8):=by
 intro args r h hp
 unfold eCloneZ at h
 split at h
 ·rw[cond_eq_ite]at h
  split at h
  ·rename_i hk
   cases h
   cases beqK_ok hk
   obtain⟨rfl,rfl⟩:=hp
   exact sp69z.caps
  ·cases h
 ·cases h
theorem ct70z:CtOk Tryz.prog G 71 (eRevZ .u8):=by
 intro args r h hp
 unfold eRevZ at h
 split at h
 ·rw[cond_eq_ite]at h
  split at h
  ·rename_i hk
   cases h
   cases beqK_ok hk
   obtain⟨rfl,rfl⟩:=hp
   exact sp70z.caps
  ·cases h
 ·cases h

theorem uPok:CtsOk Tryz.prog G uP:=⟨ct67,ct69,uBok⟩
theorem UP44ok:TabOk Tryz.prog G UP44:=tabL_ok (chTok sp41t sp68) uPok
theorem UP45ok:TabOk Tryz.prog G UP45:=tabL_ok (chTok sp61t sp70) uPok
theorem uZok:CtsOk Tryz.prog G uZ:=⟨ct67z,ct69z,ct68z,ct70z,uBok⟩
theorem UZ44ok:TabOk Tryz.prog G UZ44:=tabL_ok noCh_ok uZok
theorem sp44 (a:List Int)(hl:a.length<100000000000):SpecP Tryz.prog G 48 [.imm (.ints .i64 a) a.length none] (.imm (.ints .i64 a.reverse) a.length (some a.length)) []:=by
 by_cases h:a=[]
 ·subst h
  refine fnP_spec hcm hmx UZ44ok ok48 rfl ob_o44z ?_
  simp
 ·refine fnP_spec hcm hmx UP44ok ok48 rfl (ob_o44p a) ?_
  have:0<a.length:=List.length_pos_iff.2 h
  simp[this,hl]
  omega
theorem sp45 (a:List Int)(hl:a.length<100000000000):SpecP Tryz.prog G 49 [.imm (.ints .u8 a) a.length none] (.imm (.ints .u8 a.reverse) a.length (some a.length)) []:=by
 by_cases h:a=[]
 ·subst h
  refine fnP_spec hcm hmx UZ44ok ok49 rfl ob_o45z ?_
  simp
 ·refine fnP_spec hcm hmx UP45ok ok49 rfl (ob_o45p a) ?_
  have:0<a.length:=List.length_pos_iff.2 h
  simp[this,hl]
  omega
theorem ct44:CtOk Tryz.prog G 48 (eTurned .i64):=by
 intro args r h hp
 unfold eTurned at h
 split at h
 ·rw[cond_eq_ite]at h
  split at h
  ·rename_i hk
   cases h
   cases beqK_ok hk
   obtain⟨rfl,hl⟩:=hp
   exact(sp44 _ hl).caps
  ·cases h
 ·cases h
theorem ct45:CtOk Tryz.prog G 49 (eTurned .u8):=by
 intro args r h hp
 unfold eTurned at h
 split at h
 ·rw[cond_eq_ite]at h
  split at h
  ·rename_i hk
   cases h
   cases beqK_ok hk
   obtain⟨rfl,hl⟩:=hp
   exact(sp45 _ hl).caps
  ·cases h
 ·cases h
theorem uCok:CtsOk Tryz.prog G uC:=⟨ct42,ct43,ct44,ct45,uBok⟩
theorem UCok:TabOk Tryz.prog G UC:=tabL_ok noCh_ok uCok
theorem sp19 (a k:List Int)(i:Int)(hl:a.length<100000000000)(hc:chk a k=0)(h0:0≤i)(h1:i<a.length):SpecP Tryz.prog G 22 [fanV a k,.int .i64 i] (.tup [.agg [.fullc 0 (rotL' a i.toNat).length (rotL' a i.toNat).length,.fullc 1 (rotL' k i.toNat).length (rotL' k i.toNat).length],.int .i64 0]) [blkN .i64 (rotL' a i.toNat),blkN .u8 (rotL' k i.toNat)]:=by
 refine fnP_spec hcm hmx UCok ok22 rfl (ob_o19 a k i) ?_
 have hk:=chk_len hc
 simp only[ltb_iff,ltb_no,leb_iff,leb_no,ltn_iff,ltn_no,len'_iff,len'_no,inR_i64,inR_u8,inR_i32,size_ints,size_bools,size_vals,size_cells,getD_drop,List.getElem?_drop,beq_iff_eq,beq_eq_false_iff_ne,bne_iff_ne,bne_eq_false_iff_eq,ne_eq,Nat.zero_add,Nat.add_zero,Nat.mul_one,Int.toNat_natCast,and_true,true_and,List.length_drop,List.length_append,List.length_cons,List.length_nil,List.length_set,List.getD_eq_getElem?_getD,implies_true,iI,iL,Bool.not_eq_true',Bool.not_eq_false',Int.natCast_inj,len_rot]
 refine⟨by omega,hc,by omega,?_,by omega,by omega⟩
 split<;>omega
theorem sp20p (a k:List Int)(hl:a.length<100000000000)(h0:0<k.length)(hk:k.length<100000000000):SpecP Tryz.prog G 23 [fanV a k] (.agg [immL .i64 a.reverse,.fullc 0 (mirK' k).length (mirK' k).length]) [blkN .u8 (mirK' k)]:=by
 refine fnP_spec hcm hmx UCok ok23 rfl (ob_o20p a k) ?_
 dsimp -failIfUnchanged -proj -eta -iota -zeta only
 have e:((k.length:Int)-1).toNat=k.length-1:=by omega
 simp only[ltb_iff,ltb_no,leb_iff,leb_no,ltn_iff,ltn_no,len'_iff,len'_no,inR_i64,inR_u8,inR_i32,size_ints,size_bools,size_vals,size_cells,getD_drop,List.getElem?_drop,beq_iff_eq,beq_eq_false_iff_ne,bne_iff_ne,bne_eq_false_iff_eq,ne_eq,Nat.zero_add,Nat.add_zero,Nat.mul_one,Int.toNat_natCast,and_true,true_and,List.length_drop,List.length_append,List.length_cons,List.length_nil,List.length_set,List.getD_eq_getElem?_getD,implies_true,iI,iL,Bool.not_eq_true',Bool.not_eq_false',Int.natCast_inj,List.length_reverse,e,mirK']
 omega
theorem sp20 (a k:List Int)(hl:a.length<100000000000)(hk:k.length<100000000000):SpecP Tryz.prog G 23 [fanV a k] (fanC a.reverse (mirK' k)) []:=by
 by_cases h:k=[]
 ·subst h
  refine fnP_spec hcm hmx UCok ok23 rfl (ob_o20z a []) ?_
  simp[hl,mirK',rotL']
 ·refine fnP_spec hcm hmx UCok ok23 rfl (ob_o20f a k) ?_
  have:0<k.length:=List.length_pos_iff.2 h
  have e:((k.length:Int)-1).toNat=k.length-1:=by omega
  simp only[ltb_iff,ltb_no,leb_iff,leb_no,ltn_iff,ltn_no,len'_iff,len'_no,inR_i64,inR_u8,inR_i32,size_ints,size_bools,size_vals,size_cells,getD_drop,List.getElem?_drop,beq_iff_eq,beq_eq_false_iff_ne,bne_iff_ne,bne_eq_false_iff_eq,ne_eq,Nat.zero_add,Nat.add_zero,Nat.mul_one,Int.toNat_natCast,and_true,true_and,List.length_drop,List.length_append,List.length_cons,List.length_nil,List.length_set,List.getD_eq_getElem?_getD,implies_true,iI,iL,Bool.not_eq_true',Bool.not_eq_false',Int.natCast_inj,List.length_reverse,e,mirK']
  omega
theorem ct20p:CtOk Tryz.prog G 23 e20p:=by
 intro args r h hp
 unfold e20p at h
 split at h<;>cases h
 obtain⟨rfl,rfl,h1,h2,h3⟩:=hp
 exact(sp20p _ _ h1 h2 h3).caps
theorem ct20:CtOk Tryz.prog G 23 e20:=by
 intro args r h hp
 unfold e20 at h
 split at h<;>cases h
 obtain⟨rfl,rfl,h1,h2⟩:=hp
 exact(sp20 _ _ h1 h2).caps
theorem ct19:CtOk Tryz.prog G 22 e19m:=by
 intro args r h hp
 unfold e19m at h
 split at h<;>cases h
 obtain⟨rfl,rfl,h1,h2,h3,h4⟩:=hp
 exact(sp19 _ _ _ h1 h2 h3 h4).caps
theorem UOok:TabOk Tryz.prog G UO:=tabL_ok noCh_ok ⟨ct20p,uCok⟩
theorem UOzok:TabOk Tryz.prog G UOz:=tabL_ok noCh_ok ⟨ct20,uCok⟩
theorem ov_step {k:List Int}{n:Nat}(h:n<k.length):((ovK' k).take n++k.drop n)[n]?.getD 0=k[n]?.getD 0∧∀v,v=(if k[n]?.getD 0=1∨k[n]?.getD 0=2 then 3-k[n]?.getD 0 else k[n]?.getD 0)→((ovK' k).take n++k.drop n).set n v=(ovK' k).take (n+1)++k.drop (n+1):=by
 have hl:((ovK' k).take n).length=n:=by rw[List.length_take,len_ov];omega
 have e1:k.drop n=k[n]?.getD 0::k.drop (n+1):=drop_step h
 refine⟨?_,fun v hv=>?_⟩
 ·rw[List.getElem?_append_right (by omega),hl,Nat.sub_self,e1];rfl
 ·have e2:(ovK' k).take (n+1)=(ovK' k).take n++[v]:=by
   rw[List.take_add_one,hv,← ov_get h,List.getElem?_eq_getElem (by rw[len_ov];exact h)];rfl
  rw[e1,e2,List.set_append_right _ _ (by omega),hl,Nat.sub_self,List.set_cons_zero,List.append_assoc];rfl
theorem sp21 (a k:List Int)(hl:a.length<100000000000)(hk:k.length<100000000000):SpecP Tryz.prog G 24 [fanV a k] (fanC a.reverse (ovK' (mirK' k))) []:=by
 by_cases h:k=[]
 ·subst h
  refine fnP_spec hcm hmx UOzok ok24 rfl (ob_o21z a) ?_
  simp[hl,mirK',rotL']
 ·have h0:0<k.length:=List.length_pos_iff.2 h
  have hm:=len_mir k
  refine fnP_spec hcm hmx UOok ok24 rfl (ob_o21 a k) ?_
  dsimp -failIfUnchanged -proj -eta -iota -zeta only
  generalize hM:mirK' k=M at*
  simp only[ltb_iff,ltb_no,leb_iff,leb_no,ltn_iff,ltn_no,len'_iff,len'_no,inR_i64,inR_u8,inR_i32,size_ints,size_bools,size_vals,size_cells,getD_drop,List.getElem?_drop,beq_iff_eq,beq_eq_false_iff_ne,bne_iff_ne,bne_eq_false_iff_eq,ne_eq,Nat.zero_add,Nat.add_zero,Nat.mul_one,Int.toNat_natCast,and_true,true_and,List.length_drop,List.length_append,List.length_cons,List.length_nil,List.length_set,List.getD_eq_getElem?_getD,implies_true,iI,iL,Bool.not_eq_true',Bool.not_eq_false',Int.natCast_inj,len_ov]
  refine⟨by omega,⟨0,rfl,by omega,by simp⟩,?_⟩
  rintro⟨i,l⟩ ⟨n,rfl,h1,rfl⟩
  have hlen:((ovK' M).take n++M.drop n).length=M.length:=by simp[len_ov];omega
  simp only[Int.toNat_natCast,hlen,true_and,and_true,List.length_set]
  refine⟨fun hlt=>?_,fun hge=>?_⟩
  ·obtain⟨g1,g2⟩:=ov_step (k:=M) (n:=n) (by omega)
   rw[g1]
   refine⟨by omega,by omega,by omega,fun c1=>?_,fun c1=>⟨fun c2=>?_,fun c2=>?_⟩⟩
   ·exact⟨by omega,by omega,by omega,by omega,by omega,⟨n+1,by omega,by omega,g2 _ (by rw[if_pos (.inl c1)])⟩,by omega⟩
   ·exact⟨by omega,by omega,by omega,by omega,by omega,⟨n+1,by omega,by omega,g2 _ (by rw[if_pos (.inr c2)])⟩,by omega⟩
   ·refine⟨by omega,⟨n+1,by omega,by omega,?_⟩,by omega⟩
    rw[← g2 _ rfl,if_neg (by omega),← g1]
    apply Eq.symm
    rw[List.getElem?_eq_getElem (by omega)]
    exact List.set_getElem_self _
  ·have:n=M.length:=by omega
   subst this
   rw[List.take_of_length_le (by rw[len_ov];omega),List.drop_length,List.append_nil]
theorem ct21:CtOk Tryz.prog G 24 e21:=by
 intro args r h hp
 unfold e21 at h
 split at h<;>cases h
 obtain⟨rfl,rfl,h1,h2⟩:=hp
 exact(sp21 _ _ h1 h2).caps
end Go.Proofs.YthiammkiobbclaaGreatDoor.X
/-
 The contracts of the functions that reduce fans.
-/
set_option maxRecDepth 1000000
set_option linter.unusedVariables false
set_option linter.unusedSimpArgs false
namespace Go.Proofs.YthiammkiobbclaaGreatDoor.X
open Go Go.Ab

theorem rd_ok {a k:List Int}(h:okF a k 8=true):okF (rdA a k) (rdK a k) 8=true∧stepsN (rdA a k) (rdK a k)=[]∧base (rdA a k) (rdK a k)=foldB a k:=by
 obtain⟨h1,h2,h3⟩:=red_ok _ a k (Nat.le_refl _) h
 exact⟨h2,h3,rfl⟩
end Go.Proofs.YthiammkiobbclaaGreatDoor.X
