/-
 What is to be shown of the functions (made by a program).
-/
import Derived.Test.YtfafinkgmhkdmaaGreatDoorVD8Z
import Derived.KernelRfl
set_option maxRecDepth 1000000
set_option linter.unusedVariables false
namespace Go.Proofs.YtfafinkgmhkdmaaGreatDoor.X
open Go Go.Ab
open List IntKind

theorem ob_o85 (n:Int):fnP (T0) G 10000 fe106 (.r [] 0 (.r [] 0 (.ff (.r [] 1 (.r [] 0 (.tt (.r [] 9 (.r [] 0 .nil)))))))) ([.nils,.int .i64 n]) ([.full 0 0]) ([blkN .i64 []])=(
 ltb n 0=false∧inR i64 (n-0)=true∧ltb 0 (n-0)=true∧ltb 0 (n-0)=true∧leb ((n-0)*8) 140737488355328=true∧0=0∧iL []=[]∧0=0∧True):=by kernel_rfl

theorem ob_o86 (n:Int):fnP (T0) G 10000 fe107 (.r [] 0 (.r [] 0 (.ff (.r [] 1 (.r [] 0 (.tt (.r [] 9 (.r [] 0 .nil)))))))) ([.nils,.int .i64 n]) ([.full 0 0]) ([blkN .u8 []])=(
 ltb n 0=false∧inR i64 (n-0)=true∧ltb 0 (n-0)=true∧ltb 0 (n-0)=true∧leb ((n-0)*1) 140737488355328=true∧0=0∧iL []=[]∧0=0∧True):=by kernel_rfl

theorem ob_o65 (x y:List Int):fnP (UA) G 10000 fe66 (.r [] 0 (.r [] 0 (.r [] 0 (.un (.r [] 0 (.lit (.r [] 15 (.r [] 0 (.r [] 0 (.lit (.r [] 1 (.un (.r [] 0 (.lit (.r [] 15 (.r [] 0 (.r [] 0 (.lit (.r [] 1 (.un (.r [] 0 (.lit (.r [] 0 (.r [] 0 (.un (.r [] 0 (.lit (.r [] 15 (.r [] 1 (.r [] 1 (.un (.r [] 0 (.lit (.r [] 15 (.r [] 0 (.r [] 1 (.un (.r [] 0 (.lit (.r [] 0 .nil)))))))))))))))))))))))))))))))))))))))) ([.imm (.vals [.imm (.ints .i64 x) x.length none,.imm (.ints .i64 y) y.length none]) 2 none]) ([.full 0 (x++y).length]) ([blkN .i64 (x++y)])=(
 inR i64 (0+(↑(length x):Int))=true∧inR i64 (0+(↑(length x):Int)+(↑(length y):Int))=true∧(0<0+(↑(length x):Int)+(↑(length y):Int)∧0+(↑(length x):Int)+(↑(length y)
 :Int)<1000000000000)∧len' ((0+length x)*8) 140737488355328=true∧Cont.size (Cont.ints i64 x)=length x∧0+length x=0+length x∧len' ((0+length x+length y)*8) 140737488355328
 =true∧Cont.size (Cont.ints i64 y)=length y∧0+length x+length y=length (x++y)∧[]++x++y=x++y∧0+length x+length y=length (x++y)∧True):=by kernel_rfl

theorem ob_o66 (x y:List Int):fnP (UA) G 10000 fe67 (.r [] 0 (.r [] 0 (.r [] 0 (.un (.r [] 0 (.lit (.r [] 15 (.r [] 0 (.r [] 0 (.lit (.r [] 1 (.un (.r [] 0 (.lit (.r [] 15 (.r [] 0 (.r [] 0 (.lit (.r [] 1 (.un (.r [] 0 (.lit (.r [] 0 (.r [] 0 (.un (.r [] 0 (.lit (.r [] 15 (.r [] 1 (.r [] 1 (.un (.r [] 0 (.lit (.r [] 15 (.r [] 0 (.r [] 1 (.un (.r [] 0 (.lit (.r [] 0 .nil)))))))))))))))))))))))))))))))))))))))) ([.imm (.vals [.imm (.ints .u8 x) x.length none,.imm (.ints .u8 y) y.length none]) 2 none]) ([.full 0 (x++y).length]) ([blkN .u8 (x++y)])=(
 inR i64 (0+(↑(length x):Int))=true∧inR i64 (0+(↑(length x):Int)+(↑(length y):Int))=true∧(0<0+(↑(length x):Int)+(↑(length y):Int)∧0+(↑(length x):Int)+(↑(length y)
 :Int)<1000000000000)∧len' ((0+length x)*1) 140737488355328=true∧Cont.size (Cont.ints u8 x)=length x∧0+length x=0+length x∧len' ((0+length x+length y)*1) 140737488355328
 =true∧Cont.size (Cont.ints u8 y)=length y∧0+length x+length y=length (x++y)∧[]++x++y=x++y∧0+length x+length y=length (x++y)∧True):=by kernel_rfl

theorem ob_d_41b (a:List Int):fnD (T0) G 10000 (fe38) (.r [] 0 (.r [(133,.auto,Dr.pk true)] 40 .nil)) ([.full 8640 a.length]) ([(8640,.blk (blkN .i64 a))]) ([.fullc 8640 a.length a.length]) ([])=(
 length a=length a∧length a=length a∧length a=length a∧Int.toNat (↑(length a):Int)=length a∧Int.toNat (↑(length a):Int)=length a∧length a=length a∧a=a∧length a=length
 a∧length a=length a∧True):=by kernel_rfl

theorem ob_d_61b (a:List Int):fnD (T0) G 10000 (fe39) (.r [] 0 (.r [(133,.auto,Dr.pk true)] 40 .nil)) ([.full 8640 a.length]) ([(8640,.blk (blkN .u8 a))]) ([.fullc 8640 a.length a.length]) ([])=(
 length a=length a∧length a=length a∧length a=length a∧Int.toNat (↑(length a):Int)=length a∧Int.toNat (↑(length a):Int)=length a∧length a=length a∧a=a∧length a=length
 a∧length a=length a∧True):=by kernel_rfl

theorem ob_d_41t (a:List Int):fnD (T0) G 10000 (fe38) (.r [] 0 (.r [(133,.auto,Dr.pk true)] 40 .nil)) ([.full 8256 a.length]) ([(8256,.blk (blkN .i64 a))]) ([.fullc 8256 a.length a.length]) ([])=(
 length a=length a∧length a=length a∧length a=length a∧Int.toNat (↑(length a):Int)=length a∧Int.toNat (↑(length a):Int)=length a∧length a=length a∧a=a∧length a=length
 a∧length a=length a∧True):=by kernel_rfl

theorem ob_d_61t (a:List Int):fnD (T0) G 10000 (fe39) (.r [] 0 (.r [(133,.auto,Dr.pk true)] 40 .nil)) ([.full 8256 a.length]) ([(8256,.blk (blkN .u8 a))]) ([.fullc 8256 a.length a.length]) ([])=(
 length a=length a∧length a=length a∧length a=length a∧Int.toNat (↑(length a):Int)=length a∧Int.toNat (↑(length a):Int)=length a∧length a=length a∧a=a∧length a=length
 a∧length a=length a∧True):=by kernel_rfl

theorem ob_d_68 (a:List Int):fnD (T0) G 10000 (fe103) (.r [] 0 (.lp (l68 i64 a) [] [] (fun b=>(.r [] 0 (.cnd (.r [] 0 (.r [] 0 .nil)) .nil))))) ([.fullc 8256 a.length a.length]) ([(8256,.blk (blkN .i64 a))]) ([]) ([(8256,.blk (blkN .i64 a.reverse))])=(
 length a=length a∧inR i64 ((↑(length a):Int)-1)=true∧length a=length a∧a=a∧length a=length a∧length a=length a∧iI 0=0∧(↑(length a):Int)-1=(↑(length a):Int)-1
 ∧(∃(n:Nat),0=(↑n:Int)∧(↑(length a):Int)-1=(↑(length a):Int)-1-(↑n:Int)∧2*n≤length a+1∧length a=length a∧∀(m:Nat),m<length a→Option.getD a[m]? 0=if m<
 n∨length a≤m+n then Option.getD a[length a-1-m]? 0 else Option.getD a[m]? 0)∧∀(b:L68),(∃(n:Nat),b.i=(↑n:Int)∧b.j=(↑(length a):Int)-1-(↑n:Int)∧2*n≤length a+1
 ∧length b.l=length a∧∀(m:Nat),m<length a→Option.getD b.l[m]? 0=if m<n∨length a≤m+n then Option.getD a[length a-1-m]? 0 else Option.getD a[m]? 0)→(ltb b.i b.j=true→leb
 0 b.j=true∧ltb b.j (↑(length a):Int)=true∧length b.l=length a∧length b.l=length a∧ltn (Int.toNat b.j) (Cont.size (Cont.ints i64 b.l))=true∧leb 0 b.i=true∧ltb b.i (↑(length a)
 :Int)=true∧length b.l=length a∧length b.l=length a∧ltn (Int.toNat b.i) (Cont.size (Cont.ints i64 b.l))=true∧leb 0 b.i=true∧ltb b.i (↑(length a):Int)=true∧length b.l=length
 a∧length b.l=length a∧len' (Int.toNat b.i+1) (Cont.size (Cont.ints i64 b.l))=true∧leb 0 b.j=true∧ltb b.j (↑(length a):Int)=true∧length b.l=length a∧length b.l=length a∧
 len' (Int.toNat b.j+1) (Cont.size (Cont.ints i64 (set b.l (Int.toNat b.i) (getD b.l (Int.toNat b.j) 0))))=true∧inR i64 (b.i+1)=true∧inR i64 (b.j-1)=true∧length b.l=length (set (set
 b.l (Int.toNat b.i) (getD b.l (Int.toNat b.j) 0)) (Int.toNat b.j) (getD b.l (Int.toNat b.i) 0))∧set (set b.l (Int.toNat b.i) (getD b.l (Int.toNat b.j) 0)) (Int.toNat b.j) (getD b.l (Int.toNat b.i)
 0)=set (set b.l (Int.toNat b.i) (getD b.l (Int.toNat b.j) 0)) (Int.toNat b.j) (getD b.l (Int.toNat b.i) 0)∧length a=length a∧length a=length a∧b.i+1=b.i+1∧b.j-1=b.j-1∧(∃(n
 :Nat),b.i+1=(↑n:Int)∧b.j-1=(↑(length a):Int)-1-(↑n:Int)∧2*n≤length a+1∧length (set (set b.l (Int.toNat b.i) (getD b.l (Int.toNat b.j) 0)) (Int.toNat b.j) (getD b.l
 (Int.toNat b.i) 0))=length a∧∀(m:Nat),m<length a→Option.getD (set (set b.l (Int.toNat b.i) (getD b.l (Int.toNat b.j) 0)) (Int.toNat b.j) (getD b.l (Int.toNat b.i) 0))[m]? 0=if m<n∨
 length a≤m+n then Option.getD a[length a-1-m]? 0 else Option.getD a[m]? 0)∧length a-Int.toNat (b.i+1)<length a-Int.toNat b.i∧True)∧(ltb b.i b.j=false→length b.l=length
 (reverse a)∧b.l=reverse a∧True)):=by kernel_rfl

theorem ob_d_70 (a:List Int):fnD (T0) G 10000 (fe105) (.r [] 0 (.lp (l68 u8 a) [] [] (fun b=>(.r [] 0 (.cnd (.r [] 0 (.r [] 0 .nil)) .nil))))) ([.fullc 8256 a.length a.length]) ([(8256,.blk (blkN .u8 a))]) ([]) ([(8256,.blk (blkN .u8 a.reverse))])=(
 length a=length a∧inR i64 ((↑(length a):Int)-1)=true∧length a=length a∧a=a∧length a=length a∧length a=length a∧iI 0=0∧(↑(length a):Int)-1=(↑(length a):Int)-1
 ∧(∃(n:Nat),0=(↑n:Int)∧(↑(length a):Int)-1=(↑(length a):Int)-1-(↑n:Int)∧2*n≤length a+1∧length a=length a∧∀(m:Nat),m<length a→Option.getD a[m]? 0=if m<
 n∨length a≤m+n then Option.getD a[length a-1-m]? 0 else Option.getD a[m]? 0)∧∀(b:L68),(∃(n:Nat),b.i=(↑n:Int)∧b.j=(↑(length a):Int)-1-(↑n:Int)∧2*n≤length a+1
 ∧length b.l=length a∧∀(m:Nat),m<length a→Option.getD b.l[m]? 0=if m<n∨length a≤m+n then Option.getD a[length a-1-m]? 0 else Option.getD a[m]? 0)→(ltb b.i b.j=true→leb
 0 b.j=true∧ltb b.j (↑(length a):Int)=true∧length b.l=length a∧length b.l=length a∧ltn (Int.toNat b.j) (Cont.size (Cont.ints u8 b.l))=true∧leb 0 b.i=true∧ltb b.i (↑(length a)
 :Int)=true∧length b.l=length a∧length b.l=length a∧ltn (Int.toNat b.i) (Cont.size (Cont.ints u8 b.l))=true∧leb 0 b.i=true∧ltb b.i (↑(length a):Int)=true∧length b.l=length
 a∧length b.l=length a∧len' (Int.toNat b.i+1) (Cont.size (Cont.ints u8 b.l))=true∧leb 0 b.j=true∧ltb b.j (↑(length a):Int)=true∧length b.l=length a∧length b.l=length a∧
 len' (Int.toNat b.j+1) (Cont.size (Cont.ints u8 (set b.l (Int.toNat b.i) (getD b.l (Int.toNat b.j) 0))))=true∧inR i64 (b.i+1)=true∧inR i64 (b.j-1)=true∧length b.l=length (set (set
 b.l (Int.toNat b.i) (getD b.l (Int.toNat b.j) 0)) (Int.toNat b.j) (getD b.l (Int.toNat b.i) 0))∧set (set b.l (Int.toNat b.i) (getD b.l (Int.toNat b.j) 0)) (Int.toNat b.j) (getD b.l (Int.toNat b.i)
 0)=set (set b.l (Int.toNat b.i) (getD b.l (Int.toNat b.j) 0)) (Int.toNat b.j) (getD b.l (Int.toNat b.i) 0)∧length a=length a∧length a=length a∧b.i+1=b.i+1∧b.j-1=b.j-1∧(∃(n
 :Nat),b.i+1=(↑n:Int)∧b.j-1=(↑(length a):Int)-1-(↑n:Int)∧2*n≤length a+1∧length (set (set b.l (Int.toNat b.i) (getD b.l (Int.toNat b.j) 0)) (Int.toNat b.j) (getD b.l
 (Int.toNat b.i) 0))=length a∧∀(m:Nat),m<length a→Option.getD (set (set b.l (Int.toNat b.i) (getD b.l (Int.toNat b.j) 0)) (Int.toNat b.j) (getD b.l (Int.toNat b.i) 0))[m]? 0=if m<n∨
 length a≤m+n then Option.getD a[length a-1-m]? 0 else Option.getD a[m]? 0)∧length a-Int.toNat (b.i+1)<length a-Int.toNat b.i∧True)∧(ltb b.i b.j=false→length b.l=length
 (reverse a)∧b.l=reverse a∧True)):=by kernel_rfl

theorem ob_o42 (a:List Int)(i:Int):fnP (UB42) G 10000 fe42 (.r [] 0 (.r [(136,.auto,Dr.heap)] 64 .nil)) ([.imm (.ints .i64 a) a.length none,.int .i64 i]) ([.fullc 0 (rotL' a i.toNat).length (rotL' a i.toNat).length]) ([blkN .i64 (rotL' a i.toNat)])=(
 leb 0 i=true∧len' (Int.toNat i) (length a)=true∧Cont.size (Cont.ints i64 a)=length a∧leb 0 i=true∧len' (Int.toNat i) (length a)=true∧Cont.size (Cont.ints i64 a)=length a∧
 (length a-Int.toNat i=length (drop (Int.toNat i) a)∧Int.toNat i=length (take (Int.toNat i) a)∧0<length (drop (Int.toNat i) a)+length (take (Int.toNat i) a)∧length (drop (Int.toNat i)
 a)+length (take (Int.toNat i) a)<100000000000)∧([(8640,HO.blk (Blk.mk (Cont.ints i64 (drop (Int.toNat i) a++take (Int.toNat i) a)) 1 (length (drop (Int.toNat i) a++take (Int.toNat i) a))
 none (some false) true false))]=[(8640,HO.blk (Blk.mk (Cont.ints i64 (drop (Int.toNat i) a++take (Int.toNat i) a)) 1 (length (drop (Int.toNat i) a++take (Int.toNat i) a)) none (some false) true
 false))]∧length (drop (Int.toNat i) a++take (Int.toNat i) a)=length (drop (Int.toNat i) a++take (Int.toNat i) a))∧length (drop (Int.toNat i) a++take (Int.toNat i) a)=length (rotL' a
 (Int.toNat i))∧drop (Int.toNat i) a++take (Int.toNat i) a=rotL' a (Int.toNat i)∧length (drop (Int.toNat i) a++take (Int.toNat i) a)=length (rotL' a (Int.toNat i))∧length (drop (Int.toNat
 i) a++take (Int.toNat i) a)=length (rotL' a (Int.toNat i))∧True):=by kernel_rfl

theorem ob_o43 (a:List Int)(i:Int):fnP (UB43) G 10000 fe43 (.r [] 0 (.r [(136,.auto,Dr.heap)] 64 .nil)) ([.imm (.ints .u8 a) a.length none,.int .i64 i]) ([.fullc 0 (rotL' a i.toNat).length (rotL' a i.toNat).length]) ([blkN .u8 (rotL' a i.toNat)])=(
 leb 0 i=true∧len' (Int.toNat i) (length a)=true∧Cont.size (Cont.ints u8 a)=length a∧leb 0 i=true∧len' (Int.toNat i) (length a)=true∧Cont.size (Cont.ints u8 a)=length a∧(length
 a-Int.toNat i=length (drop (Int.toNat i) a)∧Int.toNat i=length (take (Int.toNat i) a)∧0<length (drop (Int.toNat i) a)+length (take (Int.toNat i) a)∧length (drop (Int.toNat i) a)+
 length (take (Int.toNat i) a)<100000000000)∧([(8640,HO.blk (Blk.mk (Cont.ints u8 (drop (Int.toNat i) a++take (Int.toNat i) a)) 1 (length (drop (Int.toNat i) a++take (Int.toNat i) a)) none
 (some false) true false))]=[(8640,HO.blk (Blk.mk (Cont.ints u8 (drop (Int.toNat i) a++take (Int.toNat i) a)) 1 (length (drop (Int.toNat i) a++take (Int.toNat i) a)) none (some false) true
 false))]∧length (drop (Int.toNat i) a++take (Int.toNat i) a)=length (drop (Int.toNat i) a++take (Int.toNat i) a))∧length (drop (Int.toNat i) a++take (Int.toNat i) a)=length (rotL' a
 (Int.toNat i))∧drop (Int.toNat i) a++take (Int.toNat i) a=rotL' a (Int.toNat i)∧length (drop (Int.toNat i) a++take (Int.toNat i) a)=length (rotL' a (Int.toNat i))∧length (drop (Int.toNat
 i) a++take (Int.toNat i) a)=length (rotL' a (Int.toNat i))∧True):=by kernel_rfl

theorem ob_o67 (a:List Int):fnP (T0) G 10000 fe102 (.r [] 0 (.r [] 0 (.lit (.r [] 1 .nil)))) ([.imm (.ints .i64 a) a.length none]) ([.full 0 a.length]) ([blkN .i64 a])=(
 ltn 0 (length a)=true∧len' ((0+length a)*8) 140737488355328=true∧Cont.size (Cont.ints i64 a)=length a∧0+length a=length a∧[]++a=a∧0+length a=length a∧True):=by kernel_rfl

theorem ob_o69 (a:List Int):fnP (T0) G 10000 fe104 (.r [] 0 (.r [] 0 (.lit (.r [] 1 .nil)))) ([.imm (.ints .u8 a) a.length none]) ([.full 0 a.length]) ([blkN .u8 a])=(
 ltn 0 (length a)=true∧len' ((0+length a)*1) 140737488355328=true∧Cont.size (Cont.ints u8 a)=length a∧0+length a=length a∧[]++a=a∧0+length a=length a∧True):=by kernel_rfl

theorem ob_o67z:fnP (T0) G 10000 fe102 (.r [] 0 (.nl 1 [] 0 3 (.r [] 0 (.lit (.r [] 0 (.frz 2 0 .nil)))) (.r [] 0 (.lit (.r [] 7 (.frz 2 1 .nil)))))) ([.imm (.ints .i64 []) 0 none]) ([.imm (.ints .i64 []) 0 none]) ([])=(
 (0=0∧0=0→0=0∧0=0∧True)∧Cont.ints i64 []=Cont.ints i64 []∧0=0∧True):=by kernel_rfl

theorem ob_o69z:fnP (T0) G 10000 fe104 (.r [] 0 (.nl 1 [] 0 3 (.r [] 0 (.lit (.r [] 0 (.frz 2 0 .nil)))) (.r [] 0 (.lit (.r [] 7 (.frz 2 1 .nil)))))) ([.imm (.ints .u8 []) 0 none]) ([.imm (.ints .u8 []) 0 none]) ([])=(
 (0=0∧0=0→0=0∧0=0∧True)∧Cont.ints u8 []=Cont.ints u8 []∧0=0∧True):=by kernel_rfl

theorem ob_o68z:fnP (T0) G 10000 fe103 (.r [] 1 (.un (.r [] 0 (.lit .nil)))) ([.imm (.ints .i64 []) 0 none]) ([]) ([])=(
 True):=by kernel_rfl

theorem ob_o70z:fnP (T0) G 10000 fe105 (.r [] 1 (.un (.r [] 0 (.lit .nil)))) ([.imm (.ints .u8 []) 0 none]) ([]) ([])=(
 True):=by kernel_rfl

theorem ob_o44p (a:List Int):fnP (UP44) G 10000 fe64 (.r [] 0 (.r [(130,.auto,Dr.heap)] 0 (.r [(193,.auto,Dr.heap)] 0 (.r [] 0 (.frz 2 0 .nil))))) ([.imm (.ints .i64 a) a.length none]) ([.imm (.ints .i64 a.reverse) a.length (some a.length)]) ([])=(
 (length a=length a∧0<length a∧length a<100000000000)∧([(8256,HO.blk (Blk.mk (Cont.ints i64 a) 1 (length a) none (some false) true false))]=[(8256,HO.blk (Blk.mk (Cont.ints i64 a) 1
 (length a) none (some false) true false))]∧length a=length a)∧([(8256,HO.blk (Blk.mk (Cont.ints i64 a) 1 (length a) none (some false) true false))]=[(8256,HO.blk (Blk.mk (Cont.ints i64 a) 1
 (length a) none (some false) true false))]∧length a=length a∧length a=length a∧length a<1000000000000)∧length (reverse a)=length a∧Cont.ints i64 (reverse a)=Cont.ints i64 (reverse
 a)∧length a=length a∧length a=length a∧True):=by kernel_rfl

theorem ob_o45p (a:List Int):fnP (UP45) G 10000 fe65 (.r [] 0 (.r [(130,.auto,Dr.heap)] 0 (.r [(193,.auto,Dr.heap)] 0 (.r [] 0 (.frz 2 0 .nil))))) ([.imm (.ints .u8 a) a.length none]) ([.imm (.ints .u8 a.reverse) a.length (some a.length)]) ([])=(
 (length a=length a∧0<length a∧length a<100000000000)∧([(8256,HO.blk (Blk.mk (Cont.ints u8 a) 1 (length a) none (some false) true false))]=[(8256,HO.blk (Blk.mk (Cont.ints u8 a) 1
 (length a) none (some false) true false))]∧length a=length a)∧([(8256,HO.blk (Blk.mk (Cont.ints u8 a) 1 (length a) none (some false) true false))]=[(8256,HO.blk (Blk.mk (Cont.ints u8 a) 1
 (length a) none (some false) true false))]∧length a=length a∧length a=length a∧length a<1000000000000)∧length (reverse a)=length a∧Cont.ints u8 (reverse a)=Cont.ints u8 (reverse a)
 ∧length a=length a∧length a=length a∧True):=by kernel_rfl

theorem ob_o44z:fnP (UZ44) G 10000 fe64 (.r [] 0 (.r [] 0 (.r [] 0 (.r [] 0 .nil)))) ([.imm (.ints .i64 []) 0 none]) ([.imm (.ints .i64 []) 0 (some 0)]) ([])=(
 (0=0∧iL []=[])∧0=0∧(0=0∧iL []=[])∧Cont.ints i64 []=Cont.ints i64 []∧0=0∧0=0∧True):=by kernel_rfl

theorem ob_o45z:fnP (UZ44) G 10000 fe65 (.r [] 0 (.r [] 0 (.r [] 0 (.r [] 0 .nil)))) ([.imm (.ints .u8 []) 0 none]) ([.imm (.ints .u8 []) 0 (some 0)]) ([])=(
 (0=0∧iL []=[])∧0=0∧(0=0∧iL []=[])∧Cont.ints u8 []=Cont.ints u8 []∧0=0∧0=0∧True):=by kernel_rfl

theorem ob_o20f (a k:List Int):fnP (UC) G 10000 fe41 (.r [] 0 (.r [] 21 (.r [] 1 (.r [] 0 (.tt (.r [] 9 (.frz 3 0 (.r [] 3 .nil)))))))) ([fanV a k]) ([fanC a.reverse (mirK' k)]) ([])=(
 (length a=length a∧length a<100000000000)∧(length k=length k∧length k<100000000000)∧ltb 0 (↑(length k):Int)=true∧inR i64 ((↑(length k):Int)-1)=true∧(length k=length
 (reverse k)∧0<length (reverse k)∧length (reverse k)<100000000000∧0≤(↑(length k):Int)-1∧(↑(length k):Int)-1≤(↑(length (reverse k)):Int))∧length (rotL' (reverse k) (Int.toNat
 ((↑(length k):Int)-1)))=length (rotL' (reverse k) (Int.toNat ((↑(length k):Int)-1)))∧Cont.ints i64 (reverse a)=Cont.ints i64 (reverse a)∧length a=length (reverse a)∧length a=
 length (reverse a)∧Cont.ints u8 (rotL' (reverse k) (Int.toNat ((↑(length k):Int)-1)))=Cont.ints u8 (mirK' k)∧length (rotL' (reverse k) (Int.toNat ((↑(length k):Int)-1)))=length (mirK'
 k)∧length (rotL' (reverse k) (Int.toNat ((↑(length k):Int)-1)))=length (mirK' k)∧True):=by kernel_rfl

theorem ob_o20z (a k:List Int):fnP (UC) G 10000 fe41 (.r [] 0 (.r [] 21 (.r [] 1 (.r [] 0 (.ff (.r [] 3 .nil)))))) ([fanV a k]) ([fanC a.reverse (mirK' k)]) ([])=(
 (length a=length a∧length a<100000000000)∧(length k=length k∧length k<100000000000)∧ltb 0 (↑(length k):Int)=false∧Cont.ints i64 (reverse a)=Cont.ints i64 (reverse a)∧length a
 =length (reverse a)∧length a=length (reverse a)∧Cont.ints u8 (reverse k)=Cont.ints u8 (mirK' k)∧length k=length (mirK' k)∧length k=length (mirK' k)∧True):=by kernel_rfl

end Go.Proofs.YtfafinkgmhkdmaaGreatDoor.X
