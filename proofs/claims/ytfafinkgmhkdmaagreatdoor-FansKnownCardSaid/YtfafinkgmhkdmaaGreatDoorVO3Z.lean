/-
 What is to be shown of the functions (made by a program).
-/
import Derived.Test.YtfafinkgmhkdmaaGreatDoorKOZ
set_option maxRecDepth 1000000
set_option linter.unusedVariables false
namespace Go.Proofs.YtfafinkgmhkdmaaGreatDoor.X
open Go Go.Ab
open List IntKind
theorem C4o (n:Int):fnP (T0) G 10000 B7r (.r [] 0 (.r [] 0 (.ff (.r [] 1 (.r [] 0 (.tt (.r [] 9 (.r [] 0 .nil)))))))) ([.nils,.int .i64 n]) ([.full 0 0]) ([A2d .i64 []])=(
 ltb n 0=false/\inR i64 (n-0)=true/\ltb 0 (n-0)=true/\ltb 0 (n-0)=true/\leb ((n-0)*8) 140737488355328=true/\0=0/\iL []=[]/\0=0/\True):=by kernel_rfl
theorem C4p (n:Int):fnP (T0) G 10000 B7s (.r [] 0 (.r [] 0 (.ff (.r [] 1 (.r [] 0 (.tt (.r [] 9 (.r [] 0 .nil)))))))) ([.nils,.int .i64 n]) ([.full 0 0]) ([A2d .u8 []])=(
 ltb n 0=false/\inR i64 (n-0)=true/\ltb 0 (n-0)=true/\ltb 0 (n-0)=true/\leb ((n-0)*1) 140737488355328=true/\0=0/\iL []=[]/\0=0/\True):=by kernel_rfl
theorem B5Q (x y:List Int):fnP (UA) G 10000 C6h (.r [] 0 (.r [] 0 (.r [] 0 (.un (.r [] 0 (.lit (.r [] 15 (.r [] 0 (.r [] 0 (.lit (.r [] 1 (.un (.r [] 0 (.lit (.r [] 15 (.r [] 0 (.r [] 0 (.lit (.r [] 1 (.un (.r [] 0 (.lit (.r [] 0 (.r [] 0 (.un (.r [] 0 (.lit (.r [] 15 (.r [] 1 (.r [] 1 (.un (.r [] 0 (.lit (.r [] 15 (.r [] 0 (.r [] 1 (.un (.r [] 0 (.lit (.r [] 0 .nil)))))))))))))))))))))))))))))))))))))))) ([.imm (.vals [.imm (.ints .i64 x) x.length none,.imm (.ints .i64 y) y.length none]) 2 none]) ([.full 0 (x++y).length]) ([A2d .i64 (x++y)])=(
 inR i64 (0+(↑(length x):Int))=true/\inR i64 (0+(↑(length x):Int)+(↑(length y):Int))=true/\(0<0+(↑(length x):Int)+(↑(length y):Int)/\0+(↑(length x):Int)+(↑(length y)
 :Int)<1000000000000)/\A0X ((0+length x)*8) 140737488355328=true/\Cont.size (Cont.ints i64 x)=length x/\0+length x=0+length x/\A0X ((0+length x+length y)*8) 140737488355328
 =true/\Cont.size (Cont.ints i64 y)=length y/\0+length x+length y=length (x++y)/\[]++x++y=x++y/\0+length x+length y=length (x++y)/\True):=by kernel_rfl
theorem B5P (x y:List Int):fnP (UA) G 10000 C6i (.r [] 0 (.r [] 0 (.r [] 0 (.un (.r [] 0 (.lit (.r [] 15 (.r [] 0 (.r [] 0 (.lit (.r [] 1 (.un (.r [] 0 (.lit (.r [] 15 (.r [] 0 (.r [] 0 (.lit (.r [] 1 (.un (.r [] 0 (.lit (.r [] 0 (.r [] 0 (.un (.r [] 0 (.lit (.r [] 15 (.r [] 1 (.r [] 1 (.un (.r [] 0 (.lit (.r [] 15 (.r [] 0 (.r [] 1 (.un (.r [] 0 (.lit (.r [] 0 .nil)))))))))))))))))))))))))))))))))))))))) ([.imm (.vals [.imm (.ints .u8 x) x.length none,.imm (.ints .u8 y) y.length none]) 2 none]) ([.full 0 (x++y).length]) ([A2d .u8 (x++y)])=(
 inR i64 (0+(↑(length x):Int))=true/\inR i64 (0+(↑(length x):Int)+(↑(length y):Int))=true/\(0<0+(↑(length x):Int)+(↑(length y):Int)/\0+(↑(length x):Int)+(↑(length y)
 :Int)<1000000000000)/\A0X ((0+length x)*1) 140737488355328=true/\Cont.size (Cont.ints u8 x)=length x/\0+length x=0+length x/\A0X ((0+length x+length y)*1) 140737488355328
 =true/\Cont.size (Cont.ints u8 y)=length y/\0+length x+length y=length (x++y)/\[]++x++y=x++y/\0+length x+length y=length (x++y)/\True):=by kernel_rfl
theorem B74 (a:List Int):fnD (T0) G 10000 (B9E) (.r [] 0 (.r [(133,.auto,Dr.pk true)] 40 .nil)) ([.full 8640 a.length]) ([(8640,.blk (A2d .i64 a))]) ([.fullc 8640 a.length a.length]) ([])=(
 length a=length a/\length a=length a/\length a=length a/\Int.toNat (↑(length a):Int)=length a/\Int.toNat (↑(length a):Int)=length a/\length a=length a/\a=a/\length a=length
 a/\length a=length a/\True):=by kernel_rfl
theorem B75 (a:List Int):fnD (T0) G 10000 (B9F) (.r [] 0 (.r [(133,.auto,Dr.pk true)] 40 .nil)) ([.full 8640 a.length]) ([(8640,.blk (A2d .u8 a))]) ([.fullc 8640 a.length a.length]) ([])=(
 length a=length a/\length a=length a/\length a=length a/\Int.toNat (↑(length a):Int)=length a/\Int.toNat (↑(length a):Int)=length a/\length a=length a/\a=a/\length a=length
 a/\length a=length a/\True):=by kernel_rfl
theorem B76 (a:List Int):fnD (T0) G 10000 (B9E) (.r [] 0 (.r [(133,.auto,Dr.pk true)] 40 .nil)) ([.full 8256 a.length]) ([(8256,.blk (A2d .i64 a))]) ([.fullc 8256 a.length a.length]) ([])=(
 length a=length a/\length a=length a/\length a=length a/\Int.toNat (↑(length a):Int)=length a/\Int.toNat (↑(length a):Int)=length a/\length a=length a/\a=a/\length a=length
 a/\length a=length a/\True):=by kernel_rfl
theorem B77 (a:List Int):fnD (T0) G 10000 (B9F) (.r [] 0 (.r [(133,.auto,Dr.pk true)] 40 .nil)) ([.full 8256 a.length]) ([(8256,.blk (A2d .u8 a))]) ([.fullc 8256 a.length a.length]) ([])=(
 length a=length a/\length a=length a/\length a=length a/\Int.toNat (↑(length a):Int)=length a/\Int.toNat (↑(length a):Int)=length a/\length a=length a/\a=a/\length a=length
 a/\length a=length a/\True):=by kernel_rfl
theorem C0F (a:List Int):fnD (T0) G 10000 (B5x) (.r [] 0 (.lp (l68 i64 a) [] [] (fun b=>(.r [] 0 (.cnd (.r [] 0 (.r [] 0 .nil)) .nil))))) ([.fullc 8256 a.length a.length]) ([(8256,.blk (A2d .i64 a))]) ([]) ([(8256,.blk (A2d .i64 a.reverse))])=(
 length a=length a/\inR i64 ((↑(length a):Int)-1)=true/\length a=length a/\a=a/\length a=length a/\length a=length a/\iI 0=0/\qx ((↑(length a):Int)-1) ((∃(n:
 Nat),0=(↑n:Int)/\(↑(length a):Int)-1=(↑(length a):Int)-1-(↑n:Int)/\2*n<=length a+1/\length a=length a/\∀(m:Nat),m<length a->Option.getD a[m]? 0=if m<
 n\/length a<=m+n then Option.getD a[length a-1-m]? 0 else Option.getD a[m]? 0)/\∀(b:L68),(fun(zz0:List Int)=>(∃(n:Nat),b.i=(↑n:Int)/\b.j=(↑(length a):Int)-1
 -(↑n:Int)/\2*n<=length a+1/\length b.l=length a/\∀(m:Nat),m<length a->Option.getD b.l[m]? 0=if m<n\/length a<=m+n then Option.getD a[length a-1-m]? 0 else
 Option.getD a[m]? 0)->(ltb b.i b.j=true->leb 0 b.j=true/\ltb b.j (↑(length a):Int)=true/\length b.l=length a/\length b.l=length a/\ltn (Int.toNat b.j) (Cont.size (Cont.ints
 i64 b.l))=true/\leb 0 b.i=true/\ltb b.i (↑(length a):Int)=true/\length b.l=length a/\length b.l=length a/\ltn (Int.toNat b.i) (Cont.size (Cont.ints i64 b.l))=true/\leb 0
 b.i=true/\ltb b.i (↑(length a):Int)=true/\length b.l=length a/\length b.l=length a/\A0X (Int.toNat b.i+1) (Cont.size (Cont.ints i64 b.l))=true/\leb 0 b.j=true/\ltb b.j
 (↑(length a):Int)=true/\length b.l=length a/\length b.l=length a/\A0X (Int.toNat b.j+1) (Cont.size (Cont.ints i64 (set b.l (Int.toNat b.i) (getD b.l (Int.toNat b.j) 0))))=
 true/\inR i64 (b.i+1)=true/\inR i64 (b.j-1)=true/\length b.l=length zz0/\qx zz0 (length a=length a/\length a=length a/\b.i+1=b.i+1/\b.j-1=b.j-1/\(∃(n:
 Nat),b.i+1=(↑n:Int)/\b.j-1=(↑(length a):Int)-1-(↑n:Int)/\2*n<=length a+1/\length zz0=length a/\∀(m:Nat),m<length a->Option.getD zz0[m]? 0=if m<n\/
 length a<=m+n then Option.getD a[length a-1-m]? 0 else Option.getD a[m]? 0)/\length a-Int.toNat (b.i+1)<length a-Int.toNat b.i/\True))/\(ltb b.i b.j=false->length b.l=
 length (reverse a)/\b.l=reverse a/\True)) (set (set b.l (Int.toNat b.i) (getD b.l (Int.toNat b.j) 0)) (Int.toNat b.j) (getD b.l (Int.toNat b.i) 0)))):=by kernel_rfl
theorem C0G (a:List Int):fnD (T0) G 10000 (B5z) (.r [] 0 (.lp (l68 u8 a) [] [] (fun b=>(.r [] 0 (.cnd (.r [] 0 (.r [] 0 .nil)) .nil))))) ([.fullc 8256 a.length a.length]) ([(8256,.blk (A2d .u8 a))]) ([]) ([(8256,.blk (A2d .u8 a.reverse))])=(
 length a=length a/\inR i64 ((↑(length a):Int)-1)=true/\length a=length a/\a=a/\length a=length a/\length a=length a/\iI 0=0/\qx ((↑(length a):Int)-1) ((∃(n:
 Nat),0=(↑n:Int)/\(↑(length a):Int)-1=(↑(length a):Int)-1-(↑n:Int)/\2*n<=length a+1/\length a=length a/\∀(m:Nat),m<length a->Option.getD a[m]? 0=if m<
 n\/length a<=m+n then Option.getD a[length a-1-m]? 0 else Option.getD a[m]? 0)/\∀(b:L68),(fun(zz0:List Int)=>(∃(n:Nat),b.i=(↑n:Int)/\b.j=(↑(length a):Int)-1
 -(↑n:Int)/\2*n<=length a+1/\length b.l=length a/\∀(m:Nat),m<length a->Option.getD b.l[m]? 0=if m<n\/length a<=m+n then Option.getD a[length a-1-m]? 0 else
 Option.getD a[m]? 0)->(ltb b.i b.j=true->leb 0 b.j=true/\ltb b.j (↑(length a):Int)=true/\length b.l=length a/\length b.l=length a/\ltn (Int.toNat b.j) (Cont.size (Cont.ints
 u8 b.l))=true/\leb 0 b.i=true/\ltb b.i (↑(length a):Int)=true/\length b.l=length a/\length b.l=length a/\ltn (Int.toNat b.i) (Cont.size (Cont.ints u8 b.l))=true/\leb 0
 b.i=true/\ltb b.i (↑(length a):Int)=true/\length b.l=length a/\length b.l=length a/\A0X (Int.toNat b.i+1) (Cont.size (Cont.ints u8 b.l))=true/\leb 0 b.j=true/\ltb b.j
 (↑(length a):Int)=true/\length b.l=length a/\length b.l=length a/\A0X (Int.toNat b.j+1) (Cont.size (Cont.ints u8 (set b.l (Int.toNat b.i) (getD b.l (Int.toNat b.j) 0))))=true
 /\inR i64 (b.i+1)=true/\inR i64 (b.j-1)=true/\length b.l=length zz0/\qx zz0 (length a=length a/\length a=length a/\b.i+1=b.i+1/\b.j-1=b.j-1/\(∃(n:Nat),
 b.i+1=(↑n:Int)/\b.j-1=(↑(length a):Int)-1-(↑n:Int)/\2*n<=length a+1/\length zz0=length a/\∀(m:Nat),m<length a->Option.getD zz0[m]? 0=if m<n\/length a
 <=m+n then Option.getD a[length a-1-m]? 0 else Option.getD a[m]? 0)/\length a-Int.toNat (b.i+1)<length a-Int.toNat b.i/\True))/\(ltb b.i b.j=false->length b.l=length
 (reverse a)/\b.l=reverse a/\True)) (set (set b.l (Int.toNat b.i) (getD b.l (Int.toNat b.j) 0)) (Int.toNat b.j) (getD b.l (Int.toNat b.i) 0)))):=by kernel_rfl
theorem C4q (a:List Int)(i:Int):fnP (C7Y) G 10000 C2d (.r [] 0 (.r [(136,.auto,Dr.heap)] 64 .nil)) ([.imm (.ints .i64 a) a.length none,.int .i64 i]) ([.fullc 0 (rotL' a i.toNat).length (rotL' a i.toNat).length]) ([A2d .i64 (rotL' a i.toNat)])=(
 leb 0 i=true/\A0X (Int.toNat i) (length a)=true/\Cont.size (Cont.ints i64 a)=length a/\leb 0 i=true/\A0X (Int.toNat i) (length a)=true/\Cont.size (Cont.ints i64 a)=length a/\
 (length a-Int.toNat i=length (drop (Int.toNat i) a)/\Int.toNat i=length (take (Int.toNat i) a)/\0<length (drop (Int.toNat i) a)+length (take (Int.toNat i) a)/\length (drop (Int.toNat i)
 a)+length (take (Int.toNat i) a)<100000000000)/\([(8640,HO.blk (Blk.mk (Cont.ints i64 (drop (Int.toNat i) a++take (Int.toNat i) a)) 1 (length (drop (Int.toNat i) a++take (Int.toNat i) a))
 none (some false) true false))]=[(8640,HO.blk (Blk.mk (Cont.ints i64 (drop (Int.toNat i) a++take (Int.toNat i) a)) 1 (length (drop (Int.toNat i) a++take (Int.toNat i) a)) none (some false) true
 false))]/\length (drop (Int.toNat i) a++take (Int.toNat i) a)=length (drop (Int.toNat i) a++take (Int.toNat i) a))/\length (drop (Int.toNat i) a++take (Int.toNat i) a)=length (rotL' a
 (Int.toNat i))/\drop (Int.toNat i) a++take (Int.toNat i) a=rotL' a (Int.toNat i)/\length (drop (Int.toNat i) a++take (Int.toNat i) a)=length (rotL' a (Int.toNat i))/\length (drop (Int.toNat
 i) a++take (Int.toNat i) a)=length (rotL' a (Int.toNat i))/\True):=by kernel_rfl
theorem C4r (a:List Int)(i:Int):fnP (C7Z) G 10000 C2e (.r [] 0 (.r [(136,.auto,Dr.heap)] 64 .nil)) ([.imm (.ints .u8 a) a.length none,.int .i64 i]) ([.fullc 0 (rotL' a i.toNat).length (rotL' a i.toNat).length]) ([A2d .u8 (rotL' a i.toNat)])=(
 leb 0 i=true/\A0X (Int.toNat i) (length a)=true/\Cont.size (Cont.ints u8 a)=length a/\leb 0 i=true/\A0X (Int.toNat i) (length a)=true/\Cont.size (Cont.ints u8 a)=length a/\(length
 a-Int.toNat i=length (drop (Int.toNat i) a)/\Int.toNat i=length (take (Int.toNat i) a)/\0<length (drop (Int.toNat i) a)+length (take (Int.toNat i) a)/\length (drop (Int.toNat i) a)+
 length (take (Int.toNat i) a)<100000000000)/\([(8640,HO.blk (Blk.mk (Cont.ints u8 (drop (Int.toNat i) a++take (Int.toNat i) a)) 1 (length (drop (Int.toNat i) a++take (Int.toNat i) a)) none
 (some false) true false))]=[(8640,HO.blk (Blk.mk (Cont.ints u8 (drop (Int.toNat i) a++take (Int.toNat i) a)) 1 (length (drop (Int.toNat i) a++take (Int.toNat i) a)) none (some false) true
 false))]/\length (drop (Int.toNat i) a++take (Int.toNat i) a)=length (drop (Int.toNat i) a++take (Int.toNat i) a))/\length (drop (Int.toNat i) a++take (Int.toNat i) a)=length (rotL' a
 (Int.toNat i))/\drop (Int.toNat i) a++take (Int.toNat i) a=rotL' a (Int.toNat i)/\length (drop (Int.toNat i) a++take (Int.toNat i) a)=length (rotL' a (Int.toNat i))/\length (drop (Int.toNat
 i) a++take (Int.toNat i) a)=length (rotL' a (Int.toNat i))/\True):=by kernel_rfl
theorem C4s (a:List Int):fnP (T0) G 10000 B5w (.r [] 0 (.r [] 0 (.lit (.r [] 1 .nil)))) ([.imm (.ints .i64 a) a.length none]) ([.full 0 a.length]) ([A2d .i64 a])=(
 ltn 0 (length a)=true/\A0X ((0+length a)*8) 140737488355328=true/\Cont.size (Cont.ints i64 a)=length a/\0+length a=length a/\[]++a=a/\0+length a=length a/\True):=by kernel_rfl
theorem C4t (a:List Int):fnP (T0) G 10000 B5y (.r [] 0 (.r [] 0 (.lit (.r [] 1 .nil)))) ([.imm (.ints .u8 a) a.length none]) ([.full 0 a.length]) ([A2d .u8 a])=(
 ltn 0 (length a)=true/\A0X ((0+length a)*1) 140737488355328=true/\Cont.size (Cont.ints u8 a)=length a/\0+length a=length a/\[]++a=a/\0+length a=length a/\True):=by kernel_rfl
theorem C0H:fnP (T0) G 10000 B5w (.r [] 0 (.nl 1 [] 0 3 (.r [] 0 (.lit (.r [] 0 (.frz 2 0 .nil)))) (.r [] 0 (.lit (.r [] 7 (.frz 2 1 .nil)))))) ([.imm (.ints .i64 []) 0 none]) ([.imm (.ints .i64 []) 0 none]) ([])=(
 (0=0/\0=0->0=0/\0=0/\True)/\Cont.ints i64 []=Cont.ints i64 []/\0=0/\True):=by kernel_rfl
theorem C0I:fnP (T0) G 10000 B5y (.r [] 0 (.nl 1 [] 0 3 (.r [] 0 (.lit (.r [] 0 (.frz 2 0 .nil)))) (.r [] 0 (.lit (.r [] 7 (.frz 2 1 .nil)))))) ([.imm (.ints .u8 []) 0 none]) ([.imm (.ints .u8 []) 0 none]) ([])=(
 (0=0/\0=0->0=0/\0=0/\True)/\Cont.ints u8 []=Cont.ints u8 []/\0=0/\True):=by kernel_rfl
theorem C0J:fnP (T0) G 10000 B5x (.r [] 1 (.un (.r [] 0 (.lit .nil)))) ([.imm (.ints .i64 []) 0 none]) ([]) ([])=(
 True):=by kernel_rfl
theorem C0K:fnP (T0) G 10000 B5z (.r [] 1 (.un (.r [] 0 (.lit .nil)))) ([.imm (.ints .u8 []) 0 none]) ([]) ([])=(
 True):=by kernel_rfl
theorem C0L (a:List Int):fnP (D2m) G 10000 C2i (.r [] 0 (.r [(130,.auto,Dr.heap)] 0 (.r [(193,.auto,Dr.heap)] 0 (.r [] 0 (.frz 2 0 .nil))))) ([.imm (.ints .i64 a) a.length none]) ([.imm (.ints .i64 a.reverse) a.length (some a.length)]) ([])=(
 (length a=length a/\0<length a/\length a<100000000000)/\([(8256,HO.blk (Blk.mk (Cont.ints i64 a) 1 (length a) none (some false) true false))]=[(8256,HO.blk (Blk.mk (Cont.ints i64 a) 1
 (length a) none (some false) true false))]/\length a=length a)/\([(8256,HO.blk (Blk.mk (Cont.ints i64 a) 1 (length a) none (some false) true false))]=[(8256,HO.blk (Blk.mk (Cont.ints i64 a) 1
 (length a) none (some false) true false))]/\length a=length a/\length a=length a/\length a<1000000000000)/\length (reverse a)=length a/\Cont.ints i64 (reverse a)=Cont.ints i64 (reverse
 a)/\length a=length a/\length a=length a/\True):=by kernel_rfl
theorem C0M (a:List Int):fnP (D2n) G 10000 C2j (.r [] 0 (.r [(130,.auto,Dr.heap)] 0 (.r [(193,.auto,Dr.heap)] 0 (.r [] 0 (.frz 2 0 .nil))))) ([.imm (.ints .u8 a) a.length none]) ([.imm (.ints .u8 a.reverse) a.length (some a.length)]) ([])=(
 (length a=length a/\0<length a/\length a<100000000000)/\([(8256,HO.blk (Blk.mk (Cont.ints u8 a) 1 (length a) none (some false) true false))]=[(8256,HO.blk (Blk.mk (Cont.ints u8 a) 1
 (length a) none (some false) true false))]/\length a=length a)/\([(8256,HO.blk (Blk.mk (Cont.ints u8 a) 1 (length a) none (some false) true false))]=[(8256,HO.blk (Blk.mk (Cont.ints u8 a) 1
 (length a) none (some false) true false))]/\length a=length a/\length a=length a/\length a<1000000000000)/\length (reverse a)=length a/\Cont.ints u8 (reverse a)=Cont.ints u8 (reverse a)
 /\length a=length a/\length a=length a/\True):=by kernel_rfl
theorem C0N:fnP (C70) G 10000 C2i (.r [] 0 (.r [] 0 (.r [] 0 (.r [] 0 .nil)))) ([.imm (.ints .i64 []) 0 none]) ([.imm (.ints .i64 []) 0 (some 0)]) ([])=(
 (0=0/\iL []=[])/\0=0/\(0=0/\iL []=[])/\Cont.ints i64 []=Cont.ints i64 []/\0=0/\0=0/\True):=by kernel_rfl
theorem C0O:fnP (C70) G 10000 C2j (.r [] 0 (.r [] 0 (.r [] 0 (.r [] 0 .nil)))) ([.imm (.ints .u8 []) 0 none]) ([.imm (.ints .u8 []) 0 (some 0)]) ([])=(
 (0=0/\iL []=[])/\0=0/\(0=0/\iL []=[])/\Cont.ints u8 []=Cont.ints u8 []/\0=0/\0=0/\True):=by kernel_rfl
theorem C0P (a k:List Int):fnP (UC) G 10000 C1F (.r [] 0 (.r [] 21 (.r [] 1 (.r [] 0 (.tt (.r [] 9 (.r [] 3 .nil))))))) ([A3T a k]) ([.agg [A7F .i64 a.reverse,.fullc 0 (A0k k).length (A0k k).length]]) ([A2d .u8 (A0k k)])=(
 (fun(zz0:Nat)=>(length a=length a/\length a<100000000000)/\(length k=length k/\length k<100000000000)/\ltb 0 (↑(length k):Int)=true/\inR i64 ((↑(length k):Int)-1)=
 true/\(length k=length (reverse k)/\0<length (reverse k)/\length (reverse k)<100000000000/\0<=(↑(length k):Int)-1/\(↑(length k):Int)-1<=(↑(length (reverse k)):Int))/\
 length (rotL' (reverse k) zz0)=length (A0k k)/\rotL' (reverse k) zz0=A0k k/\qx (Cont.ints i64 (reverse a)) (length a=length (reverse a)/\length a=length (reverse a)/\length
 (rotL' (reverse k) zz0)=length (A0k k)/\length (rotL' (reverse k) zz0)=length (A0k k)/\True)) (Int.toNat ((↑(length k):Int)-1))):=by kernel_rfl
theorem C0Q (a k:List Int):fnP (UC) G 10000 C1F (.r [] 0 (.r [] 21 (.r [] 1 (.r [] 0 (.tt (.r [] 9 (.frz 3 0 (.r [] 3 .nil)))))))) ([A3T a k]) ([A89 a.reverse (A0k k)]) ([])=(
 (fun(zz0:Nat)=>(length a=length a/\length a<100000000000)/\(length k=length k/\length k<100000000000)/\ltb 0 (↑(length k):Int)=true/\inR i64 ((↑(length k):Int)-1)=
 true/\(length k=length (reverse k)/\0<length (reverse k)/\length (reverse k)<100000000000/\0<=(↑(length k):Int)-1/\(↑(length k):Int)-1<=(↑(length (reverse k)):Int))/\
 length (rotL' (reverse k) zz0)=length (rotL' (reverse k) zz0)/\Cont.ints i64 (reverse a)=Cont.ints i64 (reverse a)/\length a=length (reverse a)/\length a=length (reverse a)/\
 Cont.ints u8 (rotL' (reverse k) zz0)=Cont.ints u8 (A0k k)/\length (rotL' (reverse k) zz0)=length (A0k k)/\length (rotL' (reverse k) zz0)=length (A0k k)/\True) (Int.toNat
 ((↑(length k):Int)-1))):=by kernel_rfl
theorem C0R (a k:List Int):fnP (UC) G 10000 C1F (.r [] 0 (.r [] 21 (.r [] 1 (.r [] 0 (.ff (.r [] 3 .nil)))))) ([A3T a k]) ([A89 a.reverse (A0k k)]) ([])=(
 (length a=length a/\length a<100000000000)/\(length k=length k/\length k<100000000000)/\ltb 0 (↑(length k):Int)=false/\Cont.ints i64 (reverse a)=Cont.ints i64 (reverse a)/\length a
 =length (reverse a)/\length a=length (reverse a)/\Cont.ints u8 (reverse k)=Cont.ints u8 (A0k k)/\length k=length (A0k k)/\length k=length (A0k k)/\True):=by kernel_rfl
theorem C4u (a k:List Int):fnP (UO) G 10000 C2g (.r [] 0 (.r [] 5 (.r [] 1 (.lp (l21 (A0k k)) [] [] (fun b=>(.r [] 0 (.cnd (.r [] 0 (.rs 3 [] 0 18 (.r [] 3 (.lit (.r [] 1 (.r [] 0 .nil)))) (.r [] 3 (.cnd (.r [] 1 (.r [] 0 .nil)) (.r [] 0 .nil))))) (.frz 3 0 (.r [] 3 .nil))))))))) ([A3T a k]) ([A89 a.reverse (A17 (A0k k))]) ([])=(
 (fun(zz3:Nat)=>(fun(zz0:Nat)=>(length a=length a/\length k=length k/\length a<100000000000/\0<length k/\length k<100000000000)/\qx zz0 (1=1/\qs i64 a (qs u8 k (1
 =1/\qx zz0 (A0k k=A0k k/\1=1/\qs i64 (reverse a) (qx zz3 (qx zz0 (qx zz0 (0=0/\0=0/\qx zz0 (qx zz0 (ql (A0k k) (iI 0=0/\(∃(n:Nat),0=(↑n:Int)/\n<=length
 (A0k k)/\A0k k=take n (A17 (A0k k))++drop n (A0k k))/\∀(b:L21),(fun(zz2:Prop)=>(fun(zz1:List Int)=>(∃(n:Nat),b.i=(↑n:Int)/\n<=length (A0k k)/\b.l=
 take n (A17 (A0k k))++drop n (A0k k))->(ltb b.i (↑zz0:Int)=true->leb 0 b.i=true/\ltb b.i (↑zz0:Int)=true/\length b.l=length (A0k k)/\length b.l=length (A0k k)/\
 ltn (Int.toNat b.i) (Cont.size (Cont.ints u8 b.l))=true/\((getD b.l (Int.toNat b.i) 0==1)=true->inR u8 (3-getD b.l (Int.toNat b.i) 0)=true/\leb 0 b.i=true/\ltb b.i (↑zz0:
 Int)=true/\length b.l=length (A0k k)/\length b.l=length (A0k k)/\A0X (Int.toNat b.i+1) (Cont.size (Cont.ints u8 b.l))=true/\inR i64 (b.i+1)=true/\1=1/\qs i64 a (qs
 u8 k (1=1/\length b.l=length zz1/\qx zz1 (1=1/\qs i64 (reverse a) (qx zz3 (qx zz0 (qx zz0 (0=0/\0=0/\qx zz0 (qx zz0 (ql (A0k k) (b.i+1=b.i+1/\zz2/\length (A0k k)-
 Int.toNat (b.i+1)<length (A0k k)-Int.toNat b.i/\True)))))))))))/\((getD b.l (Int.toNat b.i) 0==1)=false->((getD b.l (Int.toNat b.i) 0==2)=true->inR u8 (3-getD b.l
 (Int.toNat b.i) 0)=true/\leb 0 b.i=true/\ltb b.i (↑zz0:Int)=true/\length b.l=length (A0k k)/\length b.l=length (A0k k)/\A0X (Int.toNat b.i+1) (Cont.size (Cont.ints u8
 b.l))=true/\inR i64 (b.i+1)=true/\1=1/\qs i64 a (qs u8 k (1=1/\length b.l=length zz1/\qx zz1 (1=1/\qs i64 (reverse a) (qx zz3 (qx zz0 (qx zz0 (0=0/\0=0/\qx zz0 (qx
 zz0 (ql (A0k k) (b.i+1=b.i+1/\zz2/\length (A0k k)-Int.toNat (b.i+1)<length (A0k k)-Int.toNat b.i/\True)))))))))))/\((getD b.l (Int.toNat b.i) 0==2)=false->inR
 i64 (b.i+1)=true/\1=1/\qs i64 a (qs u8 k (1=1/\qx (length b.l) (b.l=b.l/\1=1/\qs i64 (reverse a) (qx zz3 (qx zz0 (qx zz0 (0=0/\0=0/\qx zz0 (qx zz0 (ql (A0k k) (b.i+
 1=b.i+1/\(∃(n:Nat),b.i+1=(↑n:Int)/\n<=length (A0k k)/\b.l=take n (A17 (A0k k))++drop n (A0k k))/\length (A0k k)-Int.toNat (b.i+1)<length (A0k k)-
 Int.toNat b.i/\True)))))))))))))/\(ltb b.i (↑zz0:Int)=false->length b.l=length (A0k k)/\qs i64 (reverse a) (qx zz3 (Cont.ints u8 b.l=Cont.ints u8 (A17 (A0k k))/\length
 (A0k k)=length (A17 (A0k k))/\length (A0k k)=length (A17 (A0k k))/\True)))) (set b.l (Int.toNat b.i) (3-getD b.l (Int.toNat b.i) 0))) (∃(n:Nat),b.i+1=(↑n:Int)/\n
 <=length (A0k k)/\set b.l (Int.toNat b.i) (3-getD b.l (Int.toNat b.i) 0)=take n (A17 (A0k k))++drop n (A0k k)))))))))))))) (length (A0k k))) (length (reverse a))):=by kernel_rfl
theorem C0S (a:List Int):fnP (UOz) G 10000 C2g (.r [] 0 (.r [] 5 (.r [] 1 (.un (.r [] 0 (.lit (.r [] 3 .nil))))))) ([.agg [.imm (.ints .i64 a) a.length none,.imm (.ints .u8 []) 0 none]]) ([A89 a.reverse []]) ([])=(
 (length a=length a/\0=0/\length a<100000000000/\0<100000000000)/\qs i64 (reverse a) (qx (length (reverse a)) (Cont.ints u8 []=Cont.ints u8 []/\0=0/\0=0/\True))):=by kernel_rfl
end Go.Proofs.YtfafinkgmhkdmaaGreatDoor.X
