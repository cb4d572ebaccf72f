/-
 What is to be shown of the functions (made by a program).
-/
import Derived.Test.YtfafinkgmhkdmaaGreatDoorVD8Z
import Derived.KernelRfl
set_option maxRecDepth 1000000
set_option linter.unusedVariables false
namespace Go.Proofs.YtfafinkgmhkdmaaGreatDoor.X
open Go Go.Ab
open List IntKind

theorem ob_o75 (x:Int):fnP (T0) G 10000 fe51 (.r [] 0 (.r [] 0 .nil)) ([.int .i64 x]) ([.bool false]) ([])=(
 (x !=x)=false∧True):=by kernel_rfl

theorem ob_o87 (x:Int):fnP (T0) G 10000 fe128 (.r [] 0 (.r [] 0 .nil)) ([.int .u8 x]) ([.bool false]) ([])=(
 (x !=x)=false∧True):=by kernel_rfl

theorem ob_o52 (x y:Int):fnP (WN) G 10000 fe22 (.r [] 0 (.r [] 1 (.r [] 1 (.r [] 0 (.lit (.r [] 0 (.lit (.r [] 0 (.cnd (.r [] 0 .nil) (.r [] 0 (.cnd (.r [] 0 .nil) (.r [] 0 .nil)))))))))))) ([.int .i64 x,.int .i64 y]) ([.int .i64 (cmpI x y)]) ([])=(
 (ltb x y=true→ -1=cmpI x y∧True)∧(ltb x y=false→(ltb y x=true→1=cmpI x y∧True)∧(ltb y x=false→0=cmpI x y∧True))):=by kernel_rfl

theorem ob_o72 (x y:Int):fnP (WN) G 10000 fe109 (.r [] 0 (.r [] 1 (.r [] 1 (.r [] 0 (.lit (.r [] 0 (.lit (.r [] 0 (.cnd (.r [] 0 .nil) (.r [] 0 (.cnd (.r [] 0 .nil) (.r [] 0 .nil)))))))))))) ([.int .u8 x,.int .u8 y]) ([.int .i64 (cmpI x y)]) ([])=(
 (ltb x y=true→ -1=cmpI x y∧True)∧(ltb x y=false→(ltb y x=true→1=cmpI x y∧True)∧(ltb y x=false→0=cmpI x y∧True))):=by kernel_rfl

theorem ob_o47 (x y:Int):fnP (T0) G 10000 fe21 (.r [] 0 (.r [] 0 (.r [] 0 (.un (.r [] 0 (.lit (.r [] 15 (.r [] 0 (.cnd (.r [] 0 .nil) (.r [] 1 (.un (.r [] 0 (.lit (.r [] 15 (.r [] 0 (.cnd (.r [] 0 .nil) (.r [] 1 (.un (.r [] 0 (.lit (.r [] 0 .nil))))))))))))))))))))) ([.imm (.ints .i64 [x,y]) 2 none]) ([.int .i64 (orI x y)]) ([])=(
 ((getD [x,y] 0 0 !=0)=true→getD [x,y] 0 0=orI x y∧True)∧((getD [x,y] 0 0 !=0)=false→((getD [y] 0 0 !=0)=true→getD [y] 0 0=orI x y∧True)∧((getD [y] 0 0 !=0)=false→0=
 orI x y∧True))):=by kernel_rfl

theorem ob_o48 (a b:List Int):fnP (WA) G 10000 fe69 (.r [] 0 (.r [] 0 (.lp (l48 a b) [] [] (fun b_1=>(.r [] 0 (.cnd (.r [] 0 (.r [] 0 (.cnd (.r [] 0 .nil) (.r [] 0 (.r [] 1 (.r [] 0 (.cnd (.r [] 0 .nil) (.r [] 0 .nil)))))))) (.r [] 0 (.cnd (.r [] 0 .nil) (.r [] 0 .nil))))))))) ([.imm (.ints .i64 a) a.length none,.imm (.ints .i64 b) b.length none]) ([.int .i64 (cmpL a b)]) ([])=(
 Cont.ints i64 a=Cont.ints i64 a∧length a=length a∧Cont.ints i64 b=Cont.ints i64 b∧length b=length b∧Cont.ints i64 a=Cont.ints i64 a∧length a=length a∧(↑(length a):Int)=
 (↑(length a):Int)∧iI 0=0∧(∃(n:Nat),0=(↑n:Int)∧n≤length a∧n≤length b∧cmpL (drop n a) (drop n b)=cmpL a b)∧∀(b_1:L48),(∃(n:Nat),b_1.i=(↑n:Int)∧n≤length a∧
 n≤length b∧cmpL (drop n a) (drop n b)=cmpL a b)→(ltb b_1.i (↑(length a):Int)=true→leb 0 b_1.i=true∧ltb b_1.i (↑(length a):Int)=true∧ltn 0 (Cont.size (Cont.ints i64 a))=true∧
 ltn 0 (Cont.size (Cont.ints i64 (drop (Int.toNat b_1.i) a)))=true∧(leb (↑(length b):Int) b_1.i=true→1=cmpL a b∧True)∧(leb (↑(length b):Int) b_1.i=false→leb 0 b_1.i=true∧ltb
 b_1.i (↑(length b):Int)=true∧ltn 0 (Cont.size (Cont.ints i64 b))=true∧ltn 0 (Cont.size (Cont.ints i64 (drop (Int.toNat b_1.i) b)))=true∧((cmpI (getD (drop (Int.toNat b_1.i) a) 0 0) (getD
 (drop (Int.toNat b_1.i) b) 0 0) !=0)=true→cmpI (getD (drop (Int.toNat b_1.i) a) 0 0) (getD (drop (Int.toNat b_1.i) b) 0 0)=cmpL a b∧True)∧((cmpI (getD (drop (Int.toNat b_1.i) a) 0 0) (getD
 (drop (Int.toNat b_1.i) b) 0 0) !=0)=false→inR i64 (b_1.i+1)=true∧Cont.ints i64 a=Cont.ints i64 a∧length a=length a∧Cont.ints i64 b=Cont.ints i64 b∧length b=length b∧
 Cont.ints i64 a=Cont.ints i64 a∧length a=length a∧(↑(length a):Int)=(↑(length a):Int)∧b_1.i+1=b_1.i+1∧(∃(n:Nat),b_1.i+1=(↑n:Int)∧n≤length a∧n≤length b∧cmpL
 (drop n a) (drop n b)=cmpL a b)∧length a-Int.toNat (b_1.i+1)<length a-Int.toNat b_1.i∧True)))∧(ltb b_1.i (↑(length a):Int)=false→(ltb (↑(length a):Int) (↑(length b):Int)=
 true→ -1=cmpL a b∧True)∧(ltb (↑(length a):Int) (↑(length b):Int)=false→0=cmpL a b∧True))):=by kernel_rfl

theorem ob_o49 (a b:List Int):fnP (WA) G 10000 fe70 (.r [] 0 (.r [] 0 (.lp (l48 a b) [] [] (fun b_1=>(.r [] 0 (.cnd (.r [] 0 (.r [] 0 (.cnd (.r [] 0 .nil) (.r [] 0 (.r [] 1 (.r [] 0 (.cnd (.r [] 0 .nil) (.r [] 0 .nil)))))))) (.r [] 0 (.cnd (.r [] 0 .nil) (.r [] 0 .nil))))))))) ([.imm (.ints .u8 a) a.length none,.imm (.ints .u8 b) b.length none]) ([.int .i64 (cmpL a b)]) ([])=(
 Cont.ints u8 a=Cont.ints u8 a∧length a=length a∧Cont.ints u8 b=Cont.ints u8 b∧length b=length b∧Cont.ints u8 a=Cont.ints u8 a∧length a=length a∧(↑(length a):Int)=(↑(length
 a):Int)∧iI 0=0∧(∃(n:Nat),0=(↑n:Int)∧n≤length a∧n≤length b∧cmpL (drop n a) (drop n b)=cmpL a b)∧∀(b_1:L48),(∃(n:Nat),b_1.i=(↑n:Int)∧n≤length a∧n≤length
 b∧cmpL (drop n a) (drop n b)=cmpL a b)→(ltb b_1.i (↑(length a):Int)=true→leb 0 b_1.i=true∧ltb b_1.i (↑(length a):Int)=true∧ltn 0 (Cont.size (Cont.ints u8 a))=true∧ltn 0
 (Cont.size (Cont.ints u8 (drop (Int.toNat b_1.i) a)))=true∧(leb (↑(length b):Int) b_1.i=true→1=cmpL a b∧True)∧(leb (↑(length b):Int) b_1.i=false→leb 0 b_1.i=true∧ltb b_1.i
 (↑(length b):Int)=true∧ltn 0 (Cont.size (Cont.ints u8 b))=true∧ltn 0 (Cont.size (Cont.ints u8 (drop (Int.toNat b_1.i) b)))=true∧((cmpI (getD (drop (Int.toNat b_1.i) a) 0 0) (getD (drop
 (Int.toNat b_1.i) b) 0 0) !=0)=true→cmpI (getD (drop (Int.toNat b_1.i) a) 0 0) (getD (drop (Int.toNat b_1.i) b) 0 0)=cmpL a b∧True)∧((cmpI (getD (drop (Int.toNat b_1.i) a) 0 0) (getD (drop
 (Int.toNat b_1.i) b) 0 0) !=0)=false→inR i64 (b_1.i+1)=true∧Cont.ints u8 a=Cont.ints u8 a∧length a=length a∧Cont.ints u8 b=Cont.ints u8 b∧length b=length b∧Cont.ints u8 a=
 Cont.ints u8 a∧length a=length a∧(↑(length a):Int)=(↑(length a):Int)∧b_1.i+1=b_1.i+1∧(∃(n:Nat),b_1.i+1=(↑n:Int)∧n≤length a∧n≤length b∧cmpL (drop n a) (drop n
 b)=cmpL a b)∧length a-Int.toNat (b_1.i+1)<length a-Int.toNat b_1.i∧True)))∧(ltb b_1.i (↑(length a):Int)=false→(ltb (↑(length a):Int) (↑(length b):Int)=true→ -1=cmpL a b
 ∧True)∧(ltb (↑(length a):Int) (↑(length b):Int)=false→0=cmpL a b∧True))):=by kernel_rfl

theorem ob_o42i (a:List Int)(i:Int):fnP (UB42) G 10000 fe42 (.r [] 0 (.r [(136,.auto,Dr.heap)] 64 (.frz 4 0 .nil))) ([.imm (.ints .i64 a) a.length none,.int .i64 i]) ([immL .i64 (rotL' a i.toNat)]) ([])=(
 leb 0 i=true∧len' (Int.toNat i) (length a)=true∧Cont.size (Cont.ints i64 a)=length a∧leb 0 i=true∧len' (Int.toNat i) (length a)=true∧Cont.size (Cont.ints i64 a)=length a∧
 (length a-Int.toNat i=length (drop (Int.toNat i) a)∧Int.toNat i=length (take (Int.toNat i) a)∧0<length (drop (Int.toNat i) a)+length (take (Int.toNat i) a)∧length (drop (Int.toNat i)
 a)+length (take (Int.toNat i) a)<100000000000)∧([(8640,HO.blk (Blk.mk (Cont.ints i64 (drop (Int.toNat i) a++take (Int.toNat i) a)) 1 (length (drop (Int.toNat i) a++take (Int.toNat i) a))
 none (some false) true false))]=[(8640,HO.blk (Blk.mk (Cont.ints i64 (drop (Int.toNat i) a++take (Int.toNat i) a)) 1 (length (drop (Int.toNat i) a++take (Int.toNat i) a)) none (some false) true
 false))]∧length (drop (Int.toNat i) a++take (Int.toNat i) a)=length (drop (Int.toNat i) a++take (Int.toNat i) a))∧length (drop (Int.toNat i) a++take (Int.toNat i) a)=length (drop
 (Int.toNat i) a++take (Int.toNat i) a)∧Cont.ints i64 (drop (Int.toNat i) a++take (Int.toNat i) a)=Cont.ints i64 (rotL' a (Int.toNat i))∧length (drop (Int.toNat i) a++take (Int.toNat i) a)
 =length (rotL' a (Int.toNat i))∧length (drop (Int.toNat i) a++take (Int.toNat i) a)=length (rotL' a (Int.toNat i))∧True):=by kernel_rfl

theorem ob_o43i (a:List Int)(i:Int):fnP (UB43) G 10000 fe43 (.r [] 0 (.r [(136,.auto,Dr.heap)] 64 (.frz 4 0 .nil))) ([.imm (.ints .u8 a) a.length none,.int .i64 i]) ([immL .u8 (rotL' a i.toNat)]) ([])=(
 leb 0 i=true∧len' (Int.toNat i) (length a)=true∧Cont.size (Cont.ints u8 a)=length a∧leb 0 i=true∧len' (Int.toNat i) (length a)=true∧Cont.size (Cont.ints u8 a)=length a∧(length
 a-Int.toNat i=length (drop (Int.toNat i) a)∧Int.toNat i=length (take (Int.toNat i) a)∧0<length (drop (Int.toNat i) a)+length (take (Int.toNat i) a)∧length (drop (Int.toNat i) a)+
 length (take (Int.toNat i) a)<100000000000)∧([(8640,HO.blk (Blk.mk (Cont.ints u8 (drop (Int.toNat i) a++take (Int.toNat i) a)) 1 (length (drop (Int.toNat i) a++take (Int.toNat i) a)) none
 (some false) true false))]=[(8640,HO.blk (Blk.mk (Cont.ints u8 (drop (Int.toNat i) a++take (Int.toNat i) a)) 1 (length (drop (Int.toNat i) a++take (Int.toNat i) a)) none (some false) true
 false))]∧length (drop (Int.toNat i) a++take (Int.toNat i) a)=length (drop (Int.toNat i) a++take (Int.toNat i) a))∧length (drop (Int.toNat i) a++take (Int.toNat i) a)=length (drop
 (Int.toNat i) a++take (Int.toNat i) a)∧Cont.ints u8 (drop (Int.toNat i) a++take (Int.toNat i) a)=Cont.ints u8 (rotL' a (Int.toNat i))∧length (drop (Int.toNat i) a++take (Int.toNat i) a)=
 length (rotL' a (Int.toNat i))∧length (drop (Int.toNat i) a++take (Int.toNat i) a)=length (rotL' a (Int.toNat i))∧True):=by kernel_rfl

theorem ob_o19f (a k:List Int)(i:Int):fnP (WB) G 10000 fe12 (.r [] 0 (.r [] 1 (.r [] 0 (.cnd (.r [] 1 .nil) (.rs 3 [] 0 15 (.r [] 3 (.lit (.r [] 1 .nil))) (.r [] 7 (.cnd (.r [] 1 .nil) (.r [] 21 .nil)))))))) ([fanV a k,.int .i64 i]) ([.agg [immL .i64 (bLt (tOk a i) (rotL' a i.toNat)),immL .u8 (bLt (tOk a i) (rotL' k i.toNat))],.int .i64 (bI (tOk a i) 0 1)]) ([])=(
 (length a=length a∧length k=length k∧length a<1000000000000)∧((chk a k !=0)=true→Cont.size (Cont.ints i64 (bLt (tOk a i) (rotL' a (Int.toNat i))))=0∧length (bLt (tOk a i) (rotL' a
 (Int.toNat i)))=0∧length (bLt (tOk a i) (rotL' a (Int.toNat i)))=0∧Cont.size (Cont.ints u8 (bLt (tOk a i) (rotL' k (Int.toNat i))))=0∧length (bLt (tOk a i) (rotL' k (Int.toNat i)))=0∧
 length (bLt (tOk a i) (rotL' k (Int.toNat i)))=0∧chk a k=bI (tOk a i) 0 1∧True)∧((chk a k !=0)=false→(ltb i 0=true→Cont.size (Cont.ints i64 (bLt (tOk a i) (rotL' a (Int.toNat i))))
 =0∧length (bLt (tOk a i) (rotL' a (Int.toNat i)))=0∧length (bLt (tOk a i) (rotL' a (Int.toNat i)))=0∧Cont.size (Cont.ints u8 (bLt (tOk a i) (rotL' k (Int.toNat i))))=0∧length (bLt (tOk
 a i) (rotL' k (Int.toNat i)))=0∧length (bLt (tOk a i) (rotL' k (Int.toNat i)))=0∧1=bI (tOk a i) 0 1∧True)∧(ltb i 0=false→(leb (if 1>(↑(length a):Int)then 1 else(↑(length a):
 Int)) i=true→Cont.size (Cont.ints i64 (bLt (tOk a i) (rotL' a (Int.toNat i))))=0∧length (bLt (tOk a i) (rotL' a (Int.toNat i)))=0∧length (bLt (tOk a i) (rotL' a (Int.toNat i)))=0∧
 Cont.size (Cont.ints u8 (bLt (tOk a i) (rotL' k (Int.toNat i))))=0∧length (bLt (tOk a i) (rotL' k (Int.toNat i)))=0∧length (bLt (tOk a i) (rotL' k (Int.toNat i)))=0∧1=bI (tOk a i) 0 1∧
 True)∧(leb (if 1>(↑(length a):Int)then 1 else(↑(length a):Int)) i=false→(length a=length a∧length a<100000000000∧0≤i∧i≤(↑(length a):Int))∧(length k=length k∧length
 k<100000000000∧0≤i∧i≤(↑(length k):Int))∧Cont.ints i64 (rotL' a (Int.toNat i))=Cont.ints i64 (bLt (tOk a i) (rotL' a (Int.toNat i)))∧length (rotL' a (Int.toNat i))=length (bLt (tOk
 a i) (rotL' a (Int.toNat i)))∧length (rotL' a (Int.toNat i))=length (bLt (tOk a i) (rotL' a (Int.toNat i)))∧Cont.ints u8 (rotL' k (Int.toNat i))=Cont.ints u8 (bLt (tOk a i) (rotL' k (Int.toNat
 i)))∧length (rotL' k (Int.toNat i))=length (bLt (tOk a i) (rotL' k (Int.toNat i)))∧length (rotL' k (Int.toNat i))=length (bLt (tOk a i) (rotL' k (Int.toNat i)))∧0=bI (tOk a i) 0 1∧
 True)))):=by kernel_rfl

end Go.Proofs.YtfafinkgmhkdmaaGreatDoor.X
