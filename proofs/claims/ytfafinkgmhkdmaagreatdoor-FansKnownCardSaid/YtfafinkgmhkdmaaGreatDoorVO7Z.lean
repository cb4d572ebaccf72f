/-
 What is to be shown of the functions (made by a program).
-/
import Derived.Test.YtfafinkgmhkdmaaGreatDoorVD8Z
set_option maxRecDepth 1000000
set_option linter.unusedVariables false
namespace Go.Proofs.YtfafinkgmhkdmaaGreatDoor.X
open Go Go.Ab
open List IntKind
theorem C4f (x:Int):fnP (T0) G 10000 C2h (.r [] 0 (.r [] 0 .nil)) ([.int .i64 x]) ([.bool false]) ([])=(
 (x !=x)=false/\True):=by kernel_rfl
theorem B5R (x:Int):fnP (T0) G 10000 B7B (.r [] 0 (.r [] 0 .nil)) ([.int .u8 x]) ([.bool false]) ([])=(
 (x !=x)=false/\True):=by kernel_rfl
theorem C4g (x y:Int):fnP (WN) G 10000 C2a (.r [] 0 (.r [] 1 (.r [] 1 (.r [] 0 (.lit (.r [] 0 (.lit (.r [] 0 (.cnd (.r [] 0 .nil) (.r [] 0 (.cnd (.r [] 0 .nil) (.r [] 0 .nil)))))))))))) ([.int .i64 x,.int .i64 y]) ([.int .i64 (A28 x y)]) ([])=(
 (ltb x y=true-> -1=A28 x y/\True)/\(ltb x y=false->(ltb y x=true->1=A28 x y/\True)/\(ltb y x=false->0=A28 x y/\True))):=by kernel_rfl
theorem C4h (x y:Int):fnP (WN) G 10000 B7u (.r [] 0 (.r [] 1 (.r [] 1 (.r [] 0 (.lit (.r [] 0 (.lit (.r [] 0 (.cnd (.r [] 0 .nil) (.r [] 0 (.cnd (.r [] 0 .nil) (.r [] 0 .nil)))))))))))) ([.int .u8 x,.int .u8 y]) ([.int .i64 (A28 x y)]) ([])=(
 (ltb x y=true-> -1=A28 x y/\True)/\(ltb x y=false->(ltb y x=true->1=A28 x y/\True)/\(ltb y x=false->0=A28 x y/\True))):=by kernel_rfl
theorem C4i (x y:Int):fnP (T0) G 10000 C19 (.r [] 0 (.r [] 0 (.r [] 0 (.un (.r [] 0 (.lit (.r [] 15 (.r [] 0 (.cnd (.r [] 0 .nil) (.r [] 1 (.un (.r [] 0 (.lit (.r [] 15 (.r [] 0 (.cnd (.r [] 0 .nil) (.r [] 1 (.un (.r [] 0 (.lit (.r [] 0 .nil))))))))))))))))))))) ([.imm (.ints .i64 [x,y]) 2 none]) ([.int .i64 (orI x y)]) ([])=(
 ((getD [x,y] 0 0 !=0)=true->getD [x,y] 0 0=orI x y/\True)/\((getD [x,y] 0 0 !=0)=false->((getD [y] 0 0 !=0)=true->getD [y] 0 0=orI x y/\True)/\((getD [y] 0 0 !=0)=false->0=
 orI x y/\True))):=by kernel_rfl
theorem C4j (a b:List Int):fnP (WA) G 10000 C6k (.r [] 0 (.r [] 0 (.lp (l48 a b) [] [] (fun b_1=>(.r [] 0 (.cnd (.r [] 0 (.r [] 0 (.cnd (.r [] 0 .nil) (.r [] 0 (.r [] 1 (.r [] 0 (.cnd (.r [] 0 .nil) (.r [] 0 .nil)))))))) (.r [] 0 (.cnd (.r [] 0 .nil) (.r [] 0 .nil))))))))) ([.imm (.ints .i64 a) a.length none,.imm (.ints .i64 b) b.length none]) ([.int .i64 (A1d a b)]) ([])=(
 qs i64 a (qs i64 b (qs i64 a (ql a (iI 0=0/\(∃(n:Nat),0=(↑n:Int)/\n<=length a/\n<=length b/\A1d (drop n a) (drop n b)=A1d a b)/\∀(b_1:L48),(fun(zz0:Bool)=>(∃(n
 :Nat),b_1.i=(↑n:Int)/\n<=length a/\n<=length b/\A1d (drop n a) (drop n b)=A1d a b)->(ltb b_1.i (↑(length a):Int)=true->rd i64 a b_1.i ((leb (↑(length b):Int) b_1.i=
 true->1=A1d a b/\True)/\(leb (↑(length b):Int) b_1.i=false->rd i64 b b_1.i ((zz0=true->A28 (getD (drop (Int.toNat b_1.i) a) 0 0) (getD (drop (Int.toNat b_1.i) b) 0 0)=A1d a
 b/\True)/\(zz0=false->inR i64 (b_1.i+1)=true/\qs i64 a (qs i64 b (qs i64 a (ql a (qx (b_1.i+1) ((∃(n:Nat),b_1.i+1=(↑n:Int)/\n<=length a/\n<=length b/\A1d (drop n
 a) (drop n b)=A1d a b)/\length a-Int.toNat (b_1.i+1)<length a-Int.toNat b_1.i/\True))))))))))/\(ltb b_1.i (↑(length a):Int)=false->(ltb (↑(length a):Int) (↑(length b):
 Int)=true-> -1=A1d a b/\True)/\(ltb (↑(length a):Int) (↑(length b):Int)=false->0=A1d a b/\True))) (A28 (getD (drop (Int.toNat b_1.i) a) 0 0) (getD (drop (Int.toNat b_1.i)
 b) 0 0) !=0)))))):=by kernel_rfl
theorem C4k (a b:List Int):fnP (WA) G 10000 C6l (.r [] 0 (.r [] 0 (.lp (l48 a b) [] [] (fun b_1=>(.r [] 0 (.cnd (.r [] 0 (.r [] 0 (.cnd (.r [] 0 .nil) (.r [] 0 (.r [] 1 (.r [] 0 (.cnd (.r [] 0 .nil) (.r [] 0 .nil)))))))) (.r [] 0 (.cnd (.r [] 0 .nil) (.r [] 0 .nil))))))))) ([.imm (.ints .u8 a) a.length none,.imm (.ints .u8 b) b.length none]) ([.int .i64 (A1d a b)]) ([])=(
 qs u8 a (qs u8 b (qs u8 a (ql a (iI 0=0/\(∃(n:Nat),0=(↑n:Int)/\n<=length a/\n<=length b/\A1d (drop n a) (drop n b)=A1d a b)/\∀(b_1:L48),(fun(zz0:Bool)=>(∃(n:
 Nat),b_1.i=(↑n:Int)/\n<=length a/\n<=length b/\A1d (drop n a) (drop n b)=A1d a b)->(ltb b_1.i (↑(length a):Int)=true->rd u8 a b_1.i ((leb (↑(length b):Int) b_1.i=true
 ->1=A1d a b/\True)/\(leb (↑(length b):Int) b_1.i=false->rd u8 b b_1.i ((zz0=true->A28 (getD (drop (Int.toNat b_1.i) a) 0 0) (getD (drop (Int.toNat b_1.i) b) 0 0)=A1d a b/\
 True)/\(zz0=false->inR i64 (b_1.i+1)=true/\qs u8 a (qs u8 b (qs u8 a (ql a (qx (b_1.i+1) ((∃(n:Nat),b_1.i+1=(↑n:Int)/\n<=length a/\n<=length b/\A1d (drop n a)
 (drop n b)=A1d a b)/\length a-Int.toNat (b_1.i+1)<length a-Int.toNat b_1.i/\True))))))))))/\(ltb b_1.i (↑(length a):Int)=false->(ltb (↑(length a):Int) (↑(length b):
 Int)=true-> -1=A1d a b/\True)/\(ltb (↑(length a):Int) (↑(length b):Int)=false->0=A1d a b/\True))) (A28 (getD (drop (Int.toNat b_1.i) a) 0 0) (getD (drop (Int.toNat b_1.i)
 b) 0 0) !=0)))))):=by kernel_rfl
theorem C0C (a:List Int)(i:Int):fnP (C7Y) G 10000 C2d (.r [] 0 (.r [(136,.auto,Dr.heap)] 64 (.frz 4 0 .nil))) ([.imm (.ints .i64 a) a.length none,.int .i64 i]) ([A7F .i64 (rotL' a i.toNat)]) ([])=(
 (fun(zz0:Nat)=>leb 0 i=true/\A0X (Int.toNat i) (length a)=true/\Cont.size (Cont.ints i64 a)=length a/\leb 0 i=true/\A0X (Int.toNat i) (length a)=true/\Cont.size
 (Cont.ints i64 a)=length a/\(length a-Int.toNat i=length (drop (Int.toNat i) a)/\Int.toNat i=length (take (Int.toNat i) a)/\0<length (drop (Int.toNat i) a)+length (take
 (Int.toNat i) a)/\length (drop (Int.toNat i) a)+length (take (Int.toNat i) a)<100000000000)/\([(8640,HO.blk (Blk.mk (Cont.ints i64 (drop (Int.toNat i) a++take (Int.toNat i) a)) 1
 zz0 none (some false) true false))]=[(8640,HO.blk (Blk.mk (Cont.ints i64 (drop (Int.toNat i) a++take (Int.toNat i) a)) 1 zz0 none (some false) true false))]/\length (drop (Int.toNat i)
 a++take (Int.toNat i) a)=length (drop (Int.toNat i) a++take (Int.toNat i) a))/\qx zz0 (Cont.ints i64 (drop (Int.toNat i) a++take (Int.toNat i) a)=Cont.ints i64 (rotL' a (Int.toNat
 i))/\length (drop (Int.toNat i) a++take (Int.toNat i) a)=length (rotL' a (Int.toNat i))/\length (drop (Int.toNat i) a++take (Int.toNat i) a)=length (rotL' a (Int.toNat i))/\True))
 (length (drop (Int.toNat i) a++take (Int.toNat i) a))):=by kernel_rfl
theorem C0D (a:List Int)(i:Int):fnP (C7Z) G 10000 C2e (.r [] 0 (.r [(136,.auto,Dr.heap)] 64 (.frz 4 0 .nil))) ([.imm (.ints .u8 a) a.length none,.int .i64 i]) ([A7F .u8 (rotL' a i.toNat)]) ([])=(
 (fun(zz0:Nat)=>leb 0 i=true/\A0X (Int.toNat i) (length a)=true/\Cont.size (Cont.ints u8 a)=length a/\leb 0 i=true/\A0X (Int.toNat i) (length a)=true/\Cont.size
 (Cont.ints u8 a)=length a/\(length a-Int.toNat i=length (drop (Int.toNat i) a)/\Int.toNat i=length (take (Int.toNat i) a)/\0<length (drop (Int.toNat i) a)+length (take
 (Int.toNat i) a)/\length (drop (Int.toNat i) a)+length (take (Int.toNat i) a)<100000000000)/\([(8640,HO.blk (Blk.mk (Cont.ints u8 (drop (Int.toNat i) a++take (Int.toNat i) a)) 1 zz0
 none (some false) true false))]=[(8640,HO.blk (Blk.mk (Cont.ints u8 (drop (Int.toNat i) a++take (Int.toNat i) a)) 1 zz0 none (some false) true false))]/\length (drop (Int.toNat i) a++
 take (Int.toNat i) a)=length (drop (Int.toNat i) a++take (Int.toNat i) a))/\qx zz0 (Cont.ints u8 (drop (Int.toNat i) a++take (Int.toNat i) a)=Cont.ints u8 (rotL' a (Int.toNat i))/\
 length (drop (Int.toNat i) a++take (Int.toNat i) a)=length (rotL' a (Int.toNat i))/\length (drop (Int.toNat i) a++take (Int.toNat i) a)=length (rotL' a (Int.toNat i))/\True))
 (length (drop (Int.toNat i) a++take (Int.toNat i) a))):=by kernel_rfl
theorem C0E (a k:List Int)(i:Int):fnP (WB) G 10000 C5J (.r [] 0 (.r [] 1 (.r [] 0 (.cnd (.r [] 1 .nil) (.rs 3 [] 0 15 (.r [] 3 (.lit (.r [] 1 .nil))) (.r [] 7 (.cnd (.r [] 1 .nil) (.r [] 21 .nil)))))))) ([A3T a k,.int .i64 i]) ([.agg [A7F .i64 (bLt (tOk a i) (rotL' a i.toNat)),A7F .u8 (bLt (tOk a i) (rotL' k i.toNat))],.int .i64 (bI (tOk a i) 0 1)]) ([])=(
 (length a=length a/\length k=length k/\length a<1000000000000)/\((chk a k !=0)=true->Cont.size (Cont.ints i64 (bLt (tOk a i) (rotL' a (Int.toNat i))))=0/\length (bLt (tOk a i) (rotL' a
 (Int.toNat i)))=0/\length (bLt (tOk a i) (rotL' a (Int.toNat i)))=0/\Cont.size (Cont.ints u8 (bLt (tOk a i) (rotL' k (Int.toNat i))))=0/\length (bLt (tOk a i) (rotL' k (Int.toNat i)))=0/\
 length (bLt (tOk a i) (rotL' k (Int.toNat i)))=0/\chk a k=bI (tOk a i) 0 1/\True)/\((chk a k !=0)=false->(ltb i 0=true->Cont.size (Cont.ints i64 (bLt (tOk a i) (rotL' a (Int.toNat i))))
 =0/\length (bLt (tOk a i) (rotL' a (Int.toNat i)))=0/\length (bLt (tOk a i) (rotL' a (Int.toNat i)))=0/\Cont.size (Cont.ints u8 (bLt (tOk a i) (rotL' k (Int.toNat i))))=0/\length (bLt (tOk
 a i) (rotL' k (Int.toNat i)))=0/\length (bLt (tOk a i) (rotL' k (Int.toNat i)))=0/\1=bI (tOk a i) 0 1/\True)/\(ltb i 0=false->(leb (if 1>(↑(length a):Int)then 1 else(↑(length a):
 Int)) i=true->Cont.size (Cont.ints i64 (bLt (tOk a i) (rotL' a (Int.toNat i))))=0/\length (bLt (tOk a i) (rotL' a (Int.toNat i)))=0/\length (bLt (tOk a i) (rotL' a (Int.toNat i)))=0/\
 Cont.size (Cont.ints u8 (bLt (tOk a i) (rotL' k (Int.toNat i))))=0/\length (bLt (tOk a i) (rotL' k (Int.toNat i)))=0/\length (bLt (tOk a i) (rotL' k (Int.toNat i)))=0/\1=bI (tOk a i) 0 1/\
 True)/\(leb (if 1>(↑(length a):Int)then 1 else(↑(length a):Int)) i=false->(length a=length a/\length a<100000000000/\0<=i/\i<=(↑(length a):Int))/\(length k=length k/\length
 k<100000000000/\0<=i/\i<=(↑(length k):Int))/\Cont.ints i64 (rotL' a (Int.toNat i))=Cont.ints i64 (bLt (tOk a i) (rotL' a (Int.toNat i)))/\length (rotL' a (Int.toNat i))=length (bLt (tOk
 a i) (rotL' a (Int.toNat i)))/\length (rotL' a (Int.toNat i))=length (bLt (tOk a i) (rotL' a (Int.toNat i)))/\Cont.ints u8 (rotL' k (Int.toNat i))=Cont.ints u8 (bLt (tOk a i) (rotL' k (Int.toNat
 i)))/\length (rotL' k (Int.toNat i))=length (bLt (tOk a i) (rotL' k (Int.toNat i)))/\length (rotL' k (Int.toNat i))=length (bLt (tOk a i) (rotL' k (Int.toNat i)))/\0=bI (tOk a i) 0 1/\
 True)))):=by kernel_rfl
theorem C4l (a k:List Int):fnP (T0) G 10000 C6j (.r [] 0 (.r [] 0 (.frz 2 0 .nil))) ([A3T a k]) ([.fn 108 [] [.iptr (B1w a k)]]) ([])=(
 Cont.vals [AV.imm (Cont.ints i64 a) (length a) none,AV.imm (Cont.ints u8 k) (length k) none]=Cont.vals [AV.imm (Cont.ints i64 a) (length a) none,AV.imm (Cont.ints u8 k) (length k) none]/\True):=by kernel_rfl
theorem C4m (a k b j:List Int):fnP (T0) G 10000 C57 (.r [] 0 (.r [] 0 (.lp (m29 a b k j) [] [] (fun b_1=>(.r [] 1 (.cnd (.r [] 33 (.cnd (.r [] 33 .nil) (.r [] 0 .nil))) (.r [] 0 (.lp (n29 a b k j) [] [] (fun b_2=>(.r [] 1 (.cnd (.r [] 33 (.cnd (.r [] 33 .nil) (.r [] 0 .nil))) (.r [] 0 .nil)))))))))))) ([A3T a k,A3T b j]) ([.bool (B3Q a k b j)]) ([])=(
 1=1/\qs i64 a (qs u8 k (1=1/\qs i64 b (qs u8 j (0=0/\0=0/\iI 0=0/\(∃(n:Nat),0=(↑n:Int)/\n<=length a/\A1d (drop n a++k) (drop n b++j)=A1d (a++k) (b++j))
 /\∀(b_1:L26),(fun(zz0:Bool)=>(∃(n:Nat),b_1.i=(↑n:Int)/\n<=length a/\A1d (drop n a++k) (drop n b++j)=A1d (a++k) (b++j))->(ltb b_1.i (↑(length a):Int)=true
 ->rd i64 a b_1.i (rd i64 b b_1.i ((zz0=true->rd i64 a b_1.i (rd i64 b b_1.i (ltb (getD (drop (Int.toNat b_1.i) a) 0 0) (getD (drop (Int.toNat b_1.i) b) 0 0)=B3Q a k b j/\True)))/\
 (zz0=false->inR i64 (b_1.i+1)=true/\1=1/\qs i64 a (qs u8 k (1=1/\qs i64 b (qs u8 j (0=0/\0=0/\qx (b_1.i+1) ((∃(n:Nat),b_1.i+1=(↑n:Int)/\n<=length a/\A1d
 (drop n a++k) (drop n b++j)=A1d (a++k) (b++j))/\length a-Int.toNat (b_1.i+1)<length a-Int.toNat b_1.i/\True)))))))))/\(ltb b_1.i (↑(length a):Int)=false->1=1/\
 qs i64 a (qs u8 k (1=1/\qs i64 b (qs u8 j (0=0/\0=0/\qx (ltb b_1.i (↑(length a):Int)) (iI 0=0/\(∃(n:Nat),0=(↑n:Int)/\n<=length k/\A1d (drop n k) (drop n j)=A1d
 (a++k) (b++j))/\∀(b_2:L26),(fun(zz1:Bool)=>(∃(n:Nat),b_2.i=(↑n:Int)/\n<=length k/\A1d (drop n k) (drop n j)=A1d (a++k) (b++j))->(ltb b_2.i (↑(length k):
 Int)=true->rd u8 k b_2.i (rd u8 j b_2.i ((zz1=true->rd u8 k b_2.i (rd u8 j b_2.i (ltb (getD (drop (Int.toNat b_2.i) k) 0 0) (getD (drop (Int.toNat b_2.i) j) 0 0)=B3Q a k b j/\
 True)))/\(zz1=false->inR i64 (b_2.i+1)=true/\1=1/\qs i64 a (qs u8 k (1=1/\qs i64 b (qs u8 j (0=0/\0=0/\qx (ltb b_1.i (↑(length a):Int)) (qx (b_2.i+1) ((∃(n:Nat),
 b_2.i+1=(↑n:Int)/\n<=length k/\A1d (drop n k) (drop n j)=A1d (a++k) (b++j))/\length k-Int.toNat (b_2.i+1)<length k-Int.toNat b_2.i/\True))))))))))/\(ltb b_2.i
 (↑(length k):Int)=false->false=B3Q a k b j/\True)) (getD (drop (Int.toNat b_2.i) k) 0 0 !=getD (drop (Int.toNat b_2.i) j) 0 0)))))))) (getD (drop (Int.toNat b_1.i) a) 0 0 !=getD
 (drop (Int.toNat b_1.i) b) 0 0)))))):=by kernel_rfl
end Go.Proofs.YtfafinkgmhkdmaaGreatDoor.X
