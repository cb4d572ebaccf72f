/-
 What is to be shown of the functions (made by a program).
-/
import Derived.Test.YthiammkiobbclaaGreatD7Z
import Derived.KernelRfl
set_option maxRecDepth 1000000
set_option linter.unusedVariables false
namespace Go.Proofs.YthiammkiobbclaaGreat.X
open Go Go.Ab
open List IntKind

theorem ob_oc79 (a k:List Int):fnP (T0) G 10000 fe20 (.r [] 0 (.r [] 1 (.lp (lc79 a) [] [] (fun b=>(.r [] 0 (.cnd (.r [] 0 (.r [] 1 (.cnd (.r [] 0 (.r [] 0 .nil)) (.r [] 0 (.r [] 0 .nil))))) (.r [] 0 .nil))))))) ([fanV a k]) ([.int .i64 (sumP true a),.int .i64 (sumP false a)]) ([])=(
 1=1∧qs i64 a (qs u8 k (iI 0=0∧iI 0=0∧qs i64 a (ql a (iI 0=0∧(∃(m:Nat),0=(↑m:Int)∧m≤length a∧0=sumP true (take m a)∧0=sumP false (take m a))∧∀(b:L79),
 (fun(zz0:List Int)=>(∃(m:Nat),b.i=(↑m:Int)∧m≤length a∧b.e=sumP true (take m a)∧b.o=sumP false (take m a))→(ltb b.i (↑(length a):Int)=true→rd i64 a b.i
 (((Int.tmod b.i 2==0)=true→inR i64 (b.e+getD zz0 0 0)=true∧inR i64 (b.i+1)=true∧1=1∧qs i64 a (qs u8 k (qx (b.e+getD zz0 0 0) (b.o=b.o∧qs i64 a (ql a (b.i+1=
 b.i+1∧(∃(m:Nat),b.i+1=(↑m:Int)∧m≤length a∧b.e+getD zz0 0 0=sumP true (take m a)∧b.o=sumP false (take m a))∧length a-Int.toNat (b.i+1)<length a-Int.toNat
 b.i∧True))))))∧((Int.tmod b.i 2==0)=false→inR i64 (b.o+getD zz0 0 0)=true∧inR i64 (b.i+1)=true∧1=1∧qs i64 a (qs u8 k (b.e=b.e∧qx (b.o+getD zz0 0 0) (qs i64 a
 (ql a (b.i+1=b.i+1∧(∃(m:Nat),b.i+1=(↑m:Int)∧m≤length a∧b.e=sumP true (take m a)∧b.o+getD zz0 0 0=sumP false (take m a))∧length a-Int.toNat (b.i+1)<
 length a-Int.toNat b.i∧True))))))))∧(ltb b.i (↑(length a):Int)=false→b.e=sumP true a∧b.o=sumP false a∧True)) (drop (Int.toNat b.i) a)))))):=by kernel_rfl

theorem ob_oc56 (a k:List Int):fnP (T0) G 10000 fe12 (.r [] 0 (.r [] 3 .nil)) ([fanV a k]) ([.bool ((a.length:Int).tmod 2==1)]) ([])=(
 (Int.tmod (↑(length a):Int) 2==1)=(Int.tmod (↑(length a):Int) 2==1)∧True):=by kernel_rfl

theorem ob_oc57 (a k:List Int):fnP (TB1c) G 10000 fe13 (.r [] 0 (.r [] 13 (.r [] 0 .nil))) ([fanV a k]) ([.bool (sumP true a !=sumP false a)]) ([])=(
 (length a=length a∧length k=length k∧chk a k=0)∧(sumP true a !=sumP false a)=(sumP true a !=sumP false a)∧True):=by kernel_rfl

theorem ob_oc34 (a k:List Int):fnP (TB2) G 10000 fe5 (.r [] 0 (.r [] 1 (.r [] 0 (.cnd (.r [] 0 .nil) (.rs 4 [] 1 13 (.r [] 13 .nil) (.r [] 3 .nil)))))) ([fanV a k]) ([.bool (altS a k),.int .i64 (chk a k)]) ([])=(
 (length a=length a∧length k=length k∧length a<1000000000000)∧((chk a k !=0)=true→false=altS a k∧chk a k=chk a k∧True)∧((chk a k !=0)=false→(length a=length a∧length
 k=length k)∧((!Int.tmod (↑(length a):Int) 2==1)=true→(length a=length a∧length k=length k∧chk a k=0)∧(!sumP true a !=sumP false a)=altS a k∧0=chk a k∧True)∧
 ((!Int.tmod (↑(length a):Int) 2==1)=false→false=altS a k∧0=chk a k∧True))):=by kernel_rfl

theorem ob_oc37 (a k:List Int):fnP (TB3) G 10000 fe16 (.r [] 0 (.r [] 13 (.br (chk a k==0) (.r [] 0 (.ff (.br (altS a k) (.r [] 0 (.ff (.r [] 3 (.r [] 1 (.lp (lc37 a [AV.imm (Cont.ints i64 a) (length a) none,AV.imm (Cont.ints u8 k) (length k) none]) [] [] (fun b=>(.r [] 0 (.cnd (.r [] 0 (.r [] 49283 (.r [] 0 .nil))) (.frz 6 0 (.r [] 3 .nil)))))))))) (.r [] 0 (.tt (.r [] 1 .nil)))))) (.r [] 0 (.tt (.r [] 1 .nil)))))) ([fanV a k]) ([conX a k,.int .i64 (ofE a k)]) ([])=(
 (length a=length a∧length k=length k∧length a<1000000)∧((chk a k==0)=true→(chk a k !=0)=false∧(altS a k=true→(!altS a k)=false∧1=1∧qs i64 a (qs u8 k (1=1
 ∧1=1∧iL [0]=[0]∧1=1∧qs i64 a (qs u8 k (1=1∧0=0∧0=0∧qs i64 a (ql a (iI 0=0∧(∃(m:Nat),0=(↑m:Int)∧m≤length a∧[0]=take (m+1) (raysL a))∧∀(b:
 L37),(fun(zz0:List Int)=>(∃(m:Nat),b.i=(↑m:Int)∧m≤length a∧b.r=take (m+1) (raysL a))→(ltb b.i (↑(length a):Int)=true→rd i64 a b.i (leb 0 b.i=true∧ltb b.i
 (↑(length b.r):Int)=true∧qx (length b.r) (qx (length b.r) (ltn (Int.toNat b.i) (Cont.size (Cont.ints i64 b.r))=true∧inR i64 (2*Int.tmod b.i 2)=true∧inR i64 (1-2*Int.tmod
 b.i 2)=true∧inR i64 (getD zz0 0 0*(1-2*Int.tmod b.i 2))=true∧inR i64 (getD b.r (Int.toNat b.i) 0+getD zz0 0 0*(1-2*Int.tmod b.i 2))=true∧qx (length b.r) (len'
 ((length b.r+1)*8) 140737488355328=true∧inR i64 (b.i+1)=true∧1=1∧qs i64 a (qs u8 k (1=1∧length b.r+1=length (b.r++[getD b.r (Int.toNat b.i) 0+getD zz0 0 0*(1
 -2*Int.tmod b.i 2)])∧b.r++[getD b.r (Int.toNat b.i) 0+getD zz0 0 0*(1-2*Int.tmod b.i 2)]=b.r++[getD b.r (Int.toNat b.i) 0+getD zz0 0 0*(1-2*Int.tmod b.i 2)]∧1=
 1∧qs i64 a (qs u8 k (length b.r+1=length (b.r++[getD b.r (Int.toNat b.i) 0+getD zz0 0 0*(1-2*Int.tmod b.i 2)])∧0=0∧0=0∧qs i64 a (ql a (b.i+1=b.i+1∧(∃(m:
 Nat),b.i+1=(↑m:Int)∧m≤length a∧b.r++[getD b.r (Int.toNat b.i) 0+getD zz0 0 0*(1-2*Int.tmod b.i 2)]=take (m+1) (raysL a))∧length a-Int.toNat (b.i+1)<length
 a-Int.toNat b.i∧True)))))))))))∧(ltb b.i (↑(length a):Int)=false→qx (length b.r) (Cont.ints i64 a=Cont.ints i64 (bLs (altS a k) a)∧length a=length (bLs (altS a k) a)∧
 Cont.ints u8 k=Cont.ints u8 (bLs (altS a k) k)∧length k=length (bLs (altS a k) k)∧Cont.ints i64 b.r=Cont.ints i64 (bLs (altS a k) (raysL a))∧length b.r=length (bLs (altS a k)
 (raysL a))∧0=ofE a k∧True))) (drop (Int.toNat b.i) a))))))))∧(altS a k=false→(!altS a k)=true∧Cont.size (Cont.ints i64 (bLs (altS a k) a))=0∧length (bLs (altS a k) a)=0
 ∧Cont.size (Cont.ints u8 (bLs (altS a k) k))=0∧length (bLs (altS a k) k)=0∧Cont.size (Cont.ints i64 (bLs (altS a k) (raysL a)))=0∧length (bLs (altS a k) (raysL a))=0∧14=
 ofE a k∧True))∧((chk a k==0)=false→(chk a k !=0)=true∧Cont.size (Cont.ints i64 (bLs (altS a k) a))=0∧length (bLs (altS a k) a)=0∧Cont.size (Cont.ints u8 (bLs (altS a
 k) k))=0∧length (bLs (altS a k) k)=0∧Cont.size (Cont.ints i64 (bLs (altS a k) (raysL a)))=0∧length (bLs (altS a k) (raysL a))=0∧chk a k=ofE a k∧True)):=by kernel_rfl

end Go.Proofs.YthiammkiobbclaaGreat.X
