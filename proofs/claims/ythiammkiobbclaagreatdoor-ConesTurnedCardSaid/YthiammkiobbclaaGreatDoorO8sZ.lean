/-
 What is to be shown of the functions (made by a program).
-/
import Derived.Test.YthiammkiobbclaaGreatDoorD8Z
import Derived.KernelRfl
set_option maxRecDepth 1000000
set_option linter.unusedVariables false
namespace Go.Proofs.YthiammkiobbclaaGreatDoor.X
open Go Go.Ab
open List IntKind

theorem ob_o104 (x:Int):fnP (T0) Gs 10000 fe104 (.r [] 0 (.r [] 0 .nil)) ([.int .i64 x]) ([.bool false]) ([])=(
 (x !=x)=false∧True):=by kernel_rfl

theorem ob_o85c (x y:Int):fnP (TS1) Gs 10000 fe85 (.r [] 0 (.r [] 1 (.r [] 1 (.r [] 0 (.lit (.r [] 0 (.lit (.r [] 0 (.cnd (.r [] 0 .nil) (.r [] 0 (.cnd (.r [] 0 .nil) (.r [] 0 .nil)))))))))))) ([.int .i64 x,.int .i64 y]) ([.int .i64 (cmI x y)]) ([])=(
 (ltb x y=true→ -1=cmI x y∧True)∧(ltb x y=false→(ltb y x=true→1=cmI x y∧True)∧(ltb y x=false→0=cmI x y∧True))):=by kernel_rfl

theorem ob_o62c (a b:List Int):fnP (TS2) Gs 10000 fe62 (.r [] 0 (.r [] 0 (.lp (l62 a b) [] [] (fun b_1=>(.r [] 0 (.cnd (.r [] 0 (.r [] 0 (.cnd (.r [] 0 .nil) (.r [] 0 (.r [] 1 (.r [] 0 (.cnd (.r [] 0 .nil) (.r [] 0 .nil)))))))) (.r [] 0 (.cnd (.r [] 0 .nil) (.r [] 0 .nil))))))))) ([immN .i64 a,immN .i64 b]) ([.int .i64 (cmpL a b)]) ([])=(
 Cont.ints i64 a=Cont.ints i64 a∧length a=length a∧Cont.ints i64 b=Cont.ints i64 b∧length b=length b∧Cont.ints i64 a=Cont.ints i64 a∧length a=length a∧(↑(length a):
 Int)=(↑(length a):Int)∧iI 0=0∧(∃(m:Nat),0=(↑m:Int)∧m≤length a∧m≤length b∧cmpL (drop m a) (drop m b)=cmpL a b)∧∀(b_1:L83),(fun(zz0:Nat)=>(fun(zz1:
 Bool)=>(∃(m:Nat),b_1.i=(↑m:Int)∧m≤length a∧m≤length b∧cmpL (drop m a) (drop m b)=cmpL a b)→(ltb b_1.i (↑(length a):Int)=true→leb 0 b_1.i=true∧ltb b_1.i
 (↑(length a):Int)=true∧ltn 0 (Cont.size (Cont.ints i64 a))=true∧ltn 0 (Cont.size (Cont.ints i64 (drop zz0 a)))=true∧(leb (↑(length b):Int) b_1.i=true→1=cmpL a b∧True)
 ∧(leb (↑(length b):Int) b_1.i=false→leb 0 b_1.i=true∧ltb b_1.i (↑(length b):Int)=true∧ltn 0 (Cont.size (Cont.ints i64 b))=true∧ltn 0 (Cont.size (Cont.ints i64 (drop zz0
 b)))=true∧(zz1=true→cmI (getD (drop zz0 a) 0 0) (getD (drop zz0 b) 0 0)=cmpL a b∧True)∧(zz1=false→inR i64 (b_1.i+1)=true∧Cont.ints i64 a=Cont.ints i64 a∧length a
 =length a∧Cont.ints i64 b=Cont.ints i64 b∧length b=length b∧Cont.ints i64 a=Cont.ints i64 a∧length a=length a∧(↑(length a):Int)=(↑(length a):Int)∧b_1.i+1=b_1.i
 +1∧(∃(m:Nat),b_1.i+1=(↑m:Int)∧m≤length a∧m≤length b∧cmpL (drop m a) (drop m b)=cmpL a b)∧length a-Int.toNat (b_1.i+1)<length a-Int.toNat b_1.i∧True)))∧
 (ltb b_1.i (↑(length a):Int)=false→(ltb (↑(length a):Int) (↑(length b):Int)=true→ -1=cmpL a b∧True)∧(ltb (↑(length a):Int) (↑(length b):Int)=false→0=cmpL a b∧
 True))) (cmI (getD (drop zz0 a) 0 0) (getD (drop zz0 b) 0 0) !=0)) (Int.toNat b_1.i)):=by kernel_rfl

end Go.Proofs.YthiammkiobbclaaGreatDoor.X
