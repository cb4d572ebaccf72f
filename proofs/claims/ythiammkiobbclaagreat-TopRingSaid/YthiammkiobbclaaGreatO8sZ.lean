/-
 What is to be shown of the functions (made by a program).
-/
import Derived.Test.YthiammkiobbclaaGreatD8Z
import Derived.KernelRfl
set_option maxRecDepth 1000000
set_option linter.unusedVariables false
namespace Go.Proofs.YthiammkiobbclaaGreat.X
open Go Go.Ab
open List IntKind

theorem ob_o104 (x:Int):fnP (T0) Gs 10000 fe85 (.r [] 0 (.r [] 0 .nil)) ([.int .i64 x]) ([.bool false]) ([])=(
 (x !=x)=false∧True):=by kernel_rfl

theorem ob_o85c (x y:Int):fnP (TS1) Gs 10000 fe58 (.r [] 0 (.r [] 1 (.r [] 1 (.r [] 0 (.lit (.r [] 0 (.lit (.r [] 0 (.cnd (.r [] 0 .nil) (.r [] 0 (.cnd (.r [] 0 .nil) (.r [] 0 .nil)))))))))))) ([.int .i64 x,.int .i64 y]) ([.int .i64 (cmI x y)]) ([])=(
 (ltb x y=true→ -1=cmI x y∧True)∧(ltb x y=false→(ltb y x=true→1=cmI x y∧True)∧(ltb y x=false→0=cmI x y∧True))):=by kernel_rfl

theorem ob_o62c (a b:List Int):fnP (TS2) Gs 10000 fe35 (.r [] 0 (.r [] 0 (.lp (l62 a b) [] [] (fun b_1=>(.r [] 0 (.cnd (.r [] 0 (.r [] 0 (.cnd (.r [] 0 .nil) (.r [] 0 (.r [] 1 (.r [] 0 (.cnd (.r [] 0 .nil) (.r [] 0 .nil)))))))) (.r [] 0 (.cnd (.r [] 0 .nil) (.r [] 0 .nil))))))))) ([immN .i64 a,immN .i64 b]) ([.int .i64 (cmpL a b)]) ([])=(
 qs i64 a (qs i64 b (qs i64 a (ql a (iI 0=0∧(∃(m:Nat),0=(↑m:Int)∧m≤length a∧m≤length b∧cmpL (drop m a) (drop m b)=cmpL a b)∧∀(b_1:L83),(fun(zz0:Bool)=>(∃(m
 :Nat),b_1.i=(↑m:Int)∧m≤length a∧m≤length b∧cmpL (drop m a) (drop m b)=cmpL a b)→(ltb b_1.i (↑(length a):Int)=true→rd i64 a b_1.i ((leb (↑(length b):Int) b_1.i=
 true→1=cmpL a b∧True)∧(leb (↑(length b):Int) b_1.i=false→rd i64 b b_1.i ((zz0=true→cmI (getD (drop (Int.toNat b_1.i) a) 0 0) (getD (drop (Int.toNat b_1.i) b) 0 0)=cmpL a
 b∧True)∧(zz0=false→inR i64 (b_1.i+1)=true∧qs i64 a (qs i64 b (qs i64 a (ql a (qx (b_1.i+1) ((∃(m:Nat),b_1.i+1=(↑m:Int)∧m≤length a∧m≤length b∧cmpL (drop m
 a) (drop m b)=cmpL a b)∧length a-Int.toNat (b_1.i+1)<length a-Int.toNat b_1.i∧True))))))))))∧(ltb b_1.i (↑(length a):Int)=false→(ltb (↑(length a):Int) (↑(length b):
 Int)=true→ -1=cmpL a b∧True)∧(ltb (↑(length a):Int) (↑(length b):Int)=false→0=cmpL a b∧True))) (cmI (getD (drop (Int.toNat b_1.i) a) 0 0) (getD (drop (Int.toNat b_1.i)
 b) 0 0) !=0)))))):=by kernel_rfl

end Go.Proofs.YthiammkiobbclaaGreat.X
