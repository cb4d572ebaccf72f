/-
 What is to be shown of the functions (made by a program).
-/
import Derived.Test.YthiammkiobbclaaD11Z
import Derived.KernelRfl
import Derived.Test.YthiammkiobbclaaD7Z
import Derived.Test.YthiammkiobbclaaDZ

set_option maxRecDepth 1000000
set_option linter.unusedVariables false
namespace Go.Proofs.Ythiammkiobbclaa.X
open Go Go.Ab
open List IntKind

theorem ob_o41n:fnP (T0) G 10000 fe29 (.r [] 0 (.r [] 0 (.lit (.r [] 0 .nil)))) ([.nils]) ([.nils]) ([])=(
 True):=by kernel_rfl

end Go.Proofs.Ythiammkiobbclaa.X

/-
 What is to be shown of the functions (made by a program).
-/
set_option maxRecDepth 1000000
set_option linter.unusedVariables false
namespace Go.Proofs.Ythiammkiobbclaa.X
open Go Go.Ab

end Go.Proofs.Ythiammkiobbclaa.X
/-
 What is to be shown of the functions (made by a program).
-/
set_option maxRecDepth 1000000
set_option linter.unusedVariables false
namespace Go.Proofs.Ythiammkiobbclaa.X
open Go Go.Ab
open List IntKind

theorem ob_o104 (x:Int):fnP (T0) Gs 10000 fe69 (.r [] 0 (.r [] 0 .nil)) ([.int .i64 x]) ([.bool false]) ([])=(
 (x !=x)=false∧True):=by kernel_rfl

theorem ob_o85c (x y:Int):fnP (TS1) Gs 10000 fe49 (.r [] 0 (.r [] 1 (.r [] 1 (.r [] 0 (.lit (.r [] 0 (.lit (.r [] 0 (.cnd (.r [] 0 .nil) (.r [] 0 (.cnd (.r [] 0 .nil) (.r [] 0 .nil)))))))))))) ([.int .i64 x,.int .i64 y]) ([.int .i64 (cmI x y)]) ([])=(
 (ltb x y=true→ -1=cmI x y∧True)∧(ltb x y=false→(ltb y x=true→1=cmI x y∧True)∧(ltb y x=false→0=cmI x y∧True))):=by kernel_rfl

theorem ob_o62c (a b:List Int):fnP (TS2) Gs 10000 fe32 (.r [] 0 (.r [] 0 (.lp (l62 a b) [] [] (fun b_1=>(.r [] 0 (.cnd (.r [] 0 (.r [] 0 (.cnd (.r [] 0 .nil) (.r [] 0 (.r [] 1 (.r [] 0 (.cnd (.r [] 0 .nil) (.r [] 0 .nil)))))))) (.r [] 0 (.cnd (.r [] 0 .nil) (.r [] 0 .nil))))))))) ([immN .i64 a,immN .i64 b]) ([.int .i64 (cmpL a b)]) ([])=(
 qs i64 a (qs i64 b (qs i64 a (ql a (iI 0=0∧(∃(m:Nat),0=(↑m:Int)∧m≤length a∧m≤length b∧cmpL (drop m a) (drop m b)=cmpL a b)∧∀(b_1:L83),(fun(zz0:Bool)=>(∃(m
 :Nat),b_1.i=(↑m:Int)∧m≤length a∧m≤length b∧cmpL (drop m a) (drop m b)=cmpL a b)→(ltb b_1.i (↑(length a):Int)=true→rd i64 a b_1.i ((leb (↑(length b):Int) b_1.i=
 true→1=cmpL a b∧True)∧(leb (↑(length b):Int) b_1.i=false→rd i64 b b_1.i ((zz0=true→cmI (getD (drop (Int.toNat b_1.i) a) 0 0) (getD (drop (Int.toNat b_1.i) b) 0 0)=cmpL a
 b∧True)∧(zz0=false→inR i64 (b_1.i+1)=true∧qs i64 a (qs i64 b (qs i64 a (ql a (qx (b_1.i+1) ((∃(m:Nat),b_1.i+1=(↑m:Int)∧m≤length a∧m≤length b∧cmpL (drop m
 a) (drop m b)=cmpL a b)∧length a-Int.toNat (b_1.i+1)<length a-Int.toNat b_1.i∧True))))))))))∧(ltb b_1.i (↑(length a):Int)=false→(ltb (↑(length a):Int) (↑(length b):
 Int)=true→ -1=cmpL a b∧True)∧(ltb (↑(length a):Int) (↑(length b):Int)=false→0=cmpL a b∧True))) (cmI (getD (drop (Int.toNat b_1.i) a) 0 0) (getD (drop (Int.toNat b_1.i)
 b) 0 0) !=0)))))):=by kernel_rfl

end Go.Proofs.Ythiammkiobbclaa.X
/-
 Cones: Contains, on the heap.
-/
set_option maxRecDepth 1000000
set_option linter.unusedVariables false
namespace Go.Proofs.Ythiammkiobbclaa.X
open Go Go.Ab

end Go.Proofs.Ythiammkiobbclaa.X
/-
 What is to be shown of the functions (made by a program).
-/
set_option maxRecDepth 1000000
set_option linter.unusedVariables false
namespace Go.Proofs.Ythiammkiobbclaa.X
open Go Go.Ab

end Go.Proofs.Ythiammkiobbclaa.X
/-
 What is to be shown of the functions (made by a program).
-/
set_option maxRecDepth 1000000
set_option linter.unusedVariables false
namespace Go.Proofs.Ythiammkiobbclaa.X
open Go Go.Ab

end Go.Proofs.Ythiammkiobbclaa.X
/-
 What is to be shown of the functions (made by a program).
-/
set_option maxRecDepth 1000000
set_option linter.unusedVariables false
namespace Go.Proofs.Ythiammkiobbclaa.X
open Go Go.Ab

end Go.Proofs.Ythiammkiobbclaa.X
/-
 What is to be shown of the functions (made by a program).
-/
set_option maxRecDepth 1000000
set_option linter.unusedVariables false
namespace Go.Proofs.Ythiammkiobbclaa.X
open Go Go.Ab
open List IntKind

theorem ob_o64 (k:List Int)(x:Int):fnP (T0) G 10000 fe87 (.r [] 0 (.r [] 0 (.lp (l83 k x) [] [] (fun b=>(.r [] 0 (.cnd (.r [] 0 (.r [] 0 (.cnd (.r [] 0 .nil) (.r [] 0 .nil)))) (.r [] 0 .nil))))))) ([.imm (.ints .i64 k) k.length none,.int .i64 x]) ([.int .i64 (idxL x k 0)]) ([])=(
 qs i64 k (x=x∧ql k (iI 0=0∧(∃(n:Nat),0=(↑n:Int)∧n≤length k∧idxL x (drop n k) (↑n:Int)=idxL x k 0)∧∀(b:L83),(∃(n:Nat),b.i=(↑n:Int)∧n≤length k∧
 idxL x (drop n k) (↑n:Int)=idxL x k 0)→(ltb b.i (↑(length k):Int)=true→rd i64 k b.i (((x==getD (drop (Int.toNat b.i) k) 0 0)=true→b.i=idxL x k 0∧True)∧((x==getD
 (drop (Int.toNat b.i) k) 0 0)=false→inR i64 (b.i+1)=true∧qs i64 k (x=x∧ql k (b.i+1=b.i+1∧(∃(n:Nat),b.i+1=(↑n:Int)∧n≤length k∧idxL x (drop n k) (↑n:
 Int)=idxL x k 0)∧length k-Int.toNat (b.i+1)<length k-Int.toNat b.i∧True)))))∧(ltb b.i (↑(length k):Int)=false→ -1=idxL x k 0∧True)))):=by kernel_rfl

theorem ob_o41 (a:List Int)(n:Nat):fnP (T0) G 10000 fe21 (.r [] 0 (.r [] 5 .nil)) ([.imm (.ints .i64 a) n none]) ([.imm (.ints .i64 a) n (some n)]) ([])=(
 Int.toNat (↑n:Int)=n∧Int.toNat (↑n:Int)=n∧Cont.size (Cont.ints i64 a)=n∧Cont.ints i64 a=Cont.ints i64 a∧n=n∧n=n∧True):=by kernel_rfl

theorem ob_o61 (a:List Int)(n:Nat):fnP (T0) G 10000 fe14 (.r [] 0 (.r [] 5 .nil)) ([.imm (.ints .u8 a) n none]) ([.imm (.ints .u8 a) n (some n)]) ([])=(
 Int.toNat (↑n:Int)=n∧Int.toNat (↑n:Int)=n∧Cont.size (Cont.ints u8 a)=n∧Cont.ints u8 a=Cont.ints u8 a∧n=n∧n=n∧True):=by kernel_rfl

theorem ob_o39 (k:List Int)(x:Int):fnP (TA) G 10000 fe73 (.r [] 0 (.r [] 0 .nil)) ([.imm (.ints .i64 k) k.length none,.int .i64 x]) ([.bool (memB k x)]) ([])=(
 (length k=length k∧length k<1000000000000)∧leb 0 (idxL x k 0)=memB k x∧True):=by kernel_rfl

end Go.Proofs.Ythiammkiobbclaa.X
/-
 Plain facts about fans and their sums.
-/
set_option linter.unusedVariables false
set_option linter.unusedSimpArgs false
namespace Go.Proofs.Ythiammkiobbclaa.X
open Go Go.Ab

theorem drop_step {l:List Int}{n:Nat}(h:n<l.length):l.drop n=l[n]?.getD 0::l.drop (n+1):=by
 rw[List.drop_eq_getElem_cons h];simp[h]
theorem drop_end {l:List Int}{n:Nat}(h:l.length≤n):l.drop n=[]:=List.drop_of_length_le h
theorem sum_nonneg:∀{l:List Int},(∀x∈l,1≤x)→0≤l.sum
 |[],_=>by simp
 |a::r,h=>by
  have h1:=h a (by simp)
  have h2:=sum_nonneg (l:=r) fun x hx=>h x (by simp[hx])
  rw[List.sum_cons];omega
/-! F.Of gives a valid fan. -/
structure FOk (n:Nat)(s:FS):Prop where
 no:s.last<0→s.last= -1∧s.first= -1∧s.a=[]∧s.k=[]
 yes:0≤s.last→0≤s.first∧s.first≤s.last∧s.last<n∧s.a.sum=s.last-s.first∧s.k.length=s.a.length+1
 pos:∀x∈s.a,1≤x
 kd:∀x∈s.k,1≤x∧x≤3
 len:s.k.length≤n
end Go.Proofs.Ythiammkiobbclaa.X
