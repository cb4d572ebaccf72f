/-
 What is to be shown of the functions (made by a program).
-/
import Derived.Test.YtfafinkgmhkdmaaGreatDoorVD8Z
import Derived.KernelRfl
set_option maxRecDepth 1000000
set_option linter.unusedVariables false
namespace Go.Proofs.YtfafinkgmhkdmaaGreatDoor.X
open Go Go.Ab
open List IntKind

theorem ob_o26 (a k b j:List Int):fnP (T0) G 10000 fe10 (.r [] 0 (.r [yL 136,yL 145,yL 154] 126843 (.ff (.r [] 0 (.lp (l26 a b) [] [] (fun b_1=>(.r [] 1 (.cnd (.r [] 33 (.cnd (.r [] 0 .nil) (.r [] 0 .nil))) (.r [] 0 (.lp (m26 a b k j) [] [] (fun b_2=>(.r [] 1 (.cnd (.r [] 33 (.cnd (.r [] 0 .nil) (.r [] 0 .nil))) (.r [] 0 .nil)))))))))))))) ([.agg [immL .i64 a,immL .u8 k],fanV b j]) ([.bool (eqB a b&&eqB k j)]) ([])=(
 (!(↑(length a):Int) !=(↑(length b):Int))=true∧(!(↑(length k):Int) !=(↑(length j):Int))=true∧(!(↑(length a):Int) !=(↑(length a):Int))=true∧((↑(length k):Int) !=(↑(length
 k):Int))=false∧1=1∧Cont.ints i64 a=Cont.ints i64 a∧length a=length a∧length a=length a∧Cont.ints u8 k=Cont.ints u8 k∧length k=length k∧length k=length k∧1=1∧
 Cont.ints i64 b=Cont.ints i64 b∧length b=length b∧Cont.ints u8 j=Cont.ints u8 j∧length j=length j∧0=0∧0=0∧iI 0=0∧(∃(n:Nat),0=(↑n:Int)∧n≤length a∧eqB (drop n
 a) (drop n b)=eqB a b)∧∀(b_1:L26),(∃(n:Nat),b_1.i=(↑n:Int)∧n≤length a∧eqB (drop n a) (drop n b)=eqB a b)→(ltb b_1.i (↑(length a):Int)=true→leb 0 b_1.i=true∧ltb
 b_1.i (↑(length a):Int)=true∧ltn 0 (Cont.size (Cont.ints i64 a))=true∧ltn 0 (Cont.size (Cont.ints i64 (drop (Int.toNat b_1.i) a)))=true∧leb 0 b_1.i=true∧ltb b_1.i (↑(length b):Int)
 =true∧ltn 0 (Cont.size (Cont.ints i64 b))=true∧ltn 0 (Cont.size (Cont.ints i64 (drop (Int.toNat b_1.i) b)))=true∧((getD (drop (Int.toNat b_1.i) a) 0 0 !=getD (drop (Int.toNat b_1.i) b) 0
 0)=true→false=(eqB a b&&eqB k j)∧True)∧((getD (drop (Int.toNat b_1.i) a) 0 0 !=getD (drop (Int.toNat b_1.i) b) 0 0)=false→inR i64 (b_1.i+1)=true∧1=1∧Cont.ints i64 a=
 Cont.ints i64 a∧length a=length a∧length a=length a∧Cont.ints u8 k=Cont.ints u8 k∧length k=length k∧length k=length k∧1=1∧Cont.ints i64 b=Cont.ints i64 b∧length b=
 length b∧Cont.ints u8 j=Cont.ints u8 j∧length j=length j∧0=0∧0=0∧b_1.i+1=b_1.i+1∧(∃(n:Nat),b_1.i+1=(↑n:Int)∧n≤length a∧eqB (drop n a) (drop n b)=eqB a b)∧
 length a-Int.toNat (b_1.i+1)<length a-Int.toNat b_1.i∧True))∧(ltb b_1.i (↑(length a):Int)=false→1=1∧Cont.ints i64 a=Cont.ints i64 a∧length a=length a∧length a=length a
 ∧Cont.ints u8 k=Cont.ints u8 k∧length k=length k∧length k=length k∧1=1∧Cont.ints i64 b=Cont.ints i64 b∧length b=length b∧Cont.ints u8 j=Cont.ints u8 j∧length j=length j
 ∧0=0∧0=0∧ltb b_1.i (↑(length a):Int)=ltb b_1.i (↑(length a):Int)∧iI 0=0∧(∃(n:Nat),0=(↑n:Int)∧n≤length k∧eqB a b=true∧eqB (drop n k) (drop n j)=eqB k j)∧∀
 (b_2:L26),(∃(n:Nat),b_2.i=(↑n:Int)∧n≤length k∧eqB a b=true∧eqB (drop n k) (drop n j)=eqB k j)→(ltb b_2.i (↑(length k):Int)=true→leb 0 b_2.i=true∧ltb b_2.i (↑(length
 k):Int)=true∧ltn 0 (Cont.size (Cont.ints u8 k))=true∧ltn 0 (Cont.size (Cont.ints u8 (drop (Int.toNat b_2.i) k)))=true∧leb 0 b_2.i=true∧ltb b_2.i (↑(length j):Int)=true∧ltn 0
 (Cont.size (Cont.ints u8 j))=true∧ltn 0 (Cont.size (Cont.ints u8 (drop (Int.toNat b_2.i) j)))=true∧((getD (drop (Int.toNat b_2.i) k) 0 0 !=getD (drop (Int.toNat b_2.i) j) 0 0)=true→false
 =(eqB a b&&eqB k j)∧True)∧((getD (drop (Int.toNat b_2.i) k) 0 0 !=getD (drop (Int.toNat b_2.i) j) 0 0)=false→inR i64 (b_2.i+1)=true∧1=1∧Cont.ints i64 a=Cont.ints i64 a∧length
 a=length a∧length a=length a∧Cont.ints u8 k=Cont.ints u8 k∧length k=length k∧length k=length k∧1=1∧Cont.ints i64 b=Cont.ints i64 b∧length b=length b∧Cont.ints u8 j=
 Cont.ints u8 j∧length j=length j∧0=0∧0=0∧ltb b_1.i (↑(length a):Int)=ltb b_1.i (↑(length a):Int)∧b_2.i+1=b_2.i+1∧(∃(n:Nat),b_2.i+1=(↑n:Int)∧n≤length k∧eqB
 a b=true∧eqB (drop n k) (drop n j)=eqB k j)∧length k-Int.toNat (b_2.i+1)<length k-Int.toNat b_2.i∧True))∧(ltb b_2.i (↑(length k):Int)=false→true=(eqB a b&&eqB k j)∧
 True))):=by kernel_rfl

end Go.Proofs.YtfafinkgmhkdmaaGreatDoor.X
