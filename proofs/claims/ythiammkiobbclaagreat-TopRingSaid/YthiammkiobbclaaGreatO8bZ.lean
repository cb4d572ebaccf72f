/-
 What is to be shown of the functions (made by a program).
-/
import Derived.Test.YthiammkiobbclaaGreatD8bZ
import Derived.KernelRfl
set_option maxRecDepth 1000000
set_option linter.unusedVariables false
namespace Go.Proofs.YthiammkiobbclaaGreat.X
open Go Go.Ab
open List IntKind

theorem ob_d_90 (l:List Int)(q:Nat)(x:Int):fnD (T0) G 10000 (fe74) (.r [] 0 (.r [] 0 (.lp (l83 l x) [] [] (fun b=>(.r [] 0 (.cnd (.r [] 0 (.r [] 0 (.cnd (.r [] 0 .nil) (.r [] 0 .nil)))) (.r [] 0 .nil))))))) ([.full 194 l.length,.int .i64 x]) ([(194,.blk (bk60 l q))]) ([.int .i64 (idxL x l 0)]) ([])=(
 length l=length l∧length l=length l∧q=q∧l=l∧length l=length l∧x=x∧ql l (iI 0=0∧(∃(n:Nat),0=(↑n:Int)∧n≤length l∧idxL x (drop n l) (↑n:Int)=idxL x
 l 0)∧∀(b:L83),(∃(n:Nat),b.i=(↑n:Int)∧n≤length l∧idxL x (drop n l) (↑n:Int)=idxL x l 0)→(ltb b.i (↑(length l):Int)=true→leb 0 b.i=true∧ltb b.i (↑(length l)
 :Int)=true∧length l=length l∧length l=length l∧ltn (Int.toNat b.i) (Cont.size (Cont.ints i64 l))=true∧((x==getD l (Int.toNat b.i) 0)=true→length l=length l∧q=q∧
 l=l∧b.i=idxL x l 0∧True)∧((x==getD l (Int.toNat b.i) 0)=false→inR i64 (b.i+1)=true∧length l=length l∧q=q∧l=l∧length l=length l∧x=x∧ql l (b.i+1=
 b.i+1∧(∃(n:Nat),b.i+1=(↑n:Int)∧n≤length l∧idxL x (drop n l) (↑n:Int)=idxL x l 0)∧length l-Int.toNat (b.i+1)<length l-Int.toNat b.i∧True)))∧(ltb b.i
 (↑(length l):Int)=false→length l=length l∧q=q∧l=l∧ -1=idxL x l 0∧True))):=by kernel_rfl

theorem ob_d_72 (l:List Int)(q:Nat)(x:Int):fnD (T72 q) G 10000 (fe54) (.r [] 0 (.r [(130,.auto,Dr.heap)] 0 .nil)) ([.full 194 l.length,.int .i64 x]) ([(194,.blk (bk60 l q))]) ([.bool (memB l x)]) ([])=(
 ([(194,HO.blk (Blk.mk (Cont.ints i64 l) 1 (length l) (some q) (some false) true false))]=[(194,HO.blk (Blk.mk (Cont.ints i64 l) 1 (length l) (some q) (some false) true false))]∧length l=length
 l∧length l<1000000)∧length l=length l∧q=q∧l=l∧leb 0 (idxL x l 0)=memB l x∧True):=by kernel_rfl

end Go.Proofs.YthiammkiobbclaaGreat.X
