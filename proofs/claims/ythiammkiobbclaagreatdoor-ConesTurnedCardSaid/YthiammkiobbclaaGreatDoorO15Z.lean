/-
 What is to be shown of the functions (made by a program).
-/
import Derived.Test.YthiammkiobbclaaGreatDoorD15Z
import Derived.KernelRfl
set_option maxRecDepth 1000000
set_option linter.unusedVariables false
namespace Go.Proofs.YthiammkiobbclaaGreatDoor.X
open Go Go.Ab
open List IntKind

theorem ob_o5p (c l:Int)(ks:List Int)(y:Int):fnP (T5) G 10000 fe5 (.r [] 0 (.r [] 5 (.r [] 1 (.cnd (.r [] 1 .nil) (.r [] 1797 (.r [] 49 (.r [] 49 (.r [] 97 (.r [] 97 (.r [yL 647,yL 651,yL 655,yL 659,yL 664,yL 669,yL 674] 15578843 .nil)))))))))) ([fV c l ks,.int .u8 y]) ([.bool true]) ([])=(
 (fun(A K:List Int)=>(fun(zz1:Int)=>(fun(zz0:Nat)=>(length ks=length ks∧okK ks)∧length A=length A∧(ltb 6 (↑(length A):Int)=true→true=true∧True)∧(ltb 6
 (↑(length A):Int)=false→inR i64 y=true∧length A=length A∧(!zz1==0)=true∧length A=length A∧length K=length K∧(length A=length A∧length K=length K∧length A
 <100000000000∧chk A K=0∧0≤Int.tmod y zz1∧Int.tmod y zz1<(↑(length A):Int))∧length A=length A∧length K=length K∧(length A=length A∧length K=length K∧length A
 <1000000)∧length (rotL' A zz0)=length (rotL' A zz0)∧length (rotL' K zz0)=length (rotL' K zz0)∧(length (rotL' A zz0)=length (rotL' A zz0)∧length (rotL' K zz0)=length (rotL' K
 zz0)∧length (rotL' A zz0)<1000000)∧length A=length A∧length K=length K∧(length A=length A∧length K=length K∧length A<100000000000∧length K<100000000000)∧(length
 (reverse A)=length (reverse A)∧length (mirK' K)=length (mirK' K)∧length (reverse A)<1000000)∧length A=length A∧length K=length K∧(length A=length A∧length K=length
 K∧length A<100000000000∧length K<100000000000)∧(length (reverse A)=length (reverse A)∧length (ovK' (mirK' K))=length (ovK' (mirK' K))∧length (reverse A)<1000000)∧(cntE
 A K==0)=true∧(cntE (rotL' A zz0) (rotL' K zz0)==0)=true∧(cntE (reverse A) (mirK' K)==0)=true∧(cntE (reverse A) (ovK' (mirK' K))==0)=true∧((↑(length (cwL A K)):Int)
 ==(↑(length (cwL (rotL' A zz0) (rotL' K zz0))):Int))=true∧((↑(length (cwL A K)):Int)==(↑(length (cwL (reverse A) (mirK' K))):Int))=true∧((↑(length (cwL A K)):Int)==
 (↑(length (cwL (reverse A) (ovK' (mirK' K)))):Int))=true∧true=true∧True)) (Int.toNat (Int.tmod y zz1))) (if 1>(↑(length A):Int)then 1 else(↑(length A):Int))) (ofA c l ks)
 (ofK c ks)):=by kernel_rfl

theorem ob_o5z (c l:Int)(ks:List Int)(y:Int):fnP (T5z) G 10000 fe5 (.r [] 0 (.r [] 5 (.r [] 1 (.cnd (.r [] 1 .nil) (.r [] 1797 (.r [] 49 (.r [] 55 (.r [] 97 (.r [] 97 (.r [yL 647,yL 655,yL 659,yL 664,yL 669,yL 674] 7789435 .nil)))))))))) ([fV c l ks,.int .u8 y]) ([.bool true]) ([])=((fun(A K:List Int)=>
 (length ks=length ks∧okK ks)∧length A=length A∧(ltb 6 (↑(length A):Int)=true→true=true∧True)∧(ltb 6 (↑(length A):Int)=false→inR i64 y=true∧length A=length A∧(!(if 1
 >(↑(length A):Int)then 1 else(↑(length A):Int))==0)=true∧length A=length A∧length K=length K∧(length A=0∧length K=0∧ofA c l ks=[]∧ofK c ks=[]∧Int.tmod y (if 1>
 (↑(length A):Int)then 1 else(↑(length A):Int))=0)∧length A=length A∧length K=length K∧(length A=length A∧length K=length K∧length A<1000000)∧(0=0∧0=0∧0<1000000)
 ∧length A=length A∧length K=length K∧(length A=length A∧length K=length K∧length A<100000000000∧length K<100000000000)∧(length (reverse A)=length (reverse A)∧length (mirK'
 K)=length (mirK' K)∧length (reverse A)<1000000)∧length A=length A∧length K=length K∧(length A=length A∧length K=length K∧length A<100000000000∧length K<100000000000)∧
 (length (reverse A)=length (reverse A)∧length (ovK' (mirK' K))=length (ovK' (mirK' K))∧length (reverse A)<1000000)∧(cntE A K==0)=true∧(cntE (reverse A) (mirK' K)==0)=true∧(cntE
 (reverse A) (ovK' (mirK' K))==0)=true∧((↑(length (cwL A K)):Int)==1)=true∧((↑(length (cwL A K)):Int)==(↑(length (cwL (reverse A) (mirK' K))):Int))=true∧((↑(length (cwL A K)):
 Int)==(↑(length (cwL (reverse A) (ovK' (mirK' K)))):Int))=true∧true=true∧True)) (ofA c l ks) (ofK c ks)):=by kernel_rfl

end Go.Proofs.YthiammkiobbclaaGreatDoor.X
