/-
 What is to be shown of the functions (made by a program).
-/
import Derived.Test.YthiammkiobbclaaGreatD25Z
import Derived.KernelRfl
set_option maxRecDepth 1000000
set_option linter.unusedVariables false
namespace Go.Proofs.YthiammkiobbclaaGreat.X
open Go Go.Ab
open List IntKind

theorem ob_o3 (c l:Int)(ks:List Int):fnP (T3) G 10000 fe3 (.r [] 0 (.r [] 5 (.r [] 1 (.frz 3 0 (.r [] 13 (.r [] 0 (.cnd (.r [] 0 .nil) (.rs 3 [] 0 31 (.r [] 3 (.lit (.r [] 1 .nil))) (.r [] 3 (.cnd (.r [] 1 .nil) (.r [] 792883 (.r [] 13 (.r [] 49 (.r [] 13 (.r [] 49 (.rs 3 [] 0 74 (.r [] 255 (.lit (.r [] 0 .nil))) (.rs 9 [] 15 83 (.r [] 15 (.lit (.r [] 0 .nil))) (.rs 5 [] 3 88 (.r [] 3 (.lit (.r [] 0 .nil))) (.r [] 3 (.cnd (.r [] 0 .nil) (.r [] 0 (.lp (l3 (ofA c l ks) (fstL (ofA c l ks) (ofK c ks)) []) [] [] (fun b=>(.r [] 0 (.cnd (.r [] 0 (.cnd (.r [] 0 .nil) (.r [] 0 .nil))) (.r [] 1 .nil)))))))))))))))))))))))))) ([fV c l ks]) ([.bool true]) ([])=(
 (fun(A K:List Int)=>(fun(zz4:Bool)=>(fun(zz3:Nat)=>(fun(zz2:Bool)=>(fun(zz0:Nat)=>(qx (length ks) (okK ks))∧length A=length A∧length A=length A∧length K=
 length K∧(length A=length A∧length K=length K∧length A<1000000)∧((chk A K !=0)=true→false=true∧True)∧((chk A K !=0)=false→(((↑(length A):Int)==0)=true→
 true=true∧True)∧(((↑(length A):Int)==0)=false→((!altS A K)=true→true=true∧True)∧((!altS A K)=false→len' ((0+length A)*8) 140737488355328=true∧Cont.size
 (Cont.ints i64 A)=length A∧len' 1 (length K)=true∧Cont.size (Cont.ints u8 K)=length K∧len' ((0+(length K-1))*1) 140737488355328=true∧Cont.size (Cont.ints u8 (drop 1 K))
 =length K-1∧ltb 0 (↑(length K):Int)=true∧ltn 0 (Cont.size (Cont.ints u8 K))=true∧ltn 0 (Cont.size (Cont.ints u8 (drop 0 K)))=true∧qx (0+(length K-1)) (len' ((0+
 (length K-1)+1)*1) 140737488355328=true∧(length A=length A∧length K=length K∧length A<1000000)∧qx (0+length A) (qx (0+(length K-1)+1) ((0+length A=length
 ([]++ofA c l ks)∧0+(length K-1)+1=length ([]++drop 1 K++[getD (drop 0 K) 0 0])∧okRing ([]++ofA c l ks) ([]++drop 1 K++[getD (drop 0 K) 0 0]))∧(length A=length A∧
 length K=length K∧length A<1000000)∧qx (0+length A) (qx (0+(length K-1)+1) ((0+length A=length ([]++ofA c l ks)∧0+(length K-1)+1=length ([]++drop 1 K++
 [getD (drop 0 K) 0 0])∧okRing ([]++ofA c l ks) ([]++drop 1 K++[getD (drop 0 K) 0 0]))∧((cntE A K !=0)=true→false=true∧True)∧((cntE A K !=0)=false→(zz2=true→
 false=true∧True)∧(zz2=false→(zz4=true→false=true∧True)∧(zz4=false→(((↑zz3:Int) !=(↑zz0:Int))=true→false=true∧True)∧(((↑zz3:Int) !=(↑zz0:Int))=
 false→1=1∧c=c∧l=l∧qs u8 ks (length A=length A∧qx (ofA c l ks) (length K=length K∧ofK c ks=ofK c ks∧1=1∧length A=length A∧length K=length K∧qx (0+
 length A) ([]++ofA c l ks=[]++ofA c l ks∧qx (0+(length K-1)+1) ([]++drop 1 K++[getD (drop 0 K) 0 0]=[]++drop 1 K++[getD (drop 0 K) 0 0]∧1=1∧1=1∧[getD (drop
 0 K) 0 0]=[getD (drop 0 K) 0 0]∧1=1∧qx (0+length A) (qx (0+(length K-1)+1) (qs i64 (fstL A K) (qx zz3 (qs i64 (fstW (rwL ([]++ofA c l ks) ([]++drop 1 K++[getD (drop 0
 K) 0 0]))) (qx zz0 (iI 0=0∧(∃(m:Nat),0=(↑m:Int)∧m≤length (fstL A K))∧∀(b:L83),(fun(zz1:Bool)=>(∃(m:Nat),b.i=(↑m:Int)∧m≤length (fstL A K))→(ltb b.i
 (↑zz3:Int)=true→rd i64 (fstL A K) b.i (rd i64 (fstW (rwL ([]++ofA c l ks) ([]++drop 1 K++[getD (drop 0 K) 0 0]))) b.i ((zz1=true→false=true∧True)∧(zz1=false→inR i64
 (b.i+1)=true∧1=1∧c=c∧l=l∧qs u8 ks (length A=length A∧qx (ofA c l ks) (length K=length K∧ofK c ks=ofK c ks∧1=1∧length A=length A∧length K=length K∧qx
 (0+length A) ([]++ofA c l ks=[]++ofA c l ks∧qx (0+(length K-1)+1) ([]++drop 1 K++[getD (drop 0 K) 0 0]=[]++drop 1 K++[getD (drop 0 K) 0 0]∧1=1∧1=1∧[getD
 (drop 0 K) 0 0]=[getD (drop 0 K) 0 0]∧1=1∧qx (0+length A) (qx (0+(length K-1)+1) (qs i64 (fstL A K) (qx zz3 (qs i64 (fstW (rwL ([]++ofA c l ks) ([]++drop 1 K++[getD
 (drop 0 K) 0 0]))) (qx zz0 (b.i+1=b.i+1∧(∃(m:Nat),b.i+1=(↑m:Int)∧m≤length (fstL A K))∧length (fstL A K)-Int.toNat (b.i+1)<length (fstL A K)-Int.toNat b.i∧
 True))))))))))))))∧(ltb b.i (↑zz3:Int)=false→true=true∧True)) (getD (drop (Int.toNat b.i) (fstL A K)) 0 0 !=getD (drop (Int.toNat b.i) (fstW (rwL ([]++ofA c l ks) ([]++drop
 1 K++[getD (drop 0 K) 0 0])))) 0 0)))))))))))))))))))))))) (length (fstW (rwL ([]++ofA c l ks) ([]++drop 1 K++[getD (drop 0 K) 0 0]))))) ((↑(length (cwL A K)):Int) !=(↑(length
 (rwL ([]++ofA c l ks) ([]++drop 1 K++[getD (drop 0 K) 0 0]))):Int))) (length (fstL A K))) (fstE A K !=fstQ ([]++ofA c l ks) ([]++drop 1 K++[getD (drop 0 K) 0 0]))) (ofA c l
 ks) (ofK c ks)):=by kernel_rfl

end Go.Proofs.YthiammkiobbclaaGreat.X
