/-
 What is to be shown of the functions (made by a program).
-/
import Derived.Test.YthiammkiobbclaaGreatDoorD14Z
import Derived.KernelRfl
set_option maxRecDepth 1000000
set_option linter.unusedVariables false
namespace Go.Proofs.YthiammkiobbclaaGreatDoor.X
open Go Go.Ab
open List IntKind

theorem ob_o7 (c l:Int)(ks ys:List Int):fnP (T7) G 10000 fe7 (.r [] 0 (.r [] 5 (.r [] 1 (.r [] 0 (.br (altS (ofA c l ks) (ofK c ks)) (.br (chkE (ofA c l ks) (ofK c ks) (oxL ys (length (ofK c ks)))==12) (.rs 4 [] 1 25 (.r [] 3 (.lit (.r [] 113 (.rs 3 [] 0 39 (.r [yL 460,yL 461,yL 462,yL 463,yL 466] 7679 .nil) (.rs 3 [] 0 42 (.r [yL 460,yL 461,yL 462,yL 463,yL 466] 491249 .nil) (.r [yL 460,yL 461,yL 462,yL 463,yL 466] 30703 .nil)))))) (.r [] 49 (.tt (.r [] 113 (.rs 3 [] 0 39 (.r [yL 460,yL 461,yL 462,yL 463,yL 466] 7679 .nil) (.rs 3 [] 0 42 (.r [yL 460,yL 461,yL 462,yL 463,yL 466] 491249 .nil) (.r [yL 460,yL 461,yL 462,yL 463,yL 466] 30703 .nil))))))) (.rs 4 [] 1 25 (.r [] 3 (.lit (.r [] 113 (.rs 3 [] 0 39 (.rs 15 [] 31 54 (.r [] 7 .nil) (.r [] 3 .nil)) (.rs 3 [] 0 42 (.rs 6 [] 241 48 (.rs 6 [] 7 54 (.r [] 7 .nil) (.r [] 3 .nil)) (.r [] 15 .nil)) (.r [] 255 .nil)))))) (.r [] 49 (.ff (.r [] 113 (.r [yL 579,yL 580,yL 581,yL 582,yL 583,yL 586,yL 587,yL 588,yL 589,yL 590,yL 593,yL 594,yL 595,yL 596,yL 597,yL 598,yL 601,yL 602,yL 603,yL 604] 64130842366 (.ff (.r [] 0 (.r [] 0 (.lp (l7 (kdL (ofA c l ks) (oxL ys (length (ofK c ks))))) [] [] (fun b=>(.r [] 0 (.cnd (.rs 7 [] 1 104 (.r [] 97 (.cnd (.r [] 0 .nil) (.r [] 2 (.r [] 0 .nil)))) (.r [] 3 (.lit (.r [] 2 (.r [] 0 .nil))))) (.rs 3 [] 0 124 (.r [] 127 .nil) (.rs 4 [] 3 128 (.r [] 31 .nil) (.rs 4 [] 3 132 (.r [] 7 .nil) (.r [] 3 .nil))))))))))))))))) (.rs 4 [] 1 25 (.r [] 3 (.lit (.r [] 113 (.rs 3 [] 0 39 (.r [yL 460,yL 461,yL 462,yL 463,yL 466] 7679 .nil) (.rs 3 [] 0 42 (.r [yL 460,yL 461,yL 462,yL 463,yL 466] 491249 .nil) (.r [yL 460,yL 461,yL 462,yL 463,yL 466] 30703 .nil)))))) (.r [] 49 (.tt (.r [] 113 (.rs 3 [] 0 39 (.r [yL 460,yL 461,yL 462,yL 463,yL 466] 7679 .nil) (.rs 3 [] 0 42 (.r [yL 460,yL 461,yL 462,yL 463,yL 466] 491249 .nil) (.r [yL 460,yL 461,yL 462,yL 463,yL 466] 30703 .nil)))))))))))) ([fV c l ks,.imm (.ints .u8 ys) ys.length none]) ([.bool true]) ([])=(
 (fun(A K:List Int)=>(fun(zz0:Nat)=>(fun(zz8:Bool)=>(fun(zz6:Nat)=>(fun(zz5:Bool)=>(fun(zz4:Bool)=>(fun(zz3:Nat)=>(fun(zz2:Bool)=>(qx (length ks) (okK
 ks))∧length K=length K∧(qx (length ys) ((∀(y:Int),y∈ys→0≤y∧y<256)∧0≤(↑(length K):Int)∧(↑(length K):Int)<1000000))∧(altS A K=true→((chkE A K (oxL ys
 (length K))==12)=true→length A=length A∧length K=length K∧(length A=length A∧length K=length K∧length A<1000000)∧((!altS A K)=true→length A=length A∧length
 K=length K∧(length A=length A∧length K=length K∧length A<1000000∧qx zz6 (length (oxL ys zz0)<1000000))∧(zz4=true→zz2=true∧true=true∧True)∧(zz4=false→
 (zz5=true→length A=length A∧length K=length K∧(length A=length A∧length K=length K∧length A<1000000)∧(!altS A K)=true∧zz2=true∧true=true∧True)∧(zz5=
 false→false=true∧zz2=true∧true=true∧True)))∧((!altS A K)=false→length A=length A∧length K=length K∧(length A=length A∧length K=length K∧qx zz6 (okA A∧
 length A=length K∧List.Perm (oxL ys zz0) (map (fun(i:Nat)=>(↑i:Int)) (range.loop (length A) []))))∧zz8=true∧length A=length A∧length K=length K∧(length A=length A
 ∧length K=length K∧length A<1000000∧qx zz6 (length (oxL ys zz0)<1000000))∧(zz4=true→zz2=true∧true=true∧True)∧(zz4=false→(zz5=true→length A=length A∧
 length K=length K∧(length A=length A∧length K=length K∧length A<1000000)∧(!altS A K)=true∧zz2=true∧true=true∧True)∧(zz5=false→false=true∧zz2=true∧
 true=true∧True))))∧((chkE A K (oxL ys (length K))==12)=false→length A=length A∧length K=length K∧(length A=length A∧length K=length K∧length A<1000000)∧
 ((!altS A K)=true→length A=length A∧length K=length K∧(length A=length A∧length K=length K∧length A<1000000∧qx zz6 (length (oxL ys zz0)<1000000))∧(zz4=true→
 (zz2=true→true=true∧True)∧(zz2=false→false=true∧True))∧(zz4=false→(zz5=true→length A=length A∧length K=length K∧(length A=length A∧length K=length K
 ∧length A<1000000)∧((!altS A K)=true→(zz2=true→true=true∧True)∧(zz2=false→false=true∧True))∧((!altS A K)=false→false=true∧True))∧(zz5=false→false=
 true∧True)))∧((!altS A K)=false→length A=length A∧length K=length K∧(length A=length A∧length K=length K∧qx zz6 (okA A∧length A=length K∧List.Perm (oxL ys zz0)
 (map (fun(i:Nat)=>(↑i:Int)) (range.loop (length A) []))))∧zz8=false∧length A=length A∧length K=length K∧(length A=length A∧length K=length K∧length A<1000000∧
 qx zz6 (length (oxL ys zz0)<1000000))∧(!dcdE A K (oxL ys zz0) !=0)=true∧(!(↑zz3:Int) !=(↑(length K):Int))=true∧(!(↑zz3:Int) !=(↑(length K):Int))=true∧length A=
 length A∧(length (bLs (dcdB A K (oxL ys zz0)) A)=length (bLs (dcdB A K (oxL ys zz0)) A)∧length A=length A∧length (bLs (dcdB A K (oxL ys zz0)) A)=length (bLs (dcdB A K (oxL ys
 zz0)) A)∧length (bLs (dcdB A K (oxL ys zz0)) A)<1000000000000)∧(!!decide (bLs (dcdB A K (oxL ys zz0)) A=ofA c l ks))=true∧(length (bLs (dcdB A K (oxL ys zz0)) A)=length (bLs
 (dcdB A K (oxL ys zz0)) A)∧length (bLs (dcdB A K (oxL ys zz0)) (kdL A (oxL ys zz0)))=length (bLs (dcdB A K (oxL ys zz0)) (kdL A (oxL ys zz0)))∧length (bLs (dcdB A K (oxL ys zz0)) A)<
 1000000∧qx zz6 (length (oxL ys zz0)<1000000))∧(vldE (bLs (dcdB A K (oxL ys zz0)) A) (bLs (dcdB A K (oxL ys zz0)) (kdL A (oxL ys zz0))) (oxL ys zz0) !=0)=false∧1=1∧c=c∧l=
 l∧qs u8 ks (length A=length A∧qx (ofA c l ks) (length K=length K∧ofK c ks=ofK c ks∧1=1∧length A=length A∧length K=length K∧1=1∧Cont.ints i64 (bLs (dcdB A K (oxL
 ys zz0)) A)=Cont.ints i64 (bLs (dcdB A K (oxL ys zz0)) A)∧length (bLs (dcdB A K (oxL ys zz0)) A)=length (bLs (dcdB A K (oxL ys zz0)) A)∧length (bLs (dcdB A K (oxL ys zz0)) A)=
 length (bLs (dcdB A K (oxL ys zz0)) A)∧Cont.ints u8 (bLs (dcdB A K (oxL ys zz0)) (kdL A (oxL ys zz0)))=Cont.ints u8 (bLs (dcdB A K (oxL ys zz0)) (kdL A (oxL ys zz0)))∧length (bLs (dcdB
 A K (oxL ys zz0)) (kdL A (oxL ys zz0)))=length (bLs (dcdB A K (oxL ys zz0)) (kdL A (oxL ys zz0)))∧length (bLs (dcdB A K (oxL ys zz0)) (kdL A (oxL ys zz0)))=length (bLs (dcdB A K (oxL
 ys zz0)) (kdL A (oxL ys zz0)))∧ql K (0=0∧iI 0=0∧iI 0=0∧(∃(m:Nat),0=(↑m:Int)∧m≤length (kdL A (oxL ys (length K)))∧0=dsm (take m (kdL A (oxL ys (length K)))))∧∀
 (b:L7),(fun(zz1:List Int)=>(fun(zz7:Prop)=>(∃(m:Nat),b.i=(↑m:Int)∧m≤length (kdL A (oxL ys (length K)))∧b.d=dsm (take m (kdL A (oxL ys (length K)))))→(ltb b.i
 (↑(length K):Int)=true→leb 0 b.i=true∧ltb b.i (↑zz3:Int)=true∧ltn 0 (Cont.size (Cont.ints u8 (bLs (dcdB A K (oxL ys zz0)) (kdL A (oxL ys zz0)))))=true∧ltn 0 (Cont.size
 (Cont.ints u8 zz1))=true∧((getD zz1 0 0 !=1)=true→leb 0 b.i=true∧ltb b.i (↑zz3:Int)=true∧ltn 0 (Cont.size (Cont.ints u8 (bLs (dcdB A K (oxL ys zz0)) (kdL A (oxL ys
 zz0)))))=true∧ltn 0 (Cont.size (Cont.ints u8 zz1))=true∧((getD zz1 0 0 !=2)=true→false=true∧True)∧((getD zz1 0 0 !=2)=false→inR i64 (b.d+3)=true∧leb 0 b.i=
 true∧ltb b.i (↑zz3:Int)=true∧ltn 0 (Cont.size (Cont.ints u8 (bLs (dcdB A K (oxL ys zz0)) (kdL A (oxL ys zz0)))))=true∧ltn 0 (Cont.size (Cont.ints u8 zz1))=true∧inR i64 (getD
 zz1 0 0)=true∧inR i64 (2*getD zz1 0 0)=true∧inR i64 (b.d+3-2*getD zz1 0 0)=true∧inR i64 (b.i+1)=true∧1=1∧c=c∧l=l∧qs u8 ks (length A=length A∧qx (ofA
 c l ks) (length K=length K∧ofK c ks=ofK c ks∧1=1∧length A=length A∧length K=length K∧1=1∧Cont.ints i64 (bLs (dcdB A K (oxL ys zz0)) A)=Cont.ints i64 (bLs (dcdB A K
 (oxL ys zz0)) A)∧length (bLs (dcdB A K (oxL ys zz0)) A)=length (bLs (dcdB A K (oxL ys zz0)) A)∧length (bLs (dcdB A K (oxL ys zz0)) A)=length (bLs (dcdB A K (oxL ys zz0)) A)∧
 Cont.ints u8 (bLs (dcdB A K (oxL ys zz0)) (kdL A (oxL ys zz0)))=Cont.ints u8 (bLs (dcdB A K (oxL ys zz0)) (kdL A (oxL ys zz0)))∧length (bLs (dcdB A K (oxL ys zz0)) (kdL A (oxL ys zz0)))
 =length (bLs (dcdB A K (oxL ys zz0)) (kdL A (oxL ys zz0)))∧length (bLs (dcdB A K (oxL ys zz0)) (kdL A (oxL ys zz0)))=length (bLs (dcdB A K (oxL ys zz0)) (kdL A (oxL ys zz0)))∧ql K (0
 =0∧b.d+3-2*getD zz1 0 0=b.d+3-2*getD zz1 0 0∧b.i+1=b.i+1∧zz7∧length (kdL A (oxL ys (length K)))-Int.toNat (b.i+1)<length (kdL A (oxL ys (length K)))-
 Int.toNat b.i∧True)))))∧((getD zz1 0 0 !=1)=false→inR i64 (b.d+3)=true∧leb 0 b.i=true∧ltb b.i (↑zz3:Int)=true∧ltn 0 (Cont.size (Cont.ints u8 (bLs (dcdB A K (oxL ys
 zz0)) (kdL A (oxL ys zz0)))))=true∧ltn 0 (Cont.size (Cont.ints u8 zz1))=true∧inR i64 (getD zz1 0 0)=true∧inR i64 (2*getD zz1 0 0)=true∧inR i64 (b.d+3-2*getD zz1 0 0)
 =true∧inR i64 (b.i+1)=true∧1=1∧c=c∧l=l∧qs u8 ks (length A=length A∧qx (ofA c l ks) (length K=length K∧ofK c ks=ofK c ks∧1=1∧length A=length A∧length
 K=length K∧1=1∧Cont.ints i64 (bLs (dcdB A K (oxL ys zz0)) A)=Cont.ints i64 (bLs (dcdB A K (oxL ys zz0)) A)∧length (bLs (dcdB A K (oxL ys zz0)) A)=length (bLs (dcdB A K (oxL ys
 zz0)) A)∧length (bLs (dcdB A K (oxL ys zz0)) A)=length (bLs (dcdB A K (oxL ys zz0)) A)∧Cont.ints u8 (bLs (dcdB A K (oxL ys zz0)) (kdL A (oxL ys zz0)))=Cont.ints u8 (bLs (dcdB A K
 (oxL ys zz0)) (kdL A (oxL ys zz0)))∧length (bLs (dcdB A K (oxL ys zz0)) (kdL A (oxL ys zz0)))=length (bLs (dcdB A K (oxL ys zz0)) (kdL A (oxL ys zz0)))∧length (bLs (dcdB A K (oxL ys
 zz0)) (kdL A (oxL ys zz0)))=length (bLs (dcdB A K (oxL ys zz0)) (kdL A (oxL ys zz0)))∧ql K (0=0∧b.d+3-2*getD zz1 0 0=b.d+3-2*getD zz1 0 0∧b.i+1=b.i+1∧zz7∧
 length (kdL A (oxL ys (length K)))-Int.toNat (b.i+1)<length (kdL A (oxL ys (length K)))-Int.toNat b.i∧True)))))∧(ltb b.i (↑(length K):Int)=false→(((↑(length K):Int)==0)
 =true→true=true∧True)∧(((↑(length K):Int)==0)=false→((b.d==2)=true→true=true∧True)∧((b.d==2)=false→((b.d== -2)=true→true=true∧True)∧((b.d== -2)
 =false→false=true∧True))))) (∃(m:Nat),b.i+1=(↑m:Int)∧m≤length (kdL A (oxL ys (length K)))∧b.d+3-2*getD zz1 0 0=dsm (take m (kdL A (oxL ys (length K)))))) (drop
 (Int.toNat b.i) (bLs (dcdB A K (oxL ys zz0)) (kdL A (oxL ys zz0))))))))))∧(altS A K=false→length A=length A∧length K=length K∧(length A=length A∧length K=length K∧
 length A<1000000)∧((!altS A K)=true→length A=length A∧length K=length K∧(length A=length A∧length K=length K∧length A<1000000∧qx zz6 (length (oxL ys zz0)<
 1000000))∧(zz4=true→zz2=true∧true=true∧True)∧(zz4=false→(zz5=true→length A=length A∧length K=length K∧(length A=length A∧length K=length K∧length A<
 1000000)∧(!altS A K)=true∧zz2=true∧true=true∧True)∧(zz5=false→false=true∧zz2=true∧true=true∧True)))∧((!altS A K)=false→length A=length A∧length K=
 length K∧(length A=length A∧length K=length K∧qx zz6 (okA A∧length A=length K∧List.Perm (oxL ys zz0) (map (fun(i:Nat)=>(↑i:Int)) (range.loop (length A) []))))∧zz8=
 true∧length A=length A∧length K=length K∧(length A=length A∧length K=length K∧length A<1000000∧qx zz6 (length (oxL ys zz0)<1000000))∧(zz4=true→zz2=true∧true
 =true∧True)∧(zz4=false→(zz5=true→length A=length A∧length K=length K∧(length A=length A∧length K=length K∧length A<1000000)∧(!altS A K)=true∧zz2=true∧
 true=true∧True)∧(zz5=false→false=true∧zz2=true∧true=true∧True))))) ((↑(length (bLs (dcdB A K (oxL ys zz0)) A)):Int)==0)) (length (bLs (dcdB A K (oxL ys zz0)) (kdL A
 (oxL ys zz0))))) (dcdE A K (oxL ys zz0)==12)) (dcdE A K (oxL ys zz0)==14)) (length (oxL ys zz0))) (chkE A K (oxL ys zz0)==12)) (Int.toNat (↑(length K):Int))) (ofA c l ks) (ofK c ks)):=by kernel_rfl

end Go.Proofs.YthiammkiobbclaaGreatDoor.X
