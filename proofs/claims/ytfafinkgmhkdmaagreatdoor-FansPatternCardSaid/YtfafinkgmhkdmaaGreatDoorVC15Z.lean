/-
 What is to be shown of the functions (made by a program).
-/
import Derived.Test.YtfafinkgmhkdmaaGreatDoorVD11Z
import Derived.KernelRfl
import Derived.Test.YtfafinkgmhkdmaaGreatDoorVD8Z
import Derived.Test.YtfafinkgmhkdmaaGreatDoorVC6hZ
import Derived.Test.YtfafinkgmhkdmaaGreatDoorVC14Z

set_option maxRecDepth 1000000
set_option linter.unusedVariables false
namespace Go.Proofs.YtfafinkgmhkdmaaGreatDoor.X
open Go Go.Ab
open List IntKind

theorem ob_o31 (a k:List Int):fnP (tN) G 10000 fe18 (.r [] 0 (.r [] 0 (.r [] 1 (.lp (l31 a) [] [] (fun b=>(.r [] 0 (.cnd (.r [] 0 (.r [(386,.auto,Dr.wrap)] 0 (.r [] 0 .nil))) (.rs 4 [] 1 20 (.rs 3 [] 0 23 (.r [] 15 .nil) (.r [] 31 .nil)) (.r [] 3 .nil))))))))) ([fanV a k]) ([.bool (flB a k)]) ([])=(
 1=1∧Cont.ints i64 a=Cont.ints i64 a∧length a=length a∧Cont.ints u8 k=Cont.ints u8 k∧length k=length k∧0=0∧iI 0=0∧Cont.ints i64 a=Cont.ints i64 a∧length a=length a∧
 (↑(length a):Int)=(↑(length a):Int)∧iI 0=0∧(∃(n:Nat),0=(↑n:Int)∧n≤length a∧0=wsum (take n a))∧∀(b:L31),(∃(n:Nat),b.i=(↑n:Int)∧n≤length a∧b.s=wsum
 (take n a))→(ltb b.i (↑(length a):Int)=true→leb 0 b.i=true∧ltb b.i (↑(length a):Int)=true∧ltn 0 (Cont.size (Cont.ints i64 a))=true∧ltn 0 (Cont.size (Cont.ints i64 (drop
 (Int.toNat b.i) a)))=true∧inR i64 (b.i+1)=true∧1=1∧Cont.ints i64 a=Cont.ints i64 a∧length a=length a∧Cont.ints u8 k=Cont.ints u8 k∧length k=length k∧0=0∧wrap i64 (b.s
 +getD (drop (Int.toNat b.i) a) 0 0)=wrap i64 (b.s+getD (drop (Int.toNat b.i) a) 0 0)∧Cont.ints i64 a=Cont.ints i64 a∧length a=length a∧(↑(length a):Int)=(↑(length a):Int)∧b.i+
 1=b.i+1∧(∃(n:Nat),b.i+1=(↑n:Int)∧n≤length a∧wrap i64 (b.s+getD (drop (Int.toNat b.i) a) 0 0)=wsum (take n a))∧length a-Int.toNat (b.i+1)<length a-Int.toNat b.i∧
 True)∧(ltb b.i (↑(length a):Int)=false→(length a=length a∧length k=length k∧length a<1000000000000)∧((chk a k==0)=true→((b.s==8)=true→true=flB a k∧True)∧((b.s==
 8)=false→((↑(length a):Int)==0)=flB a k∧True))∧((chk a k==0)=false→false=flB a k∧True))):=by kernel_rfl

theorem ob_o54 (l:List AV)(n:Nat):fnP (T0) G 10000 fe24 (.r [] 0 (.r [] 5 .nil)) ([.imm (.vals l) n none]) ([.imm (.vals l) n (some n)]) ([])=(
 Int.toNat (↑n:Int)=n∧Int.toNat (↑n:Int)=n∧Cont.size (Cont.vals l)=n*3∧Cont.vals l=Cont.vals l∧n=n∧n=n∧True):=by kernel_rfl

theorem ob_o30 (a k:List Int)(f:Int):fnP (V30 a k f) G 10000 fe6 (.r [] 0 (.r [] 1 (.r [] 0 (.cnd (.r [] 1 .nil) (.r [] 1 (.cnd (.r [] 1 .nil) (.rs 3 [] 0 27 (.r [] 3 (.lit (.r [] 1 .nil))) (.r [] 3 (.cnd (.r [] 1 .nil) (.r [] 1 (.r [] 1 (.ghc 578 2 9001 3 (Cont.vals []) (.lp (l30 a k f) [] [] (fun b=>(.r [] 0 (.cnd (.r [] 0 (.r [(835,.auto,Dr.val [AV.imm (Cont.vals (rayV (Int.tmod b.f 8))) (rayN (Int.tmod b.f 8)) none])] 1 (.lp (m30 (Int.tmod b.f 8) (getD k (Int.toNat b.i) 0) b.l b.n) [] [] (fun b_1=>(.r [] 0 (.cnd (.r [(961,.auto,Dr.val
 [AV.int i64 (rcC (Int.tmod b.f 8) b_1.i),AV.int u8 (rcE (Int.tmod b.f 8) b_1.i),AV.int u8 0])] 64 (.r [] 33 (.r [] 51 (.r [] 0 .nil)))) (.r [] 0 (.r [] 0 .nil)))))))) (.r [(1346,.auto,Dr.heap)] 1 (.r [] 9 (.r [] 3 .nil))))))))))))))))))) ([fanV a k,.int .i64 f]) ([.agg [.int .i64 (bI (patE a k f==0) 2 0),.int .i64 (bI (patE a k f==0) 2 0),.imm (.vals (flatC (patL a k f))) (patL a k f).length (some (patL a k f).length)],.int .i64 (patE a k f)]) ([])=(
 (length a=length a∧length k=length k∧length a<1000000000000)∧((chk a k !=0)=true→0=bI (patE a k f==0) 2 0∧0=bI (patE a k f==0) 2 0∧Cont.size (Cont.vals (flatC (patL a k
 f)))=0∧length (patL a k f)=0∧length (patL a k f)=0∧chk a k=patE a k f∧True)∧((chk a k !=0)=false→(length a=length a∧length k=length k∧length a<1000000000)∧((!flB a
 k)=true→0=bI (patE a k f==0) 2 0∧0=bI (patE a k f==0) 2 0∧Cont.size (Cont.vals (flatC (patL a k f)))=0∧length (patL a k f)=0∧length (patL a k f)=0∧14=patE a k f∧True)∧
 ((!flB a k)=false→(ltb f 0=true→0=bI (patE a k f==0) 2 0∧0=bI (patE a k f==0) 2 0∧Cont.size (Cont.vals (flatC (patL a k f)))=0∧length (patL a k f)=0∧length (patL a k f)=0
 ∧1=patE a k f∧True)∧(ltb f 0=false→(ltb 7 f=true→0=bI (patE a k f==0) 2 0∧0=bI (patE a k f==0) 2 0∧Cont.size (Cont.vals (flatC (patL a k f)))=0∧length (patL a k f)=0∧
 length (patL a k f)=0∧1=patE a k f∧True)∧(ltb 7 f=false→1=1∧Cont.ints i64 a=Cont.ints i64 a∧length a=length a∧Cont.ints u8 k=Cont.ints u8 k∧length k=length k∧1=1∧
 iI 0=0∧iI 0=0∧1=1∧iI 2=2∧iI 2=2∧0=0∧0=0∧([]:List AV)=[]∧f=f∧0=0∧0=0∧0=0∧Cont.ints i64 a=Cont.ints i64 a∧length a=length a∧(↑(length a):Int)
 =(↑(length a):Int)∧iI 0=0∧(∃(n:Nat),0=(↑n:Int)∧n≤length a∧f=f+sum (take n a)∧[]=flatC (rawF (take n a) (take n k) f)∧0=length (rawF (take n a) (take n k) f))∧∀(b
 :L30),(∃(n:Nat),b.i=(↑n:Int)∧n≤length a∧b.f=f+sum (take n a)∧b.l=flatC (rawF (take n a) (take n k) f)∧b.n=length (rawF (take n a) (take n k) f))→(ltb b.i (↑(length a):
 Int)=true→leb 0 b.i=true∧ltb b.i (↑(length a):Int)=true∧ltn 0 (Cont.size (Cont.ints i64 a))=true∧ltn 0 (Cont.size (Cont.ints i64 (drop (Int.toNat b.i) a)))=true∧leb 0 (Int.tmod
 b.f 8)=true∧ltb (Int.tmod b.f 8) 8=true∧(drop (Int.toNat (Int.tmod b.f 8)) [AV.imm (Cont.vals [AV.int i64 6,AV.int u8 0,AV.int u8 0]) 1 none,AV.imm (Cont.vals [AV.int i64 12,AV.int u8 2,
 AV.int u8 0,AV.int i64 13,AV.int u8 2,AV.int u8 0]) 2 none,AV.imm (Cont.vals [AV.int i64 9,AV.int u8 0,AV.int u8 0]) 1 none,AV.imm (Cont.vals [AV.int i64 8,AV.int u8 1,AV.int u8 0,AV.int i64
 10,AV.int u8 1,AV.int u8 0]) 2 none,AV.imm (Cont.vals [AV.int i64 2,AV.int u8 0,AV.int u8 0]) 1 none,AV.imm (Cont.vals [AV.int i64 0,AV.int u8 2,AV.int u8 0,AV.int i64 1,AV.int u8 2,AV.int
 u8 0]) 2 none,AV.imm (Cont.vals [AV.int i64 1,AV.int u8 0,AV.int u8 0]) 1 none,AV.imm (Cont.vals [AV.int i64 4,AV.int u8 1,AV.int u8 0,AV.int i64 6,AV.int u8 1,AV.int u8 0]) 2 none])[0]? =
 some (AV.imm (Cont.vals (rayV (Int.tmod b.f 8))) (rayN (Int.tmod b.f 8)) none)∧1=1∧Cont.ints i64 a=Cont.ints i64 a∧length a=length a∧Cont.ints u8 k=Cont.ints u8 k∧length k=length k
 ∧1=1∧iI 0=0∧iI 0=0∧1=1∧iI 2=2∧iI 2=2∧b.n=b.n∧b.n=b.n∧b.l=b.l∧b.f=b.f∧0=0∧0=0∧0=0∧Cont.ints i64 a=Cont.ints i64 a∧length a=length a∧
 (↑(length a):Int)=(↑(length a):Int)∧b.i=b.i∧b.i=b.i∧getD (drop (Int.toNat b.i) a) 0 0=getD (drop (Int.toNat b.i) a) 0 0∧Cont.vals (rayV (Int.tmod b.f 8))=Cont.vals (rayV
 (Int.tmod b.f 8))∧rayN (Int.tmod b.f 8)=rayN (Int.tmod b.f 8)∧(↑(rayN (Int.tmod b.f 8)):Int)=(↑(rayN (Int.tmod b.f 8)):Int)∧iI 0=0∧(∃(m:Nat),0=(↑m:Int)∧m≤rayN (Int.tmod
 b.f 8)∧b.l=b.l++flatC (take m (rayK (Int.tmod b.f 8) (getD k (Int.toNat b.i) 0)))∧b.n=b.n+m)∧∀(b_1:M30),(∃(m:Nat),b_1.i=(↑m:Int)∧m≤rayN (Int.tmod b.f 8)∧b_1.l=b.l++
 flatC (take m (rayK (Int.tmod b.f 8) (getD k (Int.toNat b.i) 0)))∧b_1.n=b.n+m)→(ltb b_1.i (↑(rayN (Int.tmod b.f 8)):Int)=true→leb 0 b_1.i=true∧ltb b_1.i (↑(rayN (Int.tmod b.f 8)):
 Int)=true∧ltn 0 (Cont.size (Cont.vals (rayV (Int.tmod b.f 8))))=true∧(drop (Int.toNat b_1.i*3) (rayV (Int.tmod b.f 8)))[0]? =some (AV.int i64 (rcC (Int.tmod b.f 8) b_1.i))∧(drop
 (Int.toNat b_1.i*3) (rayV (Int.tmod b.f 8)))[1]? =some (AV.int u8 (rcE (Int.tmod b.f 8) b_1.i))∧(drop (Int.toNat b_1.i*3) (rayV (Int.tmod b.f 8)))[2]? =some (AV.int u8 0)∧leb 0 b.i=true∧
 ltb b.i (↑(length k):Int)=true∧ltn 0 (Cont.size (Cont.ints u8 k))=true∧ltn 0 (Cont.size (Cont.ints u8 (drop (Int.toNat b.i) k)))=true∧b_1.n=b_1.n∧len' ((b_1.n+1)*16)
 140737488355328=true∧inR i64 (b_1.i+1)=true∧1=1∧Cont.ints i64 a=Cont.ints i64 a∧length a=length a∧Cont.ints u8 k=Cont.ints u8 k∧length k=length k∧1=1∧iI 0=0∧iI 0
 =0∧1=1∧iI 2=2∧iI 2=2∧b_1.n+1=b_1.n+1∧b_1.n+1=b_1.n+1∧b_1.l++[AV.int i64 (rcC (Int.tmod b.f 8) b_1.i),AV.int u8 (rcE (Int.tmod b.f 8) b_1.i),AV.int u8 (getD (drop
 (Int.toNat b.i) k) 0 0)]=b_1.l++[AV.int i64 (rcC (Int.tmod b.f 8) b_1.i),AV.int u8 (rcE (Int.tmod b.f 8) b_1.i),AV.int u8 (getD (drop (Int.toNat b.i) k) 0 0)]∧b.f=b.f∧0=0∧0=0∧0=0
 ∧Cont.ints i64 a=Cont.ints i64 a∧length a=length a∧(↑(length a):Int)=(↑(length a):Int)∧b.i=b.i∧b.i=b.i∧getD (drop (Int.toNat b.i) a) 0 0=getD (drop (Int.toNat b.i) a) 0 0∧
 Cont.vals (rayV (Int.tmod b.f 8))=Cont.vals (rayV (Int.tmod b.f 8))∧rayN (Int.tmod b.f 8)=rayN (Int.tmod b.f 8)∧(↑(rayN (Int.tmod b.f 8)):Int)=(↑(rayN (Int.tmod b.f 8)):Int)∧b_1.i+1
 =b_1.i+1∧(∃(m:Nat),b_1.i+1=(↑m:Int)∧m≤rayN (Int.tmod b.f 8)∧b_1.l++[AV.int i64 (rcC (Int.tmod b.f 8) b_1.i),AV.int u8 (rcE (Int.tmod b.f 8) b_1.i),AV.int u8 (getD (drop
 (Int.toNat b.i) k) 0 0)]=b.l++flatC (take m (rayK (Int.tmod b.f 8) (getD k (Int.toNat b.i) 0)))∧b_1.n+1=b.n+m)∧rayN (Int.tmod b.f 8)-Int.toNat (b_1.i+1)<rayN (Int.tmod b.f 8)-
 Int.toNat b_1.i∧True)∧(ltb b_1.i (↑(rayN (Int.tmod b.f 8)):Int)=false→inR i64 (b.f+getD (drop (Int.toNat b.i) a) 0 0)=true∧inR i64 (b.i+1)=true∧1=1∧Cont.ints i64 a=
 Cont.ints i64 a∧length a=length a∧Cont.ints u8 k=Cont.ints u8 k∧length k=length k∧1=1∧iI 0=0∧iI 0=0∧1=1∧iI 2=2∧iI 2=2∧b_1.n=b_1.n∧b_1.n=b_1.n∧b_1.l=
 b_1.l∧b.f+getD (drop (Int.toNat b.i) a) 0 0=b.f+getD (drop (Int.toNat b.i) a) 0 0∧0=0∧0=0∧0=0∧Cont.ints i64 a=Cont.ints i64 a∧length a=length a∧(↑(length a):Int)=
 (↑(length a):Int)∧b.i+1=b.i+1∧(∃(n:Nat),b.i+1=(↑n:Int)∧n≤length a∧b.f+getD (drop (Int.toNat b.i) a) 0 0=f+sum (take n a)∧b_1.l=flatC (rawF (take n a) (take n k)
 f)∧b_1.n=length (rawF (take n a) (take n k) f))∧length a-Int.toNat (b.i+1)<length a-Int.toNat b.i∧True))∧(ltb b.i (↑(length a):Int)=false→([(9001,HO.blk (Blk.mk (Cont.vals
 b.l) 3 b.n none (some true) true false))]=[(9001,HO.blk (Blk.mk (Cont.vals (flatC (rawF a k f))) 3 b.n none (some true) true false))]∧b.n=length (rawF a k f)∧length (rawF a k f)<1000000000)
 ∧b.n=b.n∧length (flatC (sortL cmpCr (rawF a k f)))=3*b.n∧2=bI (patE a k f==0) 2 0∧2=bI (patE a k f==0) 2 0∧Cont.vals (flatC (sortL cmpCr (rawF a k f)))=Cont.vals (flatC (patL
 a k f))∧b.n=length (patL a k f)∧b.n=length (patL a k f)∧0=patE a k f∧True)))))):=by kernel_rfl

end Go.Proofs.YtfafinkgmhkdmaaGreatDoor.X

/-
 What is to be shown of the functions (made by a program).
-/
set_option maxRecDepth 1000000
set_option linter.unusedVariables false
namespace Go.Proofs.YtfafinkgmhkdmaaGreatDoor.X
open Go Go.Ab

end Go.Proofs.YtfafinkgmhkdmaaGreatDoor.X
/-
 The texts of fans.
-/
set_option maxRecDepth 1000000
set_option linter.unusedVariables false
set_option linter.unusedSimpArgs false
namespace Go.Proofs.YtfafinkgmhkdmaaGreatDoor.X
open Go Go.Ab

theorem len_sum:∀(a:List Int),(∀x∈a,1≤x)→(a.length:Int)≤a.sum
 |[],_=>by simp
 |x::r,h=>by
  have:=len_sum r fun y hy=>h y (List.mem_cons_of_mem _ hy)
  have:=h x List.mem_cons_self
  simp;omega
end Go.Proofs.YtfafinkgmhkdmaaGreatDoor.X
/-
 Flat, patterns, Turn, Least and Text of any fan.
-/
set_option maxRecDepth 1000000
set_option linter.unusedVariables false
set_option linter.unusedSimpArgs false
namespace Go.Proofs.YtfafinkgmhkdmaaGreatDoor.X
open Go Go.Ab

theorem tNok:TabOk Tryz.prog G tN:=tabL_ok (l:=[(17,e17)]) noCh_ok ⟨ct17,trivial⟩
theorem wsum_succ {l:List Int}{n:Nat}(h:n<l.length):wsum (l.take (n+1))=IntKind.i64.wrap (wsum (l.take n)+l[n]?.getD 0):=by
 have e:l[n]? =some l[n]:=List.getElem?_eq_getElem h
 rw[List.take_add_one,e]
 simp only[wsum,Option.toList_some,List.foldl_append,List.foldl_cons,List.foldl_nil,Option.getD_some]
theorem sp31 (a k:List Int)(hz:a.length<1000000000):SpecP Tryz.prog G 18 [fanV a k] (.bool (flB a k)) []:=by
 refine fnP_spec hcm hmx tNok ok18 rfl (ob_o31 a k) ?_
 simp only[ltb_iff,ltb_no,leb_iff,leb_no,ltn_iff,ltn_no,len'_iff,len'_no,inR_i64,inR_u8,inR_i32,size_ints,size_bools,size_vals,size_cells,getD_drop,List.getElem?_drop,beq_iff_eq,beq_eq_false_iff_ne,bne_iff_ne,bne_eq_false_iff_eq,ne_eq,Nat.zero_add,Nat.add_zero,Nat.mul_one,Int.toNat_natCast,and_true,true_and,List.length_drop,List.length_append,List.length_cons,List.length_nil,List.length_set,List.getD_eq_getElem?_getD,implies_true,iI,iL,Bool.not_eq_true',Bool.not_eq_false',Int.natCast_inj]
 refine⟨⟨0,rfl,by omega,rfl⟩,?_⟩
 rintro⟨i,s⟩ ⟨n,rfl,hn,rfl⟩
 simp only[Int.toNat_natCast]
 refine⟨fun hlt=>?_,fun hge=>?_⟩
 ·have hl:n<a.length:=by omega
  refine⟨by omega,by omega,by omega,by omega,by omega,⟨n+1,by omega,by omega,(wsum_succ hl).symm⟩,by omega⟩
 ·obtain rfl:n=a.length:=by omega
  rw[List.take_length]
  unfold flB
  refine⟨by omega,fun hc=>⟨fun h8=>?_,fun h8=>?_⟩,fun hc=>?_⟩
  ·rw[hc,h8];rfl
  ·rw[hc,beq_eq_false_iff_ne.2 h8]
   simp only[beq_self_eq_true,Bool.true_and,Bool.false_or]
   rw[Bool.eq_iff_iff];simp
  ·rw[beq_eq_false_iff_ne.2 hc];rfl
theorem ct31:CtOk Tryz.prog G 18 e31:=by
 intro args r hr hp
 unfold e31 at hr
 split at hr<;>cases hr
 obtain⟨rfl,rfl,h⟩:=hp
 exact(sp31 _ _ h).caps
theorem ct54:CtOk Tryz.prog G 24 e54:=by
 intro args r hr hp
 unfold e54 at hr
 split at hr<;>cases hr
 rename_i l n c
 have:SpecP Tryz.prog G 24 [.imm (.vals l) n none] (.imm (.vals l) n (some n)) []:=by
  refine fnP_spec hcm hmx T0ok ok24 rfl (ob_o54 l n) ?_
  simp only[ltb_iff,ltb_no,leb_iff,leb_no,ltn_iff,ltn_no,len'_iff,len'_no,inR_i64,inR_u8,inR_i32,size_ints,size_bools,size_vals,size_cells,getD_drop,List.getElem?_drop,beq_iff_eq,beq_eq_false_iff_ne,bne_iff_ne,bne_eq_false_iff_eq,ne_eq,Nat.zero_add,Nat.add_zero,Nat.mul_one,Int.toNat_natCast,and_true,true_and,List.length_drop,List.length_append,List.length_cons,List.length_nil,List.length_set,List.getD_eq_getElem?_getD,implies_true,iI,iL,Bool.not_eq_true',Bool.not_eq_false',Int.natCast_inj]
  have hp:l.length=3*n:=hp
  omega
 exact this.caps
theorem V30ok (a k:List Int)(f:Int):TabOk Tryz.prog G (V30 a k f):=tabL_ok (ch30ok a k f) ⟨ct17,ct31,ct54,trivial⟩
/-! The units in a direction. -/
theorem tmod8 {f:Int}(h0:0≤f):∃r:Nat,f.tmod 8=r∧r<8:=by
 refine⟨f.toNat%8,?_,Nat.mod_lt _ (by decide)⟩
 obtain⟨m,rfl⟩:∃m:Nat,f=m:=⟨f.toNat,(Int.toNat_of_nonneg h0).symm⟩
 rfl
theorem ray_tab {r:Nat}(h:r<8):([AV.imm (Cont.vals [AV.int .i64 6,AV.int .u8 0,AV.int .u8 0]) 1 none,AV.imm (Cont.vals [AV.int .i64 12,AV.int .u8 2,AV.int .u8 0,AV.int .i64 13,AV.int .u8 2,AV.int .u8 0]) 2 none,AV.imm (Cont.vals [AV.int .i64 9,AV.int .u8 0,AV.int .u8 0]) 1 none,AV.imm (Cont.vals [AV.int .i64 8,AV.int .u8 1,AV.int .u8 0,AV.int .i64 10,AV.int .u8 1,AV.int .u8 0]) 2 none,AV.imm (Cont.vals [AV.int .i64 2,AV.int .u8 0,AV.int .u8 0]) 1 none,AV.imm (Cont.vals [AV.int .i64 0,AV.int .u8 2,AV.int .u8 0,AV.int .i64 1,AV.int .u8 2,AV.int .u8 0]) 2 none,AV.imm (Cont.vals [AV.int .i64 1,AV.int .u8 0,AV.int .u8 0]) 1 none,AV.imm (Cont.vals [AV.int .i64 4,AV.int .u8 1,AV.int .u8 0,AV.int .i64 6,AV.int .u8 1,AV.int .u8 0]) 2 none]:List AV)[r]? =some (AV.imm (Cont.vals (rayV r)) (rayN r) none):=by
 have:r=0∨r=1∨r=2∨r=3∨r=4∨r=5∨r=6∨r=7:=by omega
 rcases this with rfl|rfl|rfl|rfl|rfl|rfl|rfl|rfl<;>rfl
theorem ray_len (r:Int):rayN r≤2:=by
 unfold rayN rayL
 split<;>simp
theorem ray_vlen (r:Int):(rayV r).length=3*rayN r:=by
 unfold rayV flatC
 rw[RCr.flat_len,List.length_map]
 show(rayL r).length*3=3*(rayL r).length
 omega
theorem rayK_len (r x:Int):(rayK r x).length=rayN r:=by unfold rayK rayN;rw[List.length_map]
theorem ray_get {r:Int}{m:Nat}(h:m<rayN r):(rayV r)[m*3]? =some (.int .i64 (rcC r m))∧(rayV r)[m*3+1]? =some (.int .u8 (rcE r m))∧(rayV r)[m*3+2]? =some (.int .u8 0)∧∀x,(rayK r x)[m]? =some (rcC r m,rcE r m,x):=by
 have hl:m<(rayL r).length:=h
 have e:(rayL r)[m]? =some (rayL r)[m]:=List.getElem?_eq_getElem hl
 have key:∀j,j<3→(rayV r)[m*3+j]? =(RCr.av ((rayL r)[m].1,(rayL r)[m].2,0))[j]? :=fun j hj=>by
  unfold rayV flatC
  rw[flatMap_row (by decide:0<3) RCr.av_len,show(m*3+j)/3=m by omega,show(m*3+j)%3=j by omega,List.getElem?_map,e]
  rfl
 have c1:rcC r m=(rayL r)[m].1:=by unfold rcC;rw[Int.toNat_natCast,e];rfl
 have c2:rcE r m=(rayL r)[m].2:=by unfold rcE;rw[Int.toNat_natCast,e];rfl
 refine⟨?_,?_,?_,fun x=>?_⟩
 ·rw[c1];exact key 0 (by decide)
 ·rw[c2];exact key 1 (by decide)
 ·exact key 2 (by decide)
 ·unfold rayK;rw[List.getElem?_map,e,c1,c2];rfl
theorem flatC_app (a b:List Cr):flatC (a++b)=flatC a++flatC b:=by unfold flatC;rw[List.flatMap_append]
theorem flatC_len (l:List Cr):(flatC l).length=l.length*3:=RCr.flat_len l
theorem rawF_succ:∀{a k:List Int} {n:Nat} {f:Int},n<a.length→n<k.length→rawF (a.take (n+1)) (k.take (n+1)) f=rawF (a.take n) (k.take n) f++rayK ((f+(a.take n).sum).tmod 8) (k[n]?.getD 0)
 |x::a,y::k,0,f,_,_=>by simp[rawF]
 |x::a,y::k,n+1,f,h1,h2=>by
  have ih:=rawF_succ (f:=f+x) (by simpa using h1:n<a.length) (by simpa using h2:n<k.length)
  simp only[List.take_succ_cons,rawF]at ih ⊢
  rw[ih,List.append_assoc]
  simp[Int.add_assoc]
theorem rawF_len:∀(a k:List Int) (f:Int),(rawF a k f).length≤2*a.length
 |[],k,f=>by simp[rawF]
 |n::a,[],f=>by simp[rawF]
 |n::a,x::k,f=>by
  have:=rawF_len a k (f+n)
  have h2:=ray_len (f.tmod 8)
  simp only[rawF,List.length_append,rayK_len,List.length_cons]
  omega
theorem sum_take_le {a:List Int}(h:∀x∈a,1≤x)(n:Nat):0≤(a.take n).sum∧(a.take n).sum≤a.sum:=by
 have h1:a.sum=(a.take n++a.drop n).sum:=by rw[List.take_append_drop]
 rw[List.sum_append]at h1
 have h2:=len_sum (a.take n) fun x hx=>h x (List.mem_of_mem_take hx)
 have h3:=len_sum (a.drop n) fun x hx=>h x (List.mem_of_mem_drop hx)
 omega
theorem sum_succ {a:List Int}{n:Nat}(h:n<a.length):(a.take (n+1)).sum=(a.take n).sum+a[n]?.getD 0:=by
 have e:a[n]? =some a[n]:=List.getElem?_eq_getElem h
 rw[List.take_add_one,e,List.sum_append];simp
theorem pat_no {a k:List Int}{f:Int}(h:patE a k f≠0):bI (patE a k f==0) 2 0=0∧patL a k f=[]:=by
 unfold bI patL
 rw[if_neg h,beq_eq_false_iff_ne.2 h]
 exact⟨rfl,rfl⟩
theorem pat_yes {a k:List Int}{f:Int}(h:patE a k f=0):bI (patE a k f==0) 2 0=2∧patL a k f=sortL cmpCr (rawF a k f):=by
 unfold bI patL
 rw[if_pos h,h]
 exact⟨rfl,rfl⟩
theorem sp30 (a k:List Int)(f:Int)(hz:a.length<1000000000):SpecP Tryz.prog G 6 [fanV a k,.int .i64 f] (.tup [.agg [.int .i64 (bI (patE a k f==0) 2 0),.int .i64 (bI (patE a k f==0) 2 0),.imm (.vals (flatC (patL a k f))) (patL a k f).length (some (patL a k f).length)],.int .i64 (patE a k f)]) []:=by
 refine fnP_spec hcm hmx (V30ok a k f) ok6 rfl (ob_o30 a k f) ?_
 simp only[ltb_iff,ltb_no,leb_iff,leb_no,ltn_iff,ltn_no,len'_iff,len'_no,inR_i64,inR_u8,inR_i32,size_ints,size_bools,size_vals,size_cells,getD_drop,List.getElem?_drop,beq_iff_eq,beq_eq_false_iff_ne,bne_iff_ne,bne_eq_false_iff_eq,ne_eq,Nat.zero_add,Nat.add_zero,Nat.mul_one,Int.toNat_natCast,and_true,true_and,List.length_drop,List.length_append,List.length_cons,List.length_nil,List.length_set,List.getD_eq_getElem?_getD,implies_true,iI,iL,Bool.not_eq_true',Bool.not_eq_false',Int.natCast_inj]
 have no:∀e:Int,e≠0→patE a k f=e→0=bI (patE a k f==0) 2 0∧0=bI (patE a k f==0) 2 0∧(flatC (patL a k f)).length=0∧(patL a k f).length=0∧(patL a k f).length=0∧e=patE a k f:=fun e he h=>by
  obtain⟨h1,h2⟩:=pat_no (h▸he:patE a k f≠0)
  rw[h1,h2]
  exact⟨rfl,rfl,rfl,rfl,rfl,h.symm⟩
 refine⟨by omega,fun h=>no _ h (by unfold patE;rw[if_neg h]),fun hc=>⟨by omega,fun h=>no 14 (by decide) (by unfold patE;rw[if_pos hc,h];rfl),fun hfl=>⟨fun h=>no 1 (by decide) (by unfold patE;rw[if_pos hc,if_pos hfl,if_pos (.inl h)]),fun h0=>⟨fun h=>no 1 (by decide) (by unfold patE;rw[if_pos hc,if_pos hfl,if_pos (.inr h)]),fun h7=>?_⟩⟩⟩⟩
 obtain⟨c1,c2,c3⟩:=chk_ok hc
 have s3:=c2.2
 have hE:patE a k f=0:=by unfold patE;rw[if_pos hc,if_pos hfl,if_neg (by omega)]
 obtain⟨y1,y2⟩:=pat_yes hE
 refine⟨⟨0,rfl,by omega,by simp,by simp[rawF,flatC],by simp[rawF]⟩,?_⟩
 rintro⟨i,ff,l,m⟩ ⟨n,rfl,hn,rfl,rfl,rfl⟩
 simp only[Int.toNat_natCast]
 refine⟨fun hlt=>?_,fun hge=>?_⟩
 ·have hnl:n<a.length:=by omega
  have hnk:n<k.length:=by omega
  obtain⟨s1,s2⟩:=sum_take_le c2.1 n
  obtain⟨s4,s5⟩:=sum_take_le c2.1 (n+1)
  have s6:=sum_succ hnl
  obtain⟨r,er,hr⟩:=tmod8 (f:=f+(a.take n).sum) (by omega)
  have rl:=rawF_len (a.take n) (k.take n) f
  have hs:=rawF_succ (f:=f) hnl hnk
  rw[List.length_take]at rl
  rw[er]at hs ⊢
  simp only[Int.toNat_natCast]
  refine⟨by omega,by omega,by omega,by omega,by omega,by omega,ray_tab hr,⟨0,rfl,by omega,by simp[flatC],by omega⟩,?_⟩
  rintro⟨j,l2,n2⟩ ⟨m,rfl,hm,rfl,rfl⟩
  simp only[Int.toNat_natCast]
  have r2:=ray_len r
  refine⟨fun hjl=>?_,fun hjg=>?_⟩
  ·have hml:m<rayN r:=by omega
   obtain⟨g1,g2,g3,g4⟩:=ray_get hml
   have vl:=ray_vlen r
   have tk:(rayK r (k[n]?.getD 0)).take (m+1)=(rayK r (k[n]?.getD 0)).take m++[(rcC r m,rcE r m,k[n]?.getD 0)]:=by rw[List.take_add_one,g4];rfl
   refine⟨by omega,by omega,by omega,g1,g2,g3,by omega,by omega,by omega,by omega,by omega,by omega,⟨m+1,by omega,by omega,?_,by omega⟩,by omega⟩
   rw[tk,flatC_app,List.append_assoc];rfl
  ·obtain rfl:m=rayN r:=by omega
   have tk:(rayK r (k[n]?.getD 0)).take (rayN r)=rayK r (k[n]?.getD 0):=List.take_of_length_le (by rw[rayK_len];exact Nat.le_refl _)
   rw[tk]
   refine⟨by omega,by omega,⟨n+1,by omega,by omega,by omega,?_,?_⟩,by omega⟩
   ·rw[hs,flatC_app]
   ·rw[hs,List.length_append,rayK_len]
 ·obtain rfl:n=a.length:=by omega
  have tk:k.take a.length=k:=List.take_of_length_le (by omega)
  have rl:=rawF_len a k f
  have l8:=len_sum a c2.1
  have sl:(sortL cmpCr (rawF a k f)).length=(rawF a k f).length:=(sortL_perm swoCr _).1.length_eq
  rw[List.take_length,tk,y1,y2,flatC_len,sl]
  refine⟨⟨rfl,by omega⟩,by omega,rfl,rfl,rfl,rfl,rfl,hE.symm⟩
end Go.Proofs.YtfafinkgmhkdmaaGreatDoor.X
