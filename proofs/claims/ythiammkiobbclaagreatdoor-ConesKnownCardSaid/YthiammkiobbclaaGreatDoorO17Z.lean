/-
 What is to be shown of the functions (made by a program).
-/
import Derived.Test.YthiammkiobbclaaGreatDoorD18Z
set_option maxRecDepth 1000000
set_option linter.unusedVariables false
namespace Go.Proofs.YthiammkiobbclaaGreatDoor.X
open Go Go.Ab
open List IntKind
theorem D1U (c l:Int)(ks:List Int):fnP (T3) G 10000 fe3 (.r [] 0 (.r [] 5 (.r [] 1 (.cnd (.r [] 1 .nil) (.r [] 0 (.jn (j3a) [] [] (.r [] 0 .nil) (fun b=>(.r [] 1 (.frz 3 0 (.r [] 0 (.jn (j3b (ofA c l ks) (ofK c ks)) [7] [] (.lp (l3 (ofA c l ks) (ofK c ks)) [] [] (fun b_1=>(.rs 5 [] 0 27 (.r [] 13 (.cnd (.r [(708,.auto,Dr.val [A3X i64 (oA (ofA c l ks) b_1.i)]),yM 712,yM 713,yM 714,yM 715,(716,.may,Dr.val [A3X i64 (oA (ofA c l ks) b_1.i)]),yM 717] 131137 (.cnd (.r [] 0 (.cnd (.r [(835,.auto,Dr.val [A3X i64 (oA (ofA c l ks) b_1.i)])] 0 (.r [] 0 (.r [] 0 .nil))) (.r [] 0 (.r [] 0 .nil)))) (.r [] 0 .nil))) .nil)) (.r [] 3 (.lit .nil))))) (fun b_1=>(.r [] 13 (.r [] 13 (.r [yL 1091,yL 1092,yL 1093] 30 (.ff (.r [] 0 (.cnd (.r [yL 1283,yL 1288] 118 .nil) (.r [yL 1347,yL 1352] 236 .nil))))))))))))))))))) ([fV c l ks]) ([.bool true]) ([])=(
 (fun(A K:List Int)=>(fun(zz0:Nat)=>(fun(zz2:Nat)=>(qx (length ks) (okK ks))/\length A=length A/\(ltb 6 (↑(length A):Int)=true->true=true/\True)/\(ltb 6 (↑(length
 A):Int)=false->(1=1/\c=c/\l=l/\qs u8 ks (length A=length A/\qx (ofA c l ks) (length K=length K/\ofK c ks=ofK c ks/\1=1/\length A=length A/\length K=length K/\
 0=0/\iI 0=0/\0=0/\0=0/\True/\True)))/\∀(b:Unit),True->length A=length A/\(0<=(↑(length A):Int)/\(↑(length A):Int)<=6)/\length A=length A/\length K=length K
 /\(1=1/\c=c/\l=l/\qs u8 ks (length A=length A/\qx (ofA c l ks) (length K=length K/\ofK c ks=ofK c ks/\1=1/\length A=length A/\length K=length K/\Cont.vals [AV.imm
 (Cont.ints i64 A) (length A) none,AV.imm (Cont.ints u8 K) (length K) none]=Cont.vals [AV.imm (Cont.ints i64 A) (length A) none,AV.imm (Cont.ints u8 K) (length K) none]/\iI 0=0/\
 Cont.ints i64 []=Cont.ints i64 []/\0=0/\qx (Cont.vals (oV (A0V zz0))) (qx zz2 (iI 0=0/\(∃(m:Nat),0=(↑m:Int)/\m<=length (A0V (length A))/\0=(↑(length (A8A A K m)):
 Int)/\[]=hdL (A8A A K m)/\(A0l A K=false->m=0))/\∀(b_1:L3),(fun(zz4:Bool)=>(fun(zz3:Nat)=>(fun(zz1:Bool)=>(∃(m:Nat),b_1.i=(↑m:Int)/\m<=length (A0V
 (length A))/\b_1.n=(↑(length (A8A A K m)):Int)/\b_1.w=hdL (A8A A K m)/\(A0l A K=false->m=0))->(ltb b_1.i (↑zz2:Int)=true->(length A=length A/\length K=length K/\
 length A<1000000)/\(A0l A K=true->leb 0 b_1.i=true/\ltb b_1.i (↑zz2:Int)=true/\ltn 0 (Cont.size (Cont.vals (oV (A0V zz0))))=true/\(drop (Int.toNat b_1.i) (oV (A0V
 zz0)))[0]? =some (AV.imm (Cont.ints i64 (oA A b_1.i)) zz3 none)/\(length A=length A/\length K=length K/\qx zz3 (okA A/\length A=length K/\List.Perm (oA A b_1.i) (map (fun(i:
 Nat)=>(↑i:Int)) (range.loop (length A) []))))/\(zz1=true->zz1=true)/\(zz1=true->zz1=true)/\(zz1=true->leb 0 b_1.i=true)/\(zz1=true->ltb b_1.i (↑zz2:Int)=true)/\
 (zz1=true->ltn 0 (Cont.size (Cont.vals (oV (A0V zz0))))=true)/\(zz1=true->zz1=true)/\(zz1=true->(drop (Int.toNat b_1.i) (oV (A0V zz0)))[0]? =some (AV.imm (Cont.ints i64 (oA
 A b_1.i)) zz3 none))/\(zz1=true->zz1=true)/\(zz1=true->zz1=true)/\(zz1=true->length A=length A/\length K=length K/\qx zz3 (okA A/\List.Perm (oA A b_1.i) (map (fun(i:
 Nat)=>(↑i:Int)) (range.loop (length A) []))))/\(bif A3d A K (oA A b_1.i)==0 then A3d A K (oA A b_1.i)==0&&true else true)=true/\(zz4=true->((b_1.n==0)=true->leb 0
 b_1.i=true/\ltb b_1.i (↑zz2:Int)=true/\ltn 0 (Cont.size (Cont.vals (oV (A0V zz0))))=true/\(drop (Int.toNat b_1.i) (oV (A0V zz0)))[0]? =some (AV.imm (Cont.ints i64 (oA A b_1.i))
 zz3 none)/\inR i64 (b_1.n+1)=true/\inR i64 (b_1.i+1)=true/\1=1/\c=c/\l=l/\qs u8 ks (length A=length A/\qx (ofA c l ks) (length K=length K/\ofK c ks=ofK c ks/\1=
 1/\length A=length A/\length K=length K/\Cont.vals [AV.imm (Cont.ints i64 A) (length A) none,AV.imm (Cont.ints u8 K) (length K) none]=Cont.vals [AV.imm (Cont.ints i64 A) (length A)
 none,AV.imm (Cont.ints u8 K) (length K) none]/\qx (b_1.n+1) (qs i64 (oA A b_1.i) (qx (Cont.vals (oV (A0V zz0))) (qx zz2 (qx (b_1.i+1) ((∃(m:Nat),b_1.i+1=(↑m:Int)/\m<=
 length (A0V (length A))/\b_1.n+1=(↑(length (A8A A K m)):Int)/\oA A b_1.i=hdL (A8A A K m)/\(A0l A K=false->m=0))/\length (A0V (length A))-Int.toNat (b_1.i+1)<
 length (A0V (length A))-Int.toNat b_1.i/\True))))))))/\((b_1.n==0)=false->inR i64 (b_1.n+1)=true/\inR i64 (b_1.i+1)=true/\1=1/\c=c/\l=l/\qs u8 ks (length A=
 length A/\qx (ofA c l ks) (length K=length K/\ofK c ks=ofK c ks/\1=1/\length A=length A/\length K=length K/\Cont.vals [AV.imm (Cont.ints i64 A) (length A) none,AV.imm
 (Cont.ints u8 K) (length K) none]=Cont.vals [AV.imm (Cont.ints i64 A) (length A) none,AV.imm (Cont.ints u8 K) (length K) none]/\qx (b_1.n+1) (qs i64 b_1.w (qx (Cont.vals (oV (A0V
 zz0))) (qx zz2 (qx (b_1.i+1) ((∃(m:Nat),b_1.i+1=(↑m:Int)/\m<=length (A0V (length A))/\b_1.n+1=(↑(length (A8A A K m)):Int)/\b_1.w=hdL (A8A A K m)/\(A0l A K=
 false->m=0))/\length (A0V (length A))-Int.toNat (b_1.i+1)<length (A0V (length A))-Int.toNat b_1.i/\True)))))))))/\(zz4=false->inR i64 (b_1.i+1)=true/\1=1/\c=c/\
 l=l/\qs u8 ks (length A=length A/\qx (ofA c l ks) (length K=length K/\ofK c ks=ofK c ks/\1=1/\length A=length A/\length K=length K/\Cont.vals [AV.imm (Cont.ints i64 A)
 (length A) none,AV.imm (Cont.ints u8 K) (length K) none]=Cont.vals [AV.imm (Cont.ints i64 A) (length A) none,AV.imm (Cont.ints u8 K) (length K) none]/\b_1.n=b_1.n/\qs i64 b_1.w (qx
 (Cont.vals (oV (A0V zz0))) (qx zz2 (qx (b_1.i+1) ((∃(m:Nat),b_1.i+1=(↑m:Int)/\m<=length (A0V (length A))/\b_1.n=(↑(length (A8A A K m)):Int)/\b_1.w=hdL (A8A A K m)/\
 (A0l A K=false->m=0))/\length (A0V (length A))-Int.toNat (b_1.i+1)<length (A0V (length A))-Int.toNat b_1.i/\True))))))))/\(A0l A K=false->1=1/\c=c/\l=l/\qs u8
 ks (length A=length A/\qx (ofA c l ks) (length K=length K/\ofK c ks=ofK c ks/\1=1/\length A=length A/\length K=length K/\Cont.vals [AV.imm (Cont.ints i64 A) (length A)
 none,AV.imm (Cont.ints u8 K) (length K) none]=Cont.vals [AV.imm (Cont.ints i64 A) (length A) none,AV.imm (Cont.ints u8 K) (length K) none]/\b_1.n=b_1.n/\qs i64 b_1.w (qx (Cont.vals
 (oV (A0V zz0))) (qx zz2 ((b_1.n=(↑(length (A7R A K)):Int)/\b_1.w=hdL (A7R A K))/\True)))))))/\(ltb b_1.i (↑zz2:Int)=false->1=1/\c=c/\l=l/\qs u8 ks (length A=
 length A/\qx (ofA c l ks) (length K=length K/\ofK c ks=ofK c ks/\1=1/\length A=length A/\length K=length K/\Cont.vals [AV.imm (Cont.ints i64 A) (length A) none,AV.imm
 (Cont.ints u8 K) (length K) none]=Cont.vals [AV.imm (Cont.ints i64 A) (length A) none,AV.imm (Cont.ints u8 K) (length K) none]/\b_1.n=b_1.n/\qs i64 b_1.w (qx (Cont.vals (oV (A0V
 zz0))) (qx zz2 ((b_1.n=(↑(length (A7R A K)):Int)/\b_1.w=hdL (A7R A K))/\True))))))) (A3d A K (oA A b_1.i)==0)) (length (oA A b_1.i))) (bif A3d A K (oA A b_1.i)==0 then B5m
 (A0b A) (oA A b_1.i)else false))))))/\∀(b_1:J3),b_1.n=(↑(length (A7R A K)):Int)/\b_1.w=hdL (A7R A K)->(length A=length A/\length K=length K/\length A<1000000)/\
 (length A=length A/\length K=length K/\length A<1000000)/\(!A39 A K !=0)=true/\((↑(length (cwL A K)):Int) !=b_1.n)=false/\((b_1.n==0)=true->(B3V A K==7)=true/\
 ((↑(length (A4e A K)):Int)==0)=true/\true=true/\True)/\((b_1.n==0)=false->(B3V A K==0)=true/\(qx (length (A4e A K)) (qx (length b_1.w) (qx (length (A4e A K)) (length
 (A4e A K)<1000000000000))))/\decide (A4e A K=b_1.w)=true/\true=true/\True))) (length (A0V zz0))) (Int.toNat (↑(length A):Int))) (ofA c l ks) (ofK c ks)):=by kernel_rfl
open List IntKind
theorem C3J (a k:List Int)(u v:Int):fnP (T36) G 10000 C7O (.r [] 0 (.r [] 1 (.r [yM 214,yM 215,yM 216,yM 217,yM 218,yM 219,yM 220,yM 221,yM 222,yM 223,yM 224,yM 225,yM 226,yM 227,yM 228,yM 229,yM 230,yM 231,yM 232,yM 233,yM 234] 72057594037927936 .nil))) ([A2W a k,.int .i64 u,.int .i64 v]) ([.bool (B7Y (A0b a) u v)]) ([])=(
 (fun(zz5:List Int)=>(fun(zz4:List Int)=>(fun(zz3:List Int)=>(fun(zz2:List Int)=>(fun(zz1:Int)=>(fun(zz0:Int)=>(length a=length a/\length k=length k/\okA
 a)/\rd i64 (A0b a) u (inR i64 (u+1)=true/\rd i64 (A0b a) (u+1) (rd i64 (A0b a) v (inR i64 (v+1)=true/\rd i64 (A0b a) (v+1) ((ltb zz0 zz1=true->ltb zz0 zz1=true)/\
 (ltb zz0 zz1=true->ltb zz0 zz1=true)/\(ltb zz0 zz1=true->leb 0 v=true)/\(ltb zz0 zz1=true->ltb v (↑(length (A0b a)):Int)=true)/\(ltb zz0 zz1=true->ltn 0 (Cont.size
 (Cont.ints i64 (A0b a)))=true)/\(ltb zz0 zz1=true->ltb zz0 zz1=true)/\(ltb zz0 zz1=true->ltn 0 (Cont.size (Cont.ints i64 zz4))=true)/\(ltb zz0 zz1=true->ltb zz0 zz1=
 true)/\(ltb zz0 zz1=true->inR i64 (v+1)=true)/\(ltb zz0 zz1=true->ltb zz0 zz1=true)/\(ltb zz0 zz1=true->ltb zz0 zz1=true)/\(ltb zz0 zz1=true->leb 0 (v+1)=true)/\
 (ltb zz0 zz1=true->ltb (v+1) (↑(length (A0b a)):Int)=true)/\(ltb zz0 zz1=true->ltn 0 (Cont.size (Cont.ints i64 (A0b a)))=true)/\(ltb zz0 zz1=true->ltb zz0 zz1=true)
 /\(ltb zz0 zz1=true->ltn 0 (Cont.size (Cont.ints i64 zz2))=true)/\(ltb zz0 zz1=true->ltb zz0 zz1=true)/\(ltb zz0 zz1=true->ltb zz0 zz1=true)/\(ltb zz0 zz1=true->ltb zz0
 zz1=true)/\(ltb zz0 zz1=true->ltb zz0 zz1=true)/\(ltb zz0 zz1=true->leb 0 u=true)/\(ltb zz0 zz1=true->ltb u (↑(length (A0b a)):Int)=true)/\(ltb zz0 zz1=true->ltn
 0 (Cont.size (Cont.ints i64 (A0b a)))=true)/\(ltb zz0 zz1=true->ltb zz0 zz1=true)/\(ltb zz0 zz1=true->ltn 0 (Cont.size (Cont.ints i64 zz5))=true)/\(ltb zz0 zz1=true->ltb
 zz0 zz1=true)/\(ltb zz0 zz1=true->inR i64 (u+1)=true)/\(ltb zz0 zz1=true->ltb zz0 zz1=true)/\(ltb zz0 zz1=true->ltb zz0 zz1=true)/\(ltb zz0 zz1=true->leb 0 (u+1)
 =true)/\(ltb zz0 zz1=true->ltb (u+1) (↑(length (A0b a)):Int)=true)/\(ltb zz0 zz1=true->ltn 0 (Cont.size (Cont.ints i64 (A0b a)))=true)/\(ltb zz0 zz1=true->ltb zz0
 zz1=true)/\(ltb zz0 zz1=true->ltn 0 (Cont.size (Cont.ints i64 zz3))=true)/\(ltb zz0 zz1=true->ltb zz0 zz1=true)/\(ltb zz0 zz1=true->ltb zz0 zz1=true)/\(ltb zz0 zz1=
 true->ltb zz0 zz1=true)/\(ltb zz0 zz1=true->ltb zz0 zz1=true)/\(bif ltb zz0 zz1 then ltb zz0 zz1&&true else true)=true/\(bif ltb zz0 zz1 then ltb (if getD zz2 0 0<getD zz4 0
 0 then getD zz2 0 0 else getD zz4 0 0) (if getD zz3 0 0>getD zz5 0 0 then getD zz3 0 0 else getD zz5 0 0)else false)=B7Y (A0b a) u v/\True))))) (if getD zz3 0 0<getD zz5 0 0 then
 getD zz3 0 0 else getD zz5 0 0)) (if getD zz2 0 0>getD zz4 0 0 then getD zz2 0 0 else getD zz4 0 0)) (drop (Int.toNat (v+1)) (A0b a))) (drop (Int.toNat (u+1)) (A0b a))) (drop
 (Int.toNat v) (A0b a))) (drop (Int.toNat u) (A0b a))):=by kernel_rfl
theorem C3K (a k o:List Int):fnP (T15) G 10000 C7v (.r [] 0 (.r [] 0 (.r [] 0 (.r [] 0 (.lp (l15 (A0b a) o) [] [] (fun b=>(.r [] 0 (.cnd (.r [] 0 (.lp (m15 (A0b a) o (Int.toNat b.i)) [] [] (fun b_1=>(.r [] 0 (.cnd (.r [] 0 (.cnd (.r [] 0 .nil) (.r [] 0 (.r [] 0 (.jn (jB 9 (frO (A0b a) b_1.i (drop (Int.toNat b.i) o))) [10] [] (.lp (n15 (A0b a) o (Int.toNat b.i) b_1.i) [] [] (fun b_2=>(.rs 4 [] 0 33 (.r [] 48 (.cnd (.r [yM 962,yM 963,yM 964,yM 965,yM 966,yM 967,yM 968,yM 969] 8193 (.r [] 0 .nil)) .nil)) (.r [] 3 (.lit .nil))))) (fun b_2=>(.r [] 0 (.cnd (.r [] 0 .nil) (.r [] 0 .nil))))))))) (.r [] 0 (.r [] 0 .nil))))))) (.r [] 0 .nil))))))))) ([A2W a k,A3X .i64 o]) ([.bool (B5m (A0b a) o)]) ([])=(
 1=1/\qs i64 a (qs u8 k (8=8/\[false,false,false,false,false,false,false,false]=[false,false,false,false,false,false,false,false]/\qs i64 o (0=0/\ql o (0=0/\iI 0
 =0/\(∃(m:Nat),0=(↑m:Int)/\m<=length o/\[false,false,false,false,false,false,false,false]=[A1q (take m o) 0,A1q (take m o) 1,A1q (take m o) 2,A1q (take m o) 3,
 A1q (take m o) 4,A1q (take m o) 5,A1q (take m o) 6,A1q (take m o) 7]/\∀(j:Nat),j<m->B9W (A0b a) o j=true)/\∀(b:L15),(fun(zz3:Int)=>(fun(zz0:List Int)=>(∃
 (m:Nat),b.i=(↑m:Int)/\m<=length o/\b.t=[A1q (take m o) 0,A1q (take m o) 1,A1q (take m o) 2,A1q (take m o) 3,A1q (take m o) 4,A1q (take m o) 5,A1q (take m o) 6,A1q
 (take m o) 7]/\∀(j:Nat),j<m->B9W (A0b a) o j=true)->(ltb b.i (↑(length o):Int)=true->1=1/\qs i64 a (qs u8 k (8=8/\b.t=b.t/\qs i64 o (0=0/\ql o (0=0/\b.i=
 b.i/\iI 0=0/\(∃(p:Nat),0=(↑p:Int)/\(↑p:Int)<=gR o (↑(Int.toNat b.i):Int)/\∀(j:Nat),j<p->okI (A0b a) o (Int.toNat b.i) (↑j:Int)=true)/\∀(b_1:L83),(fun
 (zz2:Prop)=>(∃(p:Nat),b_1.i=(↑p:Int)/\(↑p:Int)<=gR o (↑(Int.toNat b.i):Int)/\∀(j:Nat),j<p->okI (A0b a) o (Int.toNat b.i) (↑j:Int)=true)->rd i64 o b.i ((ltb
 b_1.i (getD zz0 0 0)=true->leb 0 b_1.i=true/\ltb b_1.i 8=true/\ltn (Int.toNat b_1.i) (Cont.size (Cont.bools b.t))=true/\(getD b.t (Int.toNat b_1.i) false=true->inR i64 (b_1.i
 +1)=true/\1=1/\qs i64 a (qs u8 k (8=8/\b.t=b.t/\qs i64 o (0=0/\ql o (0=0/\b.i=b.i/\qx (b_1.i+1) (zz2/\Int.toNat zz3-Int.toNat (b_1.i+1)<Int.toNat zz3-
 Int.toNat b_1.i/\True))))))/\(getD b.t (Int.toNat b_1.i) false=false->(1=1/\qs i64 a (qs u8 k (8=8/\b.t=b.t/\qs i64 o (0=0/\ql o (0=0/\b.i=b.i/\b_1.i=b_1.i/\true=
 true/\b.i=b.i/\(∃(t:Nat),b.i=(↑t:Int)/\Int.toNat b.i<=t/\t<=length o/\frO (A0b a) b_1.i zz0=frO (A0b a) b_1.i (drop t o))/\∀(b_2:N15),(fun(zz1:List Int)=>
 (fun(zz4:Bool)=>(∃(t:Nat),b_2.k=(↑t:Int)/\Int.toNat b.i<=t/\t<=length o/\frO (A0b a) b_1.i zz0=(b_2.f&&frO (A0b a) b_1.i (drop t o)))->(ltb b_2.k (↑(length o):
 Int)=true->rd i64 o b_2.k (((getD zz1 0 0 !=b_1.i)=true->(b_2.f=true->b_2.f=true)/\(b_2.f=true->b_2.f=true)/\(b_2.f=true->leb 0 b_2.k=true)/\(b_2.f=true->ltb
 b_2.k (↑(length o):Int)=true)/\(b_2.f=true->ltn 0 (Cont.size (Cont.ints i64 o))=true)/\(b_2.f=true->b_2.f=true)/\(b_2.f=true->ltn 0 (Cont.size (Cont.ints i64 zz1))=
 true)/\(b_2.f=true->b_2.f=true)/\(b_2.f=true->b_2.f=true)/\(b_2.f=true->b_2.f=true)/\(b_2.f=true->length a=length a/\length k=length k/\okA a/\0<=getD zz1 0 0/\
 getD zz1 0 0<(↑(length a):Int)/\0<=b_1.i/\b_1.i<(↑(length a):Int))/\(b_2.f=true->b_2.f=true)/\(bif b_2.f then b_2.f&&true else true)=true/\inR i64 (b_2.k+1)=true/\
 1=1/\qs i64 a (qs u8 k (8=8/\b.t=b.t/\qs i64 o (0=0/\ql o (0=0/\b.i=b.i/\b_1.i=b_1.i/\(zz4=bif b_2.f then !B7Y (A0b a) (getD zz1 0 0) b_1.i else false)/\qx (b_2.k
 +1) ((∃(t:Nat),b_2.k+1=(↑t:Int)/\Int.toNat b.i<=t/\t<=length o/\frO (A0b a) b_1.i zz0=(zz4&&frO (A0b a) b_1.i (drop t o)))/\length o-Int.toNat (b_2.k+1)<length
 o-Int.toNat b_2.k/\True))))))/\((getD zz1 0 0 !=b_1.i)=false->1=1/\qs i64 a (qs u8 k (8=8/\b.t=b.t/\qs i64 o (0=0/\ql o (0=0/\b.i=b.i/\b_1.i=b_1.i/\b_2.f=b_2.f
 /\b_2.f=frO (A0b a) b_1.i zz0/\True)))))))/\(ltb b_2.k (↑(length o):Int)=false->1=1/\qs i64 a (qs u8 k (8=8/\b.t=b.t/\qs i64 o (0=0/\ql o (0=0/\b.i=b.i/\b_1.i=
 b_1.i/\b_2.f=b_2.f/\b_2.f=frO (A0b a) b_1.i zz0/\True)))))) (bif b_2.f then !B7Y (A0b a) (getD zz1 0 0) b_1.i else false)) (drop (Int.toNat b_2.k) o))))))/\∀(b_2:VB),b_2.v=
 frO (A0b a) b_1.i zz0->(b_2.v=true->false=B5m (A0b a) o/\True)/\(b_2.v=false->inR i64 (b_1.i+1)=true/\1=1/\qs i64 a (qs u8 k (8=8/\b.t=b.t/\qs i64 o (0=0/\ql
 o (0=0/\b.i=b.i/\qx (b_1.i+1) (zz2/\Int.toNat zz3-Int.toNat (b_1.i+1)<Int.toNat zz3-Int.toNat b_1.i/\True))))))))/\(ltb b_1.i (getD zz0 0 0)=false->rd i64 o b.i (leb 0
 (getD zz0 0 0)=true/\ltb (getD zz0 0 0) 8=true/\A0R (Int.toNat (getD zz0 0 0)+1) (Cont.size (Cont.bools b.t))=true/\inR i64 (b.i+1)=true/\1=1/\qs i64 a (qs u8 k (8=8/\
 qx (set b.t (Int.toNat (getD zz0 0 0)) true) (qs i64 o (0=0/\ql o (0=0/\b.i+1=b.i+1/\(∃(m:Nat),b.i+1=(↑m:Int)/\m<=length o/\set b.t (Int.toNat (getD zz0 0 0)) true
 =[A1q (take m o) 0,A1q (take m o) 1,A1q (take m o) 2,A1q (take m o) 3,A1q (take m o) 4,A1q (take m o) 5,A1q (take m o) 6,A1q (take m o) 7]/\∀(j:Nat),j<m->B9W (A0b
 a) o j=true)/\length o-Int.toNat (b.i+1)<length o-Int.toNat b.i/\True))))))))) (∃(p:Nat),b_1.i+1=(↑p:Int)/\(↑p:Int)<=gR o (↑(Int.toNat b.i):Int)/\∀(j:Nat),j
 <p->okI (A0b a) o (Int.toNat b.i) (↑j:Int)=true))))))/\(ltb b.i (↑(length o):Int)=false->true=B5m (A0b a) o/\True)) (drop (Int.toNat b.i) o)) (gR o (↑(Int.toNat b.i):
 Int))))))):=by kernel_rfl
theorem C3L (q:Nat)(n:Int):fnP (T12 q) G 10000 C4u (.r [] 0 (.r [] 0 (.ff (.r [] 0 (.r [] 0 (.r [] 0 (.gho 4 9700 1 (Cont.vals []) (.lp (l12 q) [] [] (fun b=>(.r [] 0 (.cnd (.r [] 0 (.lp (m12 q (Int.toNat b.i)) [] [] (fun b_1=>(.r [] 0 (.cnd (.r [] 0 (.jn (j12 b.i) [] [] (.r [] 0 .nil) (fun b_2=>(.lp (n12 q b.i b_1.i) [] [] (fun b_3=>(.r [(900,.auto,Dr.val [A3X i64 (oN q b_1.i)])] 0 (.cnd (.r [(1027,.auto,Dr.val [A3X i64 (oN q b_1.i)])] 0 (.jn (jI 9 i64 (upI b.i (gR (oN q b_1.i) b_3.k))) [] [] (.r [] 0 (.cnd (.r [] 0 .nil) .nil)) (fun b_4=>(.r [] 4 (.r [] 0 .nil))))) (.frz 7 0 (.r [] 4 (.r [] 0 .nil)))))))))) (.r [] 0 .nil)))))) (.frz 4 0 (.r [] 0 .nil))))))))))))) ([.int .i64 n]) ([.imm (.vals (oV (A0V (q+1)))) (A0V (q+1)).length none]) ([])=(
 (fun(zz1:Nat)=>(n==0)=false/\inR i64 (n-1)=true/\n-1=(↑q:Int)/\0=0/\([]:List AV)=[]/\n=n/\qx (Cont.vals (oV (A0V q))) (qx zz1 (0=0/\iI 0=0/\(∃(m:
 Nat),0=(↑m:Int)/\m<=q+1/\[]=flatMap (fun(f:Nat)=>A5G (↑f:Int) (A0V q)) (range.loop m []))/\∀(b:L12),(∃(m:Nat),b.i=(↑m:Int)/\m<=q+1/\b.L=flatMap (fun
 (f:Nat)=>A5G (↑f:Int) (A0V q)) (range.loop m []))->(ltb b.i n=true->length b.L=length (unN (oV b.L))/\oV b.L=oV (unN (oV b.L))/\n=n/\qx (Cont.vals (oV (A0V q))) (qx zz1
 (length b.L=length (unN (oV b.L))/\b.i=b.i/\iI 0=0/\(∃(m:Nat),0=(↑m:Int)/\m<=length (A0V q)/\unN (oV b.L)=flatMap (fun(f:Nat)=>A5G (↑f:Int) (A0V q))
 (range.loop (Int.toNat b.i) [])++A5G (↑(Int.toNat b.i):Int) (take m (A0V q)))/\∀(b_1:L12),(fun(zz2:Nat)=>(∃(m:Nat),b_1.i=(↑m:Int)/\m<=length (A0V q)/\b_1.L=
 flatMap (fun(f:Nat)=>A5G (↑f:Int) (A0V q)) (range.loop (Int.toNat b.i) [])++A5G (↑(Int.toNat b.i):Int) (take m (A0V q)))->(ltb b_1.i (↑zz1:Int)=true->(qx (length b_1.L)
 (oV b_1.L=oV b_1.L/\1=1/\[b.i]=[b.i]/\n=n/\qx (Cont.vals (oV (A0V q))) (qx zz1 (qx (length b_1.L) (b.i=b.i/\b_1.i=b_1.i/\1=1/\iI 0=0/\True/\True)))))/\∀(b_2:
 Unit),True->qx (length b_1.L) (oV b_1.L=oV b_1.L/\1=1/\[b.i]=[b.i]/\n=n/\qx (Cont.vals (oV (A0V q))) (qx zz1 (qx (length b_1.L) (b.i=b.i/\b_1.i=b_1.i/\1=1/\iI 0=0/\
 (∃(m:Nat),0=(↑m:Int)/\m<=length (oN q b_1.i)/\[b.i]=b.i::map (upI b.i) (take m (oN q b_1.i)))/\∀(b_3:N12),(fun(zz0:List Int)=>(∃(m:Nat),b_3.k=(↑m:Int)/\m<=
 length (oN q b_1.i)/\b_3.o=b.i::map (upI b.i) (take m (oN q b_1.i)))->leb 0 b_1.i=true/\ltb b_1.i (↑zz1:Int)=true/\ltn 0 (Cont.size (Cont.vals (oV (A0V q))))=true/\(drop
 (Int.toNat b_1.i) (oV (A0V q)))[0]? =some (AV.imm (Cont.ints i64 (oN q b_1.i)) zz2 none)/\(ltb b_3.k (↑zz2:Int)=true->leb 0 b_1.i=true/\ltb b_1.i (↑zz1:Int)=true/\ltn 0
 (Cont.size (Cont.vals (oV (A0V q))))=true/\(drop (Int.toNat b_1.i) (oV (A0V q)))[0]? =some (AV.imm (Cont.ints i64 (oN q b_1.i)) zz2 none)/\rd i64 (oN q b_1.i) b_3.k (((leb b.i (getD
 zz0 0 0)=true->inR i64 (getD zz0 0 0+1)=true/\qx (length b_1.L) (oV b_1.L=oV b_1.L/\qx (length b_3.o) (b_3.o=b_3.o/\n=n/\qx (Cont.vals (oV (A0V q))) (qx zz1 (qx (length
 b_1.L) (b.i=b.i/\b_1.i=b_1.i/\qx (length b_3.o) (b_3.k=b_3.k/\qx (getD zz0 0 0+1) (getD zz0 0 0+1=upI b.i (gR (oN q b_1.i) b_3.k)/\True))))))))/\(leb b.i (getD zz0 0 0)=
 false->qx (length b_1.L) (oV b_1.L=oV b_1.L/\qx (length b_3.o) (b_3.o=b_3.o/\n=n/\qx (Cont.vals (oV (A0V q))) (qx zz1 (qx (length b_1.L) (b.i=b.i/\b_1.i=b_1.i/\qx (length
 b_3.o) (b_3.k=b_3.k/\qx (getD zz0 0 0) (getD zz0 0 0=upI b.i (gR (oN q b_1.i) b_3.k)/\True)))))))))/\∀(b_4:VI),b_4.v=upI b.i (gR (oN q b_1.i) b_3.k)->qx (length b_3.o) (A0R
 ((length b_3.o+1)*8) 140737488355328=true/\inR i64 (b_3.k+1)=true/\qx (length b_1.L) (oV b_1.L=oV b_1.L/\length b_3.o+1=length (b_3.o++[b_4.v])/\b_3.o++[b_4.v]=
 b_3.o++[b_4.v]/\n=n/\qx (Cont.vals (oV (A0V q))) (qx zz1 (qx (length b_1.L) (b.i=b.i/\b_1.i=b_1.i/\length b_3.o+1=length (b_3.o++[b_4.v])/\qx (b_3.k+1) ((∃(m:Nat),
 b_3.k+1=(↑m:Int)/\m<=length (oN q b_1.i)/\b_3.o++[b_4.v]=b.i::map (upI b.i) (take m (oN q b_1.i)))/\length (oN q b_1.i)-Int.toNat (b_3.k+1)<length (oN q b_1.i)-
 Int.toNat b_3.k/\True))))))))/\(ltb b_3.k (↑zz2:Int)=false->qx (length b_3.o) (qx (length b_1.L) (A0R ((length b_1.L+1)*24) 140737488355328=true/\inR i64 (b_1.i+1)=true/\
 length b_1.L+1=length (unN (oV b_1.L++[AV.imm (Cont.ints i64 b_3.o) (length b_3.o) none]))/\oV b_1.L++[AV.imm (Cont.ints i64 b_3.o) (length b_3.o) none]=oV (unN (oV b_1.L++
 [AV.imm (Cont.ints i64 b_3.o) (length b_3.o) none]))/\n=n/\qx (Cont.vals (oV (A0V q))) (qx zz1 (length b_1.L+1=length (unN (oV b_1.L++[AV.imm (Cont.ints i64 b_3.o) (length b_3.o)
 none]))/\b.i=b.i/\qx (b_1.i+1) ((∃(m:Nat),b_1.i+1=(↑m:Int)/\m<=length (A0V q)/\unN (oV b_1.L++[AV.imm (Cont.ints i64 b_3.o) (length b_3.o) none])=flatMap (fun(f:
 Nat)=>A5G (↑f:Int) (A0V q)) (range.loop (Int.toNat b.i) [])++A5G (↑(Int.toNat b.i):Int) (take m (A0V q)))/\length (A0V q)-Int.toNat (b_1.i+1)<length (A0V q)-Int.toNat
 b_1.i/\True))))))) (drop (Int.toNat b_3.k) (oN q b_1.i)))))))/\(ltb b_1.i (↑zz1:Int)=false->inR i64 (b.i+1)=true/\length b_1.L=length (unN (oV b_1.L))/\oV b_1.L=oV (unN (oV
 b_1.L))/\n=n/\qx (Cont.vals (oV (A0V q))) (qx zz1 (length b_1.L=length (unN (oV b_1.L))/\b.i+1=b.i+1/\(∃(m:Nat),b.i+1=(↑m:Int)/\m<=q+1/\unN (oV b_1.L)=flatMap
 (fun(f:Nat)=>A5G (↑f:Int) (A0V q)) (range.loop m []))/\q+1-Int.toNat (b.i+1)<q+1-Int.toNat b.i/\True)))) (length (oN q b_1.i)))))/\(ltb b.i n=false->qx (length
 b.L) (Cont.vals (oV b.L)=Cont.vals (oV (A0V (q+1)))/\length b.L=length (A0V (q+1))/\True))))) (length (A0V q))):=by kernel_rfl
theorem C3M:fnP (T0) G 10000 C4u (.r [] 0 (.r [] 0 (.lit (.r [] 0 (.frz 2 3 .nil))))) ([.int .i64 0]) ([.imm (.vals [A10 .i64 []]) 1 (some 1)]) ([])=(
 Cont.vals [AV.imm (Cont.ints i64 []) 0 (some 0)]=Cont.vals [AV.imm (Cont.ints i64 []) 0 (some 0)]/\1=1/\1=1/\True):=by kernel_rfl
end Go.Proofs.YthiammkiobbclaaGreatDoor.X
