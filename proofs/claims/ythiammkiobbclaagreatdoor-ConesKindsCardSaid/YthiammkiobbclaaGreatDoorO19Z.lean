/-
 What is to be shown of the functions (made by a program).
-/
import Derived.Test.YthiammkiobbclaaGreatDoorD19Z
import Derived.KernelRfl
set_option maxRecDepth 1000000
set_option linter.unusedVariables false
namespace Go.Proofs.YthiammkiobbclaaGreatDoor.X
open Go Go.Ab
open List IntKind

theorem ob_o4 (c l:Int)(ks:List Int):fnP (T4k) G 10000 fe4 (.r [] 0 (.r [] 5 (.r [] 1 (.r [] 0 (.cnd (.r [] 1 .nil) (.r [] 49 (.r [] 49 (.frz 3 0 (.r [yL 515,yL 516,yL 519,yL 520,yL 521,yL 522,yL 523] 2030 (.cnd (.r [] 0 .nil) (.r [] 0 (.r [] 0 (.lp (l4 (ofA c l ks) (ofK c ks)) [] [] (fun b=>(.r [] 2 (.cnd (.r [] 3 (.ghc 899 1 9001 1 (Cont.ints u8 []) (.r [] 0 (.r [] 0 (.lp (i4 (ofA c l ks) (ofK c ks) b.m) [] [] (fun b_1=>(.r [] 0 (.cnd (.r [] 8 (.rs 2 [] 0 75 (.rs 7 [] 1 82 (.r [] 15 (.r [] 25 (.r [] 0 .nil))) (.r [] 481 (.r [] 25 (.r [] 0 .nil)))) (.r [] 3 (.r [] 25 (.r [] 0 .nil))))) (.frz 12 0 (.r [] 13 (.r [] 0 (.cnd (.r [] 0 .nil) (.rs 3 [] 0 107 (.r [] 3 (.lit (.r [] 0 .nil))) (.r [] 3 (.cnd (.r [] 0 .nil) (.r [yM 1669,yM 1670,yM 1671,(1672,.may,Dr.val [immL i64 (ofA c l ks),immL u8 (kA (ofA c l ks) (ofK c ks) b.t)]),yM 1673,yM 1674,yM 1675,yM 1678,yM 1679,yM 1680,yM 1681,(1682,.may,Dr.val [immL i64 (ofA c l ks)]),yM 1683,yM 1684,yM 1685,yM 1688,yM 1689,yM 1690,yM 1691,(1692,.may,Dr.val [immL u8 (kA (ofA c l ks) (ofK c ks) b.t)]),yM 1693,yM 1694,yM 1695] 549822931200 (.cnd (.r [] 0 .nil) (.r [] 13 (.rs 3 [] 0 151 (.r [] 3 (.lit (.r [] 0 .nil))) (.r [] 3 (.cnd (.r [] 0 .nil) (.r [] 0 (.r [] 0 (.r [] 0 .nil)))))))))))))))))))))))) (.rs 5 [] 0 164 (.rs 5 [] 3 169 (.r [] 7 .nil) (.r [] 3 .nil)) (.r [] 15 .nil)))))))))))))))))) ([fV c l ks]) ([.bool true]) ([])=(
 (fun(A K:List Int)=>(fun(zz12:Nat)=>(fun(zz7:Nat)=>(fun(zz2:Nat)=>(qx (length ks) (okK ks))∧length K=length K∧(ltb 6 (↑(length K):Int)=true→true=true∧
 True)∧(ltb 6 (↑(length K):Int)=false→length A=length A∧length K=length K∧(length A=length A∧length K=length K∧length A<1000000∧length K<1000000)∧length A=
 length A∧length K=length K∧(length A=length A∧length K=length K∧length A<1000000)∧length A=length A∧length K=length K∧(!chk A K !=0)=true∧(!cntE A K !=0)=
 true∧(((↑zz2:Int) !=(↑zz2:Int))=true→false=true∧True)∧(((↑zz2:Int) !=(↑zz2:Int))=false→1=1∧c=c∧l=l∧qs u8 ks (length A=length A∧qx (ofA c l ks)
 (length K=length K∧ofK c ks=ofK c ks∧1=1∧length A=length A∧length K=length K∧Cont.vals [AV.imm (Cont.ints i64 A) (length A) none,AV.imm (Cont.ints u8 K) (length K) none]
 =Cont.vals [AV.imm (Cont.ints i64 A) (length A) none,AV.imm (Cont.ints u8 K) (length K) none]∧ql K (qx (Cont.vals (fnsV A (kndsL A K))) (qx zz2 (qx zz2 (qx (↑zz7:Int) (iI 0=0∧iI 0
 =0∧iI 0=0∧(∃(m:Nat),0=(↑m:Int)∧m≤2 ^ length K∧0=(↑(length (kN A K m)):Int)∧0=sumC A (kN A K m))∧∀(b:L4),(fun(zz10:Nat)=>(fun(zz9:Prop)=>(fun(zz4
 :Bool)=>(∃(m:Nat),b.m=(↑m:Int)∧m≤2 ^ length K∧b.t=(↑(length (kN A K m)):Int)∧b.s=sumC A (kN A K m))→inR i64 (1*2 ^ min zz12 64)=true∧(ltb b.m (1*2 ^ min
 zz12 64)=true→1=1∧c=c∧l=l∧qs u8 ks (length A=length A∧qx (ofA c l ks) (length K=length K∧ofK c ks=ofK c ks∧1=1∧length A=length A∧length K=length K∧1=
 1∧qs i64 A (0=0∧0=0∧iL []=[]∧Cont.vals [AV.imm (Cont.ints i64 A) (length A) none,AV.imm (Cont.ints u8 K) (length K) none]=Cont.vals [AV.imm (Cont.ints i64 A) (length A)
 none,AV.imm (Cont.ints u8 K) (length K) none]∧ql K (qx (Cont.vals (fnsV A (kndsL A K))) (qx zz2 (qx zz2 (qx (↑zz7:Int) (b.t=b.t∧b.s=b.s∧b.m=b.m∧0=0∧true=true∧iI 0=
 0∧(∃(i:Nat),0=(↑i:Int)∧i≤length K∧true=fitT K (hM (length K) b.m) i∧[]=take i (hM (length K) b.m))∧∀(b_1:I4),(fun(zz11:Nat)=>(fun(zz8:Bool)=>(fun(zz5:
 Bool)=>(fun(zz3:Nat)=>(fun(zz6:Bool)=>(fun(zz1:Bool)=>(fun(zz0:Bool)=>(∃(i:Nat),b_1.i=(↑i:Int)∧i≤length K∧b_1.f=fitT K (hM (length K) b.m) i∧b_1.h=
 take i (hM (length K) b.m))→(ltb b_1.i (↑(length K):Int)=true→inR i64 ((↑(length K):Int)-1)=true∧inR i64 ((↑(length K):Int)-1-b_1.i)=true∧leb 0 ((↑(length K):Int)
 -1-b_1.i)=true∧inR i64 (1+Int.tmod (Int.fdiv b.m (2 ^ min zz3 64)) 2)=true∧inR u8 (1+Int.tmod (Int.fdiv b.m (2 ^ min zz3 64)) 2)=true∧(b_1.f=true→rd u8 K b_1.i (((getD
 (drop (Int.toNat b_1.i) K) 0 0==3)=true→qx (length b_1.h) (len' ((length b_1.h+1)*1) 140737488355328=true∧inR i64 (b_1.i+1)=true∧1=1∧c=c∧l=l∧qs u8 ks (length
 A=length A∧qx (ofA c l ks) (length K=length K∧ofK c ks=ofK c ks∧1=1∧length A=length A∧length K=length K∧1=1∧qs i64 A (length b_1.h+1=length (b_1.h++[1+
 Int.tmod (Int.fdiv b.m (2 ^ min zz3 64)) 2])∧length b_1.h+1=length (b_1.h++[1+Int.tmod (Int.fdiv b.m (2 ^ min zz3 64)) 2])∧b_1.h++[1+Int.tmod (Int.fdiv b.m (2 ^ min zz3 64))
 2]=b_1.h++[1+Int.tmod (Int.fdiv b.m (2 ^ min zz3 64)) 2]∧Cont.vals [AV.imm (Cont.ints i64 A) (length A) none,AV.imm (Cont.ints u8 K) (length K) none]=Cont.vals [AV.imm (Cont.ints
 i64 A) (length A) none,AV.imm (Cont.ints u8 K) (length K) none]∧ql K (qx (Cont.vals (fnsV A (kndsL A K))) (qx zz2 (qx zz2 (qx (↑zz7:Int) (b.t=b.t∧b.s=b.s∧b.m=b.m∧0=0∧
 true=true∧qx (b_1.i+1) ((∃(i:Nat),b_1.i+1=(↑i:Int)∧i≤length K∧true=fitT K (hM (length K) b.m) i∧b_1.h++[1+Int.tmod (Int.fdiv b.m (2 ^ min zz3 64)) 2]=take i
 (hM (length K) b.m))∧length K-Int.toNat (b_1.i+1)<length K-Int.toNat b_1.i∧True)))))))))))∧((getD (drop (Int.toNat b_1.i) K) 0 0==3)=false→rd u8 K b_1.i (qx (length
 b_1.h) (len' ((length b_1.h+1)*1) 140737488355328=true∧inR i64 (b_1.i+1)=true∧1=1∧c=c∧l=l∧qs u8 ks (length A=length A∧qx (ofA c l ks) (length K=length K∧ofK
 c ks=ofK c ks∧1=1∧length A=length A∧length K=length K∧1=1∧qs i64 A (length b_1.h+1=length (b_1.h++[1+Int.tmod (Int.fdiv b.m (2 ^ min zz3 64)) 2])∧length b_1.h+
 1=length (b_1.h++[1+Int.tmod (Int.fdiv b.m (2 ^ min zz3 64)) 2])∧b_1.h++[1+Int.tmod (Int.fdiv b.m (2 ^ min zz3 64)) 2]=b_1.h++[1+Int.tmod (Int.fdiv b.m (2 ^ min zz3 64)) 2]
 ∧Cont.vals [AV.imm (Cont.ints i64 A) (length A) none,AV.imm (Cont.ints u8 K) (length K) none]=Cont.vals [AV.imm (Cont.ints i64 A) (length A) none,AV.imm (Cont.ints u8 K) (length K)
 none]∧ql K (qx (Cont.vals (fnsV A (kndsL A K))) (qx zz2 (qx zz2 (qx (↑zz7:Int) (b.t=b.t∧b.s=b.s∧b.m=b.m∧0=0∧zz6=zz6∧qx (b_1.i+1) ((∃(i:Nat),b_1.i+1=(↑i:
 Int)∧i≤length K∧zz6=fitT K (hM (length K) b.m) i∧b_1.h++[1+Int.tmod (Int.fdiv b.m (2 ^ min zz3 64)) 2]=take i (hM (length K) b.m))∧length K-Int.toNat (b_1.i+1)<length
 K-Int.toNat b_1.i∧True))))))))))))))∧(b_1.f=false→qx (length b_1.h) (len' ((length b_1.h+1)*1) 140737488355328=true∧inR i64 (b_1.i+1)=true∧1=1∧c=c∧l=l∧qs
 u8 ks (length A=length A∧qx (ofA c l ks) (length K=length K∧ofK c ks=ofK c ks∧1=1∧length A=length A∧length K=length K∧1=1∧qs i64 A (length b_1.h+1=length
 (b_1.h++[1+Int.tmod (Int.fdiv b.m (2 ^ min zz3 64)) 2])∧length b_1.h+1=length (b_1.h++[1+Int.tmod (Int.fdiv b.m (2 ^ min zz3 64)) 2])∧b_1.h++[1+Int.tmod (Int.fdiv b.m (2
 ^ min zz3 64)) 2]=b_1.h++[1+Int.tmod (Int.fdiv b.m (2 ^ min zz3 64)) 2]∧Cont.vals [AV.imm (Cont.ints i64 A) (length A) none,AV.imm (Cont.ints u8 K) (length K) none]=Cont.vals
 [AV.imm (Cont.ints i64 A) (length A) none,AV.imm (Cont.ints u8 K) (length K) none]∧ql K (qx (Cont.vals (fnsV A (kndsL A K))) (qx zz2 (qx zz2 (qx (↑zz7:Int) (b.t=b.t∧b.s=b.s∧b.m
 =b.m∧0=0∧false=false∧qx (b_1.i+1) ((∃(i:Nat),b_1.i+1=(↑i:Int)∧i≤length K∧false=fitT K (hM (length K) b.m) i∧b_1.h++[1+Int.tmod (Int.fdiv b.m (2 ^ min zz3
 64)) 2]=take i (hM (length K) b.m))∧length K-Int.toNat (b_1.i+1)<length K-Int.toNat b_1.i∧True))))))))))))∧(ltb b_1.i (↑(length K):Int)=false→qx (length b_1.h) ((length
 A=length A∧qx (length b_1.h) (length A<1000000000∧length b_1.h<1000000000))∧((dcd A b_1.h !=0)=true→false=true∧True)∧((dcd A b_1.h !=0)=false→((!b_1.f)=true→
 inR i64 (b.m+1)=true∧1=1∧c=c∧l=l∧qs u8 ks (length A=length A∧qx (ofA c l ks) (length K=length K∧ofK c ks=ofK c ks∧1=1∧length A=length A∧length K=
 length K∧Cont.vals [AV.imm (Cont.ints i64 A) (length A) none,AV.imm (Cont.ints u8 K) (length K) none]=Cont.vals [AV.imm (Cont.ints i64 A) (length A) none,AV.imm (Cont.ints u8 K)
 (length K) none]∧ql K (qx (Cont.vals (fnsV A (kndsL A K))) (qx zz2 (qx zz2 (qx (↑zz7:Int) (b.t=b.t∧b.s=b.s∧b.m+1=b.m+1∧zz9∧2 ^ length K-Int.toNat (b.m+1)<2 ^
 length K-Int.toNat b.m∧True))))))))∧((!b_1.f)=false→((!(okD A b_1.h&&foldB A b_1.h))=true→inR i64 (b.m+1)=true∧1=1∧c=c∧l=l∧qs u8 ks (length A=length A∧
 qx (ofA c l ks) (length K=length K∧ofK c ks=ofK c ks∧1=1∧length A=length A∧length K=length K∧Cont.vals [AV.imm (Cont.ints i64 A) (length A) none,AV.imm (Cont.ints u8 K)
 (length K) none]=Cont.vals [AV.imm (Cont.ints i64 A) (length A) none,AV.imm (Cont.ints u8 K) (length K) none]∧ql K (qx (Cont.vals (fnsV A (kndsL A K))) (qx zz2 (qx zz2 (qx (↑zz7:Int)
 (b.t=b.t∧b.s=b.s∧b.m+1=b.m+1∧zz9∧2 ^ length K-Int.toNat (b.m+1)<2 ^ length K-Int.toNat b.m∧True))))))))∧((!(okD A b_1.h&&foldB A b_1.h))=false→(zz4=true
 →zz4=true)∧(zz4=true→zz4=true)∧(zz4=true→leb 0 b.t=true)∧(zz4=true→ltb b.t (↑zz2:Int)=true)∧(zz4=true→ltn 0 (Cont.size (Cont.vals (fnsV A (kndsL A K))))=
 true)∧(zz4=true→zz4=true)∧(zz4=true→(drop (Int.toNat b.t*2) (fnsV A (kndsL A K)))[0]? =some (AV.imm (Cont.ints i64 A) (length A) (some (length A))))∧(zz4=true→(drop
 (Int.toNat b.t*2) (fnsV A (kndsL A K)))[1]? =some (AV.imm (Cont.ints u8 (kA A K b.t)) zz10 (some zz10)))∧(zz4=true→zz4=true)∧(zz4=true→zz4=true)∧(zz4=true→length A=
 length A∧qx zz10 (length A=length A∧qx (length b_1.h) (length A<1000000000000∧length (kA A K b.t)<1000000000000)))∧(zz4=true→zz4=true)∧(bif leb (↑zz2:Int) b.t then
 true else !leb (↑zz2:Int) b.t&&true)=true∧(zz1=true→zz1=true)∧(zz1=true→zz1=true)∧(zz1=true→leb 0 b.t=true)∧(zz1=true→ltb b.t (↑zz2:Int)=true)∧(zz1
 =true→ltn 0 (Cont.size (Cont.vals (fnsV A (kndsL A K))))=true)∧(zz1=true→zz1=true)∧(zz1=true→zz1=true)∧(zz1=true→(drop 0 (drop (Int.toNat b.t*2) (fnsV A (kndsL A
 K))))[0]? =some (AV.imm (Cont.ints i64 A) (length A) (some (length A))))∧(zz1=true→zz1=true)∧(zz1=true→zz1=true)∧(zz1=true→zz1=true)∧(bif bif leb (↑zz2:Int) b.t
 then true else !zz8 then true else zz1&&true)=true∧(zz0=true→zz0=true)∧(zz0=true→zz0=true)∧(zz0=true→leb 0 b.t=true)∧(zz0=true→ltb b.t (↑zz2:Int)=true)
 ∧(zz0=true→ltn 0 (Cont.size (Cont.vals (fnsV A (kndsL A K))))=true)∧(zz0=true→zz0=true)∧(zz0=true→zz0=true)∧(zz0=true→(drop 1 (drop (Int.toNat b.t*2) (fnsV A
 (kndsL A K))))[0]? =some (AV.imm (Cont.ints u8 (kA A K b.t)) zz10 (some zz10)))∧(zz0=true→zz0=true)∧(zz0=true→zz0=true)∧(zz0=true→zz0=true)∧(bif bif bif leb (↑zz2
 :Int) b.t then true else !zz8 then true else(↑(length A):Int) !=(↑(length K):Int)then true else zz0&&true)=true∧(zz5=true→false=true∧True)∧(zz5=false→(length A=
 length A∧qx (length b_1.h) (length A<1000000))∧((cntE A b_1.h !=0)=true→false=true∧True)∧((cntE A b_1.h !=0)=false→(ltb (↑zz11:Int) 1=true→false=true∧True)∧
 (ltb (↑zz11:Int) 1=false→inR i64 (b.s+(↑zz11:Int))=true∧inR i64 (b.t+1)=true∧inR i64 (b.m+1)=true∧1=1∧c=c∧l=l∧qs u8 ks (length A=length A∧qx (ofA c
 l ks) (length K=length K∧ofK c ks=ofK c ks∧1=1∧length A=length A∧length K=length K∧Cont.vals [AV.imm (Cont.ints i64 A) (length A) none,AV.imm (Cont.ints u8 K) (length K)
 none]=Cont.vals [AV.imm (Cont.ints i64 A) (length A) none,AV.imm (Cont.ints u8 K) (length K) none]∧ql K (qx (Cont.vals (fnsV A (kndsL A K))) (qx zz2 (qx zz2 (qx (↑zz7:Int) (b.t+1=
 b.t+1∧qx (b.s+(↑zz11:Int)) (b.m+1=b.m+1∧(∃(m:Nat),b.m+1=(↑m:Int)∧m≤2 ^ length K∧b.t+1=(↑(length (kN A K m)):Int)∧b.s+(↑zz11:Int)=sumC A (kN A K
 m))∧2 ^ length K-Int.toNat (b.m+1)<2 ^ length K-Int.toNat b.m∧True))))))))))))))))) (!bif bif leb (↑zz2:Int) b.t then true else !zz8 then true else(↑(length A):Int) !=
 (↑(length K):Int))) (!bif leb (↑zz2:Int) b.t then true else !zz8)) (getD (drop (Int.toNat b_1.i) K) 0 0==1+Int.tmod (Int.fdiv b.m (2 ^ min zz3 64)) 2)) (Int.toNat ((↑(length K):
 Int)-1-b_1.i))) (bif bif bif leb (↑zz2:Int) b.t then true else !zz8 then true else(↑(length A):Int) !=(↑(length K):Int)then true else(↑zz10:Int) !=(↑(length K):Int))) (eqB
 A A&&eqB (kA A K b.t) b_1.h)) (length (cwL A b_1.h)))))))))))∧(ltb b.m (1*2 ^ min zz12 64)=false→((b.t==(↑zz2:Int))=true→((b.s==(↑zz7:Int))=true→true=true∧True)
 ∧((b.s==(↑zz7:Int))=false→false=true∧True))∧((b.t==(↑zz2:Int))=false→false=true∧True))) (!leb (↑zz2:Int) b.t)) (∃(m:Nat),b.m+1=(↑m:Int)∧m≤2 ^
 length K∧b.t=(↑(length (kN A K m)):Int)∧b.s=sumC A (kN A K m))) (length (kA A K b.t)))))))))))) (length (kndsL A K))) (length (cwL A K))) (Int.toNat (↑(length K):Int))) (ofA c l
 ks) (ofK c ks)):=by kernel_rfl

end Go.Proofs.YthiammkiobbclaaGreatDoor.X
