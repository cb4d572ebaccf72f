/-
 What is to be shown of the functions (made by a program).
-/
import Derived.Test.YtfafinkgmhkdmaaGreatDoorVDZ
set_option maxRecDepth 1000000
set_option linter.unusedVariables false
namespace Go.Proofs.YtfafinkgmhkdmaaGreatDoor.X
open Go Go.Ab
open List IntKind
theorem C4v (a k:List Int):fnP (T0) G 10000 C5O (.r [] 0 (.r [] 3 (.cnd (.r [] 0 .nil) (.r [] 0 (.r [] 1 (.lp (l17 a k) [] [] (fun b=>(.r [] 0 (.cnd (.r [] 0 (.rs 3 [] 0 23 (.r [] 63 (.lit (.r [] 0 .nil))) (.rs 6 [] 6 29 (.r [] 15 (.lit (.r [] 0 .nil))) (.rs 8 [] 97 37 (.r [] 3 (.lit (.r [] 0 .nil))) (.r [] 97 (.cnd (.r [] 0 .nil) (.r [] 0 (.r [] 0 .nil)))))))) (.r [] 0 .nil)))))))))) ([A3T a k]) ([.int .i64 (chk a k)]) ([])=(
 (((↑(length a):Int) !=(↑(length k):Int))=true->5=chk a k/\True)/\(((↑(length a):Int) !=(↑(length k):Int))=false->1=1/\qs i64 a (qs u8 k (0=0/\iI 0=0/\qs i64 a
 (ql a (iI 0=0/\(∃(n:Nat),0=(↑n:Int)/\n<=length a/\iI 0<=iI 0/\iI 0<=iI 8/\A60 a k 0=A60 (drop n a) (drop n k) 0)/\∀(b:L17),(fun(zz1:Int)=>(fun(zz0:List
 Int)=>(∃(n:Nat),b.i=(↑n:Int)/\n<=length a/\0<=b.s/\b.s<=8/\A60 a k 0=A60 (drop n a) (drop n k) b.s)->(ltb b.i (↑(length a):Int)=true->rd i64 a b.i ((ltb (getD zz0
 0 0) 1=true->1=chk a k/\True)/\(ltb (getD zz0 0 0) 1=false->inR i64 (8-b.s)=true/\(ltb (8-b.s) (getD zz0 0 0)=true->1=chk a k/\True)/\(ltb (8-b.s) (getD zz0 0 0)=
 false->rd u8 k b.i ((ltb zz1 1=true->1=chk a k/\True)/\(ltb zz1 1=false->rd u8 k b.i ((ltb 3 zz1=true->1=chk a k/\True)/\(ltb 3 zz1=false->inR i64 (b.s+getD zz0 0 0)=
 true/\inR i64 (b.i+1)=true/\1=1/\qs i64 a (qs u8 k (0=0/\qx (b.s+getD zz0 0 0) (qs i64 a (ql a (b.i+1=b.i+1/\(∃(n:Nat),b.i+1=(↑n:Int)/\n<=length a/\0<=b.s
 +getD zz0 0 0/\b.s+getD zz0 0 0<=8/\A60 a k 0=A60 (drop n a) (drop n k) (b.s+getD zz0 0 0))/\length a-Int.toNat (b.i+1)<length a-Int.toNat b.i/\True)))))))))))))/\(ltb
 b.i (↑(length a):Int)=false->0=chk a k/\True)) (drop (Int.toNat b.i) a)) (getD (drop (Int.toNat b.i) k) 0 0))))))):=by kernel_rfl
theorem C4w (c l:Int)(ks:List Int):fnP (T0) G 10000 C5N (.r [] 0 (.r [] 0 (.r [] 0 (.r [] 0 (.r [] 0 (.ghc 128 0 9001 1 (Cont.ints i64 []) (.ghc 128 1 9002 1 (Cont.ints u8 []) (.lp (l25 c ks) [] [] (fun b=>(.r [] 0 (.cnd (.r [] 5 (.cnd (.r [] 0 .nil) (.r [] 0 (.cnd (.r [] 49 (.r [] 0 (.r [] 0 (.r [] 5 (.jn (jI 7 u8 (A45 ks (length b.k))) [37] [] (.cnd (.r [] 139 .nil) .nil) (fun b_1=>(.r [] 25 (.r [] 0 .nil)))))))) (.r [] 0 (.r [] 0 (.r [] 0 (.r [] 5 (.jn (jI 7 u8 (A45 ks (length b.k))) [37] [] (.cnd (.r [] 139 .nil) .nil) (fun b_1=>(.r [] 25 (.r [] 0 .nil)))))))))))) (.r [] 0 (.jn (jL 9001 i64 (C7X (ofK c ks)) (A0U (A0P c ks 8))) [4,5,54] [] (.cnd (.r [] 97 .nil) .nil) (fun b_1=>(.r [] 0 (.lp (m25 l (A0U (A0P c ks 8)) (ofK c ks)) [] [] (fun b_2=>(.r [] 1 (.cnd (.rs 7 [] 5 77 (.r [] 193 (.cnd (.r [] 1 (.r [] 0 .nil)) (.r [] 0 .nil))) (.r [] 3 (.lit (.r [] 0 .nil)))) (.r [] 3 .nil)))))))))))))))))))) ([fV c l ks]) ([.agg [.full 0 (ofA c l ks).length,.full 1 (ofK c ks).length]]) ([C1I (ofA c l ks),C1J (ofK c ks)])=(
 (fun(zz3:Nat)=>1=1/\c=c/\l=l/\qs u8 ks (1=1/\1=1/\0=0/\0=0/\0=0/\iL []=[]/\0=0/\iL []=[]/\0=0/\0=0/\0=0/\iI (-1)= -1/\iI (-1)= -1/\iI 0=0
 /\(∃(n:Nat),0=(↑n:Int)/\n<=8/\FS.mk (-1) (-1) [] []=A0P c ks n)/\∀(b:L25),(fun(zz5:Bool)=>(fun(zz0:List Int)=>(∃(n:Nat),b.d=(↑n:Int)/\n<=8/\FS.mk
 b.last b.first b.a b.k=A0P c ks n)->(ltb b.d 8=true->leb 0 b.d=true/\(zz5=true->inR i64 (b.d+1)=true/\1=1/\c=c/\l=l/\qs u8 ks (1=1/\1=1/\qx (length b.a) (qx
 (length b.k) (qx (length b.a) (b.a=b.a/\qx (length b.k) (b.k=b.k/\0=0/\0=0/\0=0/\b.last=b.last/\b.first=b.first/\b.d+1=b.d+1/\(∃(n:Nat),b.d+1=(↑n:Int)/\
 n<=8/\FS.mk b.last b.first b.a b.k=A0P c ks n)/\8-Int.toNat (b.d+1)<8-Int.toNat b.d/\True))))))/\(zz5=false->(leb 0 b.last=true->inR i64 (b.d-b.last)=true/\qx
 (length b.a) (A0X ((length b.a+1)*8) 140737488355328=true/\qx (length b.k) (((ltb (↑(length b.k):Int) (↑(length ks):Int)=true->qx (length b.k) (ltb (↑(length b.k):Int)
 (↑(length ks):Int)=true/\ltn 0 (Cont.size (Cont.ints u8 ks))=true/\ltn 0 (Cont.size (Cont.ints u8 zz0))=true/\inR u8 (1+Int.tmod (getD zz0 0 0) 3)=true/\1=1/\c=c/\l=l
 /\qs u8 ks (1=1/\1=1/\qx (length b.a+1) (qx (length b.k) (qx (length b.a+1) (b.a++[b.d-b.last]=b.a++[b.d-b.last]/\qx (length b.k) (b.k=b.k/\1=1/\1=1/\[b.d-
 b.last]=[b.d-b.last]/\0=0/\0=0/\0=0/\b.first=b.first/\b.d=b.d/\b.d=b.d/\qx (1+Int.tmod (getD zz0 0 0) 3) (1+Int.tmod (getD zz0 0 0) 3=A45 ks (length b.k)/\
 True))))))))/\(ltb (↑(length b.k):Int) (↑(length ks):Int)=false->1=1/\c=c/\l=l/\qs u8 ks (1=1/\1=1/\qx (length b.a+1) (qx (length b.k) (qx (length b.a+1) (b.a++
 [b.d-b.last]=b.a++[b.d-b.last]/\qx (length b.k) (b.k=b.k/\1=1/\1=1/\[b.d-b.last]=[b.d-b.last]/\0=0/\0=0/\0=0/\b.first=b.first/\b.d=b.d/\b.d=b.d/\iI
 1=1/\1=A45 ks (length b.k)/\True)))))))/\∀(b_1:VI),b_1.v=A45 ks (length b.k)->qx (length b.k) (A0X ((length b.k+1)*1) 140737488355328=true/\inR i64 (b.d+1)=true/\
 1=1/\c=c/\l=l/\qs u8 ks (1=1/\1=1/\length b.a+1=length (b.a++[b.d-b.last])/\length b.k+1=length (b.k++[b_1.v])/\length b.a+1=length (b.a++[b.d-b.last])
 /\b.a++[b.d-b.last]=b.a++[b.d-b.last]/\length b.k+1=length (b.k++[b_1.v])/\b.k++[b_1.v]=b.k++[b_1.v]/\0=0/\0=0/\0=0/\b.d=b.d/\b.first=b.first/\b.d+1
 =b.d+1/\(∃(n:Nat),b.d+1=(↑n:Int)/\n<=8/\FS.mk b.d b.first (b.a++[b.d-b.last]) (b.k++[b_1.v])=A0P c ks n)/\8-Int.toNat (b.d+1)<8-Int.toNat b.d/\True)))))
 /\(leb 0 b.last=false->qx (length b.k) (((ltb (↑(length b.k):Int) (↑(length ks):Int)=true->qx (length b.k) (ltb (↑(length b.k):Int) (↑(length ks):Int)=true/\ltn 0 (Cont.size
 (Cont.ints u8 ks))=true/\ltn 0 (Cont.size (Cont.ints u8 zz0))=true/\inR u8 (1+Int.tmod (getD zz0 0 0) 3)=true/\1=1/\c=c/\l=l/\qs u8 ks (1=1/\1=1/\qx (length b.a)
 (qx (length b.k) (qx (length b.a) (b.a=b.a/\qx (length b.k) (b.k=b.k/\0=0/\0=0/\0=0/\b.d=b.d/\b.d=b.d/\b.d=b.d/\qx (1+Int.tmod (getD zz0 0 0) 3) (1+Int.tmod (getD
 zz0 0 0) 3=A45 ks (length b.k)/\True))))))))/\(ltb (↑(length b.k):Int) (↑(length ks):Int)=false->1=1/\c=c/\l=l/\qs u8 ks (1=1/\1=1/\qx (length b.a) (qx (length
 b.k) (qx (length b.a) (b.a=b.a/\qx (length b.k) (b.k=b.k/\0=0/\0=0/\0=0/\b.d=b.d/\b.d=b.d/\b.d=b.d/\iI 1=1/\1=A45 ks (length b.k)/\True)))))))/\∀(b_1:VI),
 b_1.v=A45 ks (length b.k)->qx (length b.k) (A0X ((length b.k+1)*1) 140737488355328=true/\inR i64 (b.d+1)=true/\1=1/\c=c/\l=l/\qs u8 ks (1=1/\1=1/\qx (length
 b.a) (length b.k+1=length (b.k++[b_1.v])/\qx (length b.a) (b.a=b.a/\length b.k+1=length (b.k++[b_1.v])/\b.k++[b_1.v]=b.k++[b_1.v]/\0=0/\0=0/\0=0/\b.d=b.d/\
 b.d=b.d/\b.d+1=b.d+1/\(∃(n:Nat),b.d+1=(↑n:Int)/\n<=8/\FS.mk b.d b.d b.a (b.k++[b_1.v])=A0P c ks n)/\8-Int.toNat (b.d+1)<8-Int.toNat b.d/\True))))))))/\
 (ltb b.d 8=false->((leb 0 b.first=true->inR i64 (b.first+8)=true/\inR i64 (b.first+8-b.last)=true/\qx (length b.a) (A0X ((length b.a+1)*8) 140737488355328=true/\1=
 1/\c=c/\l=l/\qs u8 ks (1=1/\1=1/\length b.a+1=length (b.a++[b.first+8-b.last])/\length b.k=length (ofK c ks)/\length b.a+1=length (b.a++[b.first+8-
 b.last])/\b.a++[b.first+8-b.last]=b.a++[b.first+8-b.last]/\qx (length b.k) (b.k=b.k/\0=0/\0=0/\0=0/\qx (ltb b.d 8) (b.a++[b.first+8-b.last]=A0U (A0P
 c ks 8)/\True)))))/\(leb 0 b.first=false->1=1/\c=c/\l=l/\qs u8 ks (1=1/\1=1/\qx (length b.a) (length b.k=length (ofK c ks)/\qx (length b.a) (b.a=b.a/\qx (length
 b.k) (b.k=b.k/\0=0/\0=0/\0=0/\qx (ltb b.d 8) (b.a=A0U (A0P c ks 8)/\True)))))))/\∀(b_1:VL),b_1.v=A0U (A0P c ks 8)->1=1/\c=c/\l=l/\qs u8 ks (1=1/\
 1=1/\qx (length b_1.v) (qx zz3 (qx (length b_1.v) (b_1.v=b_1.v/\length b.k=length (ofK c ks)/\b.k=ofK c ks/\0=0/\0=0/\0=0/\qx (ltb b.d 8) (iI 0=0/\(∃(n:Nat),0=
 (↑n:Int)/\n<=length (A0U (A0P c ks 8))/\b_1.v=take n (A15 l 0 (A0U (A0P c ks 8)))++drop n (A0U (A0P c ks 8)))/\∀(b_2:M25),(fun(zz2:Prop)=>(fun(zz1:Nat)
 =>(fun(zz4:List Int)=>(∃(n:Nat),b_2.i=(↑n:Int)/\n<=length (A0U (A0P c ks 8))/\b_2.a=take n (A15 l 0 (A0U (A0P c ks 8)))++drop n (A0U (A0P c ks 8)))->qx
 (length b_2.a) ((ltb b_2.i (↑(length b_2.a):Int)=true->leb 0 b_2.i=true/\((Int.tmod (Int.fdiv l (2 ^ min zz1 8)) 2==1)=true->leb 0 b_2.i=true/\ltb b_2.i (↑(length b_2.a):
 Int)=true/\qx (length b_2.a) (qx (length b_2.a) (ltn zz1 (Cont.size (Cont.ints i64 b_2.a))=true/\(ltb 1 (getD b_2.a zz1 0)=true->leb 0 b_2.i=true/\ltb b_2.i (↑(length b_2.a):
 Int)=true/\qx (length b_2.a) (qx (length b_2.a) (ltn zz1 (Cont.size (Cont.ints i64 b_2.a))=true/\inR i64 (getD b_2.a zz1 0-1)=true/\leb 0 b_2.i=true/\ltb b_2.i (↑(length b_2.a)
 :Int)=true/\qx (length b_2.a) (qx (length b_2.a) (A0X (Int.toNat b_2.i+1) (Cont.size (Cont.ints i64 b_2.a))=true/\inR i64 (b_2.i+1)=true/\1=1/\c=c/\l=l/\qs u8 ks (1=
 1/\1=1/\length b_2.a=length zz4/\qx zz3 (length b_2.a=length zz4/\qx zz4 (qx zz3 (ofK c ks=ofK c ks/\0=0/\0=0/\0=0/\qx (ltb b.d 8) (qx (b_2.i+1) ((∃(n:Nat),b_2.i
 +1=(↑n:Int)/\n<=length (A0U (A0P c ks 8))/\set b_2.a zz1 (getD b_2.a zz1 0-1)=take n (A15 l 0 (A0U (A0P c ks 8)))++drop n (A0U (A0P c ks 8)))/\length (A0U
 (A0P c ks 8))-Int.toNat (b_2.i+1)<length (A0U (A0P c ks 8))-Int.toNat b_2.i/\True)))))))))))/\(ltb 1 (getD b_2.a zz1 0)=false->inR i64 (b_2.i+1)=true/\1=1/\c=c
 /\l=l/\qs u8 ks (1=1/\1=1/\qx (length b_2.a) (qx zz3 (qx (length b_2.a) (b_2.a=b_2.a/\qx zz3 (ofK c ks=ofK c ks/\0=0/\0=0/\0=0/\qx (ltb b.d 8) (qx (b_2.i+1) (zz2/\
 length (A0U (A0P c ks 8))-Int.toNat (b_2.i+1)<length (A0U (A0P c ks 8))-Int.toNat b_2.i/\True)))))))))))/\((Int.tmod (Int.fdiv l (2 ^ min zz1 8)) 2==1)=false->inR
 i64 (b_2.i+1)=true/\1=1/\c=c/\l=l/\qs u8 ks (1=1/\1=1/\qx (length b_2.a) (qx zz3 (qx (length b_2.a) (b_2.a=b_2.a/\qx zz3 (ofK c ks=ofK c ks/\0=0/\0=0/\0=0/\
 qx (ltb b.d 8) (qx (b_2.i+1) (zz2/\length (A0U (A0P c ks 8))-Int.toNat (b_2.i+1)<length (A0U (A0P c ks 8))-Int.toNat b_2.i/\True)))))))))/\(ltb b_2.i (↑(length b_2.a)
 :Int)=false->length b_2.a=length (ofA c l ks)/\b_2.a=ofA c l ks/\qx zz3 (ofK c ks=ofK c ks/\length b_2.a=length (ofA c l ks)/\qx zz3 (True))))) (set b_2.a zz1 (getD b_2.a zz1
 0-1))) (Int.toNat b_2.i)) (∃(n:Nat),b_2.i+1=(↑n:Int)/\n<=length (A0U (A0P c ks 8))/\b_2.a=take n (A15 l 0 (A0U (A0P c ks 8)))++drop n (A0U (A0P c ks
 8)))))))))) (drop (Int.toNat (↑(length b.k):Int)) ks)) (Int.tmod (Int.fdiv c (2 ^ min (Int.toNat b.d) 8)) 2==0))) (length (ofK c ks))):=by kernel_rfl
theorem C4x (a:List Int)(n:Nat):fnP (T0) G 10000 B9E (.r [] 0 (.r [] 5 .nil)) ([.imm (.ints .i64 a) n none]) ([.imm (.ints .i64 a) n (some n)]) ([])=(
 Int.toNat (↑n:Int)=n/\Int.toNat (↑n:Int)=n/\Cont.size (Cont.ints i64 a)=n/\Cont.ints i64 a=Cont.ints i64 a/\n=n/\n=n/\True):=by kernel_rfl
theorem B5O (a:List Int)(n:Nat):fnP (T0) G 10000 B9F (.r [] 0 (.r [] 5 .nil)) ([.imm (.ints .u8 a) n none]) ([.imm (.ints .u8 a) n (some n)]) ([])=(
 Int.toNat (↑n:Int)=n/\Int.toNat (↑n:Int)=n/\Cont.size (Cont.ints u8 a)=n/\Cont.ints u8 a=Cont.ints u8 a/\n=n/\n=n/\True):=by kernel_rfl
end Go.Proofs.YtfafinkgmhkdmaaGreatDoor.X
