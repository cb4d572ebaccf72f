/-
 What is to be shown of the functions (made by a program).
-/
import Derived.Test.YtfafinkgmhkdmaaGreatDoorVC14Z
set_option maxRecDepth 1000000
set_option linter.unusedVariables false
namespace Go.Proofs.YtfafinkgmhkdmaaGreatDoor.X
open Go Go.Ab
theorem C4T (a k:List Int):fnP (tN) G 10000 C5P (.r [] 0 (.r [] 0 (.r [] 1 (.lp (l31 a) [] [] (fun b=>(.r [] 0 (.cnd (.r [] 0 (.r [(386,.auto,Dr.wrap)] 0 (.r [] 0 .nil))) (.rs 4 [] 1 20 (.rs 3 [] 0 23 (.r [] 15 .nil) (.r [] 31 .nil)) (.r [] 3 .nil))))))))) ([A3T a k]) ([.bool (flB a k)]) ([])=(
1=1/\Cont.ints IntKind.i64 a=Cont.ints IntKind.i64 a/\List.length a=List.length a/\Cont.ints IntKind.u8 k=Cont.ints IntKind.u8 k/\List.length k=List.length k/\0=0/\iI 0=0/\
Cont.ints IntKind.i64 a=Cont.ints IntKind.i64 a/\List.length a=List.length a/\(↑(List.length a):Int)=(↑(List.length a):Int)/\iI 0=0/\(∃(n:Nat),0=(↑n:Int)/\n<=List.length a/\
0=wsum (List.take n a))/\∀(b:L31),(∃(n:Nat),b.i=(↑n:Int)/\n<=List.length a/\b.s=wsum (List.take n a))->(ltb b.i (↑(List.length a):Int)=true->leb 0 b.i=true/\ltb b.i
(↑(List.length a):Int)=true/\ltn 0 (Cont.size (Cont.ints IntKind.i64 a))=true/\ltn 0 (Cont.size (Cont.ints IntKind.i64 (List.drop (Int.toNat b.i) a)))=true/\inR IntKind.i64 (b.i+1)=true
/\1=1/\Cont.ints IntKind.i64 a=Cont.ints IntKind.i64 a/\List.length a=List.length a/\Cont.ints IntKind.u8 k=Cont.ints IntKind.u8 k/\List.length k=List.length k/\0=0/\IntKind.wrap
IntKind.i64 (b.s+List.getD (List.drop (Int.toNat b.i) a) 0 0)=IntKind.wrap IntKind.i64 (b.s+List.getD (List.drop (Int.toNat b.i) a) 0 0)/\Cont.ints IntKind.i64 a=Cont.ints IntKind.i64 a/\
List.length a=List.length a/\(↑(List.length a):Int)=(↑(List.length a):Int)/\b.i+1=b.i+1/\(∃(n:Nat),b.i+1=(↑n:Int)/\n<=List.length a/\IntKind.wrap IntKind.i64 (b.s+
List.getD (List.drop (Int.toNat b.i) a) 0 0)=wsum (List.take n a))/\List.length a-Int.toNat (b.i+1)<List.length a-Int.toNat b.i/\True)/\(ltb b.i (↑(List.length a):Int)=false->
(List.length a=List.length a/\List.length k=List.length k/\List.length a<1000000000000)/\((chk a k==0)=true->((b.s==8)=true->true=flB a k/\True)/\((b.s==8)=false->
((↑(List.length a):Int)==0)=flB a k/\True))/\((chk a k==0)=false->false=flB a k/\True))):=by kernel_rfl
theorem C4U (l:List AV)(n:Nat):fnP (T0) G 10000 C5S (.r [] 0 (.r [] 5 .nil)) ([.imm (.vals l) n none]) ([.imm (.vals l) n (some n)]) ([])=(
Int.toNat (↑n:Int)=n/\Int.toNat (↑n:Int)=n/\Cont.size (Cont.vals l)=n*3/\Cont.vals l=Cont.vals l/\n=n/\n=n/\True):=by kernel_rfl
theorem C4V (a k:List Int)(f:Int):fnP (V30 a k f) G 10000 fe6 (.r [] 0 (.r [] 1 (.r [] 0 (.cnd (.r [] 1 .nil) (.r [] 1 (.cnd (.r [] 1 .nil) (.rs 3 [] 0 27 (.r [] 3 (.lit (.r [] 1 .nil))) (.r [] 3 (.cnd (.r [] 1 .nil) (.r [] 1 (.r [] 1 (.ghc 578 2 9001 3 (Cont.vals []) (.lp (l30 a k f) [] [] (fun b=>(.r [] 0 (.cnd (.r [] 0 (.r [(835,.auto,Dr.val [AV.imm (Cont.vals (A9a (Int.tmod b.f 8))) (A3U (Int.tmod b.f 8)) none])] 1 (.lp (m30 (Int.tmod b.f 8) (List.getD k (Int.toNat b.i) 0) b.l b.n) [] [] (fun b_1=>(.r [] 0 (.cnd (.r [(961,.auto,Dr.val
 [AV.int IntKind.i64 (rcC (Int.tmod b.f 8) b_1.i),AV.int IntKind.u8 (rcE (Int.tmod b.f 8) b_1.i),AV.int IntKind.u8 0])] 64 (.r [] 33 (.r [] 51 (.r [] 0 .nil)))) (.r [] 0 (.r [] 0 .nil)))))))) (.r [(1346,.auto,Dr.heap)] 1 (.r [] 9 (.r [] 3 .nil))))))))))))))))))) ([A3T a k,.int .i64 f]) ([.agg [.int .i64 (bI (A2Q a k f==0) 2 0),.int .i64 (bI (A2Q a k f==0) 2 0),.imm (.vals (flatC (A3V a k f))) (A3V a k f).length (some (A3V a k f).length)],.int .i64 (A2Q a k f)]) ([])=(
(List.length a=List.length a/\List.length k=List.length k/\List.length a<1000000000000)/\((chk a k !=0)=true->0=bI (A2Q a k f==0) 2 0/\0=bI (A2Q a k f==0) 2 0/\Cont.size
(Cont.vals (flatC (A3V a k f)))=0/\List.length (A3V a k f)=0/\List.length (A3V a k f)=0/\chk a k=A2Q a k f/\True)/\((chk a k !=0)=false->(List.length a=List.length a/\
List.length k=List.length k/\List.length a<1000000000)/\((!flB a k)=true->0=bI (A2Q a k f==0) 2 0/\0=bI (A2Q a k f==0) 2 0/\Cont.size (Cont.vals (flatC (A3V a k f)))=0/\
List.length (A3V a k f)=0/\List.length (A3V a k f)=0/\14=A2Q a k f/\True)/\((!flB a k)=false->(ltb f 0=true->0=bI (A2Q a k f==0) 2 0/\0=bI (A2Q a k f==0) 2 0/\Cont.size
(Cont.vals (flatC (A3V a k f)))=0/\List.length (A3V a k f)=0/\List.length (A3V a k f)=0/\1=A2Q a k f/\True)/\(ltb f 0=false->(ltb 7 f=true->0=bI (A2Q a k f==0) 2 0/\0=bI
(A2Q a k f==0) 2 0/\Cont.size (Cont.vals (flatC (A3V a k f)))=0/\List.length (A3V a k f)=0/\List.length (A3V a k f)=0/\1=A2Q a k f/\True)/\(ltb 7 f=false->1=1/\Cont.ints
IntKind.i64 a=Cont.ints IntKind.i64 a/\List.length a=List.length a/\Cont.ints IntKind.u8 k=Cont.ints IntKind.u8 k/\List.length k=List.length k/\1=1/\iI 0=0/\iI 0=0/\1=1/\iI 2=
2/\iI 2=2/\0=0/\0=0/\([]:List AV)=[]/\f=f/\0=0/\0=0/\0=0/\Cont.ints IntKind.i64 a=Cont.ints IntKind.i64 a/\List.length a=List.length a/\(↑(List.length a):Int)=
(↑(List.length a):Int)/\iI 0=0/\(∃(n:Nat),0=(↑n:Int)/\n<=List.length a/\f=f+List.sum (List.take n a)/\[]=flatC (rawF (List.take n a) (List.take n k) f)/\0=List.length (rawF
(List.take n a) (List.take n k) f))/\∀(b:L30),(∃(n:Nat),b.i=(↑n:Int)/\n<=List.length a/\b.f=f+List.sum (List.take n a)/\b.l=flatC (rawF (List.take n a) (List.take n k) f)/\b.n
=List.length (rawF (List.take n a) (List.take n k) f))->(ltb b.i (↑(List.length a):Int)=true->leb 0 b.i=true/\ltb b.i (↑(List.length a):Int)=true/\ltn 0 (Cont.size (Cont.ints
IntKind.i64 a))=true/\ltn 0 (Cont.size (Cont.ints IntKind.i64 (List.drop (Int.toNat b.i) a)))=true/\leb 0 (Int.tmod b.f 8)=true/\ltb (Int.tmod b.f 8) 8=true/\(List.drop (Int.toNat
(Int.tmod b.f 8)) [AV.imm (Cont.vals [AV.int IntKind.i64 6,AV.int IntKind.u8 0,AV.int IntKind.u8 0]) 1 none,AV.imm (Cont.vals [AV.int IntKind.i64 12,AV.int IntKind.u8 2,AV.int IntKind.u8 0,
AV.int IntKind.i64 13,AV.int IntKind.u8 2,AV.int IntKind.u8 0]) 2 none,AV.imm (Cont.vals [AV.int IntKind.i64 9,AV.int IntKind.u8 0,AV.int IntKind.u8 0]) 1 none,AV.imm (Cont.vals [AV.int
IntKind.i64 8,AV.int IntKind.u8 1,AV.int IntKind.u8 0,AV.int IntKind.i64 10,AV.int IntKind.u8 1,AV.int IntKind.u8 0]) 2 none,AV.imm (Cont.vals [AV.int IntKind.i64 2,AV.int IntKind.u8 0,AV.int
IntKind.u8 0]) 1 none,AV.imm (Cont.vals [AV.int IntKind.i64 0,AV.int IntKind.u8 2,AV.int IntKind.u8 0,AV.int IntKind.i64 1,AV.int IntKind.u8 2,AV.int IntKind.u8 0]) 2 none,AV.imm (Cont.vals
[AV.int IntKind.i64 1,AV.int IntKind.u8 0,AV.int IntKind.u8 0]) 1 none,AV.imm (Cont.vals [AV.int IntKind.i64 4,AV.int IntKind.u8 1,AV.int IntKind.u8 0,AV.int IntKind.i64 6,AV.int IntKind.u8 1,
AV.int IntKind.u8 0]) 2 none])[0]? =some (AV.imm (Cont.vals (A9a (Int.tmod b.f 8))) (A3U (Int.tmod b.f 8)) none)/\1=1/\Cont.ints IntKind.i64 a=Cont.ints IntKind.i64 a/\List.length a=
List.length a/\Cont.ints IntKind.u8 k=Cont.ints IntKind.u8 k/\List.length k=List.length k/\1=1/\iI 0=0/\iI 0=0/\1=1/\iI 2=2/\iI 2=2/\b.n=b.n/\b.n=b.n/\b.l=b.l/\b.f=
b.f/\0=0/\0=0/\0=0/\Cont.ints IntKind.i64 a=Cont.ints IntKind.i64 a/\List.length a=List.length a/\(↑(List.length a):Int)=(↑(List.length a):Int)/\b.i=b.i/\b.i=b.i/\
List.getD (List.drop (Int.toNat b.i) a) 0 0=List.getD (List.drop (Int.toNat b.i) a) 0 0/\Cont.vals (A9a (Int.tmod b.f 8))=Cont.vals (A9a (Int.tmod b.f 8))/\A3U (Int.tmod b.f 8)=A3U
(Int.tmod b.f 8)/\(↑(A3U (Int.tmod b.f 8)):Int)=(↑(A3U (Int.tmod b.f 8)):Int)/\iI 0=0/\(∃(m:Nat),0=(↑m:Int)/\m<=A3U (Int.tmod b.f 8)/\b.l=b.l++flatC (List.take m (B0p
(Int.tmod b.f 8) (List.getD k (Int.toNat b.i) 0)))/\b.n=b.n+m)/\∀(b_1:M30),(∃(m:Nat),b_1.i=(↑m:Int)/\m<=A3U (Int.tmod b.f 8)/\b_1.l=b.l++flatC (List.take m (B0p (Int.tmod
b.f 8) (List.getD k (Int.toNat b.i) 0)))/\b_1.n=b.n+m)->(ltb b_1.i (↑(A3U (Int.tmod b.f 8)):Int)=true->leb 0 b_1.i=true/\ltb b_1.i (↑(A3U (Int.tmod b.f 8)):Int)=true/\ltn 0
(Cont.size (Cont.vals (A9a (Int.tmod b.f 8))))=true/\(List.drop (Int.toNat b_1.i*3) (A9a (Int.tmod b.f 8)))[0]? =some (AV.int IntKind.i64 (rcC (Int.tmod b.f 8) b_1.i))/\(List.drop (Int.toNat
b_1.i*3) (A9a (Int.tmod b.f 8)))[1]? =some (AV.int IntKind.u8 (rcE (Int.tmod b.f 8) b_1.i))/\(List.drop (Int.toNat b_1.i*3) (A9a (Int.tmod b.f 8)))[2]? =some (AV.int IntKind.u8 0)/\leb 0 b.i
=true/\ltb b.i (↑(List.length k):Int)=true/\ltn 0 (Cont.size (Cont.ints IntKind.u8 k))=true/\ltn 0 (Cont.size (Cont.ints IntKind.u8 (List.drop (Int.toNat b.i) k)))=true/\b_1.n=b_1.n/\
A0X ((b_1.n+1)*16) 140737488355328=true/\inR IntKind.i64 (b_1.i+1)=true/\1=1/\Cont.ints IntKind.i64 a=Cont.ints IntKind.i64 a/\List.length a=List.length a/\Cont.ints IntKind.u8 k
=Cont.ints IntKind.u8 k/\List.length k=List.length k/\1=1/\iI 0=0/\iI 0=0/\1=1/\iI 2=2/\iI 2=2/\b_1.n+1=b_1.n+1/\b_1.n+1=b_1.n+1/\b_1.l++[AV.int IntKind.i64 (rcC
(Int.tmod b.f 8) b_1.i),AV.int IntKind.u8 (rcE (Int.tmod b.f 8) b_1.i),AV.int IntKind.u8 (List.getD (List.drop (Int.toNat b.i) k) 0 0)]=b_1.l++[AV.int IntKind.i64 (rcC (Int.tmod b.f 8) b_1.i),
AV.int IntKind.u8 (rcE (Int.tmod b.f 8) b_1.i),AV.int IntKind.u8 (List.getD (List.drop (Int.toNat b.i) k) 0 0)]/\b.f=b.f/\0=0/\0=0/\0=0/\Cont.ints IntKind.i64 a=Cont.ints IntKind.i64 a
/\List.length a=List.length a/\(↑(List.length a):Int)=(↑(List.length a):Int)/\b.i=b.i/\b.i=b.i/\List.getD (List.drop (Int.toNat b.i) a) 0 0=List.getD (List.drop (Int.toNat b.i) a) 0
0/\Cont.vals (A9a (Int.tmod b.f 8))=Cont.vals (A9a (Int.tmod b.f 8))/\A3U (Int.tmod b.f 8)=A3U (Int.tmod b.f 8)/\(↑(A3U (Int.tmod b.f 8)):Int)=(↑(A3U (Int.tmod b.f 8)):Int)/\b_1.i
+1=b_1.i+1/\(∃(m:Nat),b_1.i+1=(↑m:Int)/\m<=A3U (Int.tmod b.f 8)/\b_1.l++[AV.int IntKind.i64 (rcC (Int.tmod b.f 8) b_1.i),AV.int IntKind.u8 (rcE (Int.tmod b.f 8) b_1.i),AV.int
IntKind.u8 (List.getD (List.drop (Int.toNat b.i) k) 0 0)]=b.l++flatC (List.take m (B0p (Int.tmod b.f 8) (List.getD k (Int.toNat b.i) 0)))/\b_1.n+1=b.n+m)/\A3U (Int.tmod b.f 8)-
Int.toNat (b_1.i+1)<A3U (Int.tmod b.f 8)-Int.toNat b_1.i/\True)/\(ltb b_1.i (↑(A3U (Int.tmod b.f 8)):Int)=false->inR IntKind.i64 (b.f+List.getD (List.drop (Int.toNat b.i) a) 0 0)=
true/\inR IntKind.i64 (b.i+1)=true/\1=1/\Cont.ints IntKind.i64 a=Cont.ints IntKind.i64 a/\List.length a=List.length a/\Cont.ints IntKind.u8 k=Cont.ints IntKind.u8 k/\List.length k=
List.length k/\1=1/\iI 0=0/\iI 0=0/\1=1/\iI 2=2/\iI 2=2/\b_1.n=b_1.n/\b_1.n=b_1.n/\b_1.l=b_1.l/\b.f+List.getD (List.drop (Int.toNat b.i) a) 0 0=b.f+List.getD
(List.drop (Int.toNat b.i) a) 0 0/\0=0/\0=0/\0=0/\Cont.ints IntKind.i64 a=Cont.ints IntKind.i64 a/\List.length a=List.length a/\(↑(List.length a):Int)=(↑(List.length a):Int)/\
b.i+1=b.i+1/\(∃(n:Nat),b.i+1=(↑n:Int)/\n<=List.length a/\b.f+List.getD (List.drop (Int.toNat b.i) a) 0 0=f+List.sum (List.take n a)/\b_1.l=flatC (rawF (List.take n a)
(List.take n k) f)/\b_1.n=List.length (rawF (List.take n a) (List.take n k) f))/\List.length a-Int.toNat (b.i+1)<List.length a-Int.toNat b.i/\True))/\(ltb b.i (↑(List.length a):Int)=
false->([(9001,HO.blk (Blk.mk (Cont.vals b.l) 3 b.n none (some true) true false))]=[(9001,HO.blk (Blk.mk (Cont.vals (flatC (rawF a k f))) 3 b.n none (some true) true false))]/\b.n=List.length
(rawF a k f)/\List.length (rawF a k f)<1000000000)/\b.n=b.n/\List.length (flatC (A14 A3S (rawF a k f)))=3*b.n/\2=bI (A2Q a k f==0) 2 0/\2=bI (A2Q a k f==0) 2 0/\Cont.vals
(flatC (A14 A3S (rawF a k f)))=Cont.vals (flatC (A3V a k f))/\b.n=List.length (A3V a k f)/\b.n=List.length (A3V a k f)/\0=A2Q a k f/\True)))))):=by kernel_rfl
theorem C4W (s:List UInt8)(b:Int):fnP (XA) G 10000 B7w (.r [] 0 (.r [] 1 .nil)) ([.str s,.int .u8 b]) ([.int .i64 (ixB s b)]) ([])=(
ixB s b=ixB s b/\True):=by kernel_rfl
theorem C4X (s:List UInt8)(b:Int):fnP (A1V ((112,B7G)::xA) A2z) G 10000 C6n (.r [] 0 (.r [] 1 .nil)) ([.str s,.int .u8 b]) ([.int .i64 (ixB s b)]) ([])=(
ixB s b=ixB s b/\True):=by kernel_rfl
theorem C1b (s:List UInt8):fnP (XB) G 10000 B7E (.r [] 0 (.r [] 0 (.r [] 3 (.cnd (.r [] 0 .nil) (.r [] 0 (.lit (.r [] 7 .nil))))))) ([.str s,.str [32]]) ([.int .i64 (ixB s 32)]) ([])=(
(([32]==s)=true->0=ixB s 32/\True)/\(([32]==s)=false->ixB s 32=ixB s 32/\True)):=by kernel_rfl
theorem C1c (s:List UInt8):fnP (XC') G 10000 B7D (.r [] 0 (.r [] 0 .nil)) ([.str s,.str [32]]) ([.int .i64 (ixB s 32)]) ([])=(
((32:UInt8)=32/\List.length s<1000000000)/\ixB s 32=ixB s 32/\True):=by kernel_rfl
theorem C1d (s:List UInt8):fnP (XB) G 10000 B7C (.r [] 0 (.r [] 0 (.lit (.r [] 0 (.lit (.r [] 7 .nil)))))) ([.str s,.str [32]]) ([.int .i64 (ctB s 32)]) ([])=(
ctB s 32=ctB s 32/\True):=by kernel_rfl
theorem C4Y (s:List UInt8):fnP (XD) G 10000 B7v (.r [] 0 (.r [] 0 (.lit (.r [] 0 (.lit (.r [] 0 (.lit (.r [] 0 (.r [] 0 (.r [] 0 (.r [] 0 (.r [] 0 (.lp (l81 s 577) [] [] (fun b=>(.r [] 0 (.cnd (.r [] 0 (.r [] 0 (.cnd (.r [] 0 (.frz 9 0 (.r [] 0 .nil))) (.r [] 0 (.r [] 0 (.r [] 0 .nil)))))) (.r [] 0 (.frz 9 0 (.r [] 0 .nil))))))))))))))))))) ([.str s,.str [32],.int .i64 0,.int .i64 (-1)]) ([.imm (.strs (A0f s)) (A0f s).length none]) ([])=(
((32:UInt8)=32/\List.length s<1000000000)/\inR IntKind.i64 (ctB s 32+1)=true/\inR IntKind.i64 ((↑(List.length s):Int)+1)=true/\leb 0 (if(↑(List.length s):Int)+1<ctB s 32+1 then
(↑(List.length s):Int)+1 else ctB s 32+1)=true/\leb (if(↑(List.length s):Int)+1<ctB s 32+1 then(↑(List.length s):Int)+1 else ctB s 32+1) (if(↑(List.length s):Int)+1<ctB
s 32+1 then(↑(List.length s):Int)+1 else ctB s 32+1)=true/\leb ((if(↑(List.length s):Int)+1<ctB s 32+1 then(↑(List.length s):Int)+1 else ctB s 32+1)*16) 140737488355328=
true/\inR IntKind.i64 ((if(↑(List.length s):Int)+1<ctB s 32+1 then(↑(List.length s):Int)+1 else ctB s 32+1)-1)=true/\Int.toNat (if(↑(List.length s):Int)+1<ctB s 32+1
then(↑(List.length s):Int)+1 else ctB s 32+1)=List.length (List.replicate (Int.toNat (if(↑(List.length s):Int)+1<ctB s 32+1 then(↑(List.length s):Int)+1 else ctB s 32+1)) ([]
:List UInt8))/\Int.toNat (if(↑(List.length s):Int)+1<ctB s 32+1 then(↑(List.length s):Int)+1 else ctB s 32+1)=List.length (List.replicate (Int.toNat (if(↑(List.length s):Int)+
1<ctB s 32+1 then(↑(List.length s):Int)+1 else ctB s 32+1)) ([]:List UInt8))/\List.replicate (Int.toNat (if(↑(List.length s):Int)+1<ctB s 32+1 then(↑(List.length s):Int)+1
else ctB s 32+1)) ([]:List UInt8)=List.replicate (Int.toNat (if(↑(List.length s):Int)+1<ctB s 32+1 then(↑(List.length s):Int)+1 else ctB s 32+1)) ([]:List UInt8)/\s=s/\uL
[32]=[32]/\iI 0=0/\(if(↑(List.length s):Int)+1<ctB s 32+1 then(↑(List.length s):Int)+1 else ctB s 32+1)-1=(if(↑(List.length s):Int)+1<ctB s 32+1 then(↑(List.length
s):Int)+1 else ctB s 32+1)-1/\Int.toNat (if(↑(List.length s):Int)+1<ctB s 32+1 then(↑(List.length s):Int)+1 else ctB s 32+1)=Int.toNat (if(↑(List.length s):Int)+1<ctB
s 32+1 then(↑(List.length s):Int)+1 else ctB s 32+1)/\iI 0=0/\(∃(n:Nat),0=(↑n:Int)/\n<List.length (A0f s)/\List.length (List.replicate (Int.toNat (if(↑(List.length s):
Int)+1<ctB s 32+1 then(↑(List.length s):Int)+1 else ctB s 32+1)) ([]:List UInt8))=List.length (A0f s)/\List.take n (List.replicate (Int.toNat (if(↑(List.length s):Int)+1<
ctB s 32+1 then(↑(List.length s):Int)+1 else ctB s 32+1)) ([]:List UInt8))++A0f s=A0f s/\List.length s<=List.length s)/\∀(b:L81),(∃(n:Nat),b.i=(↑n:Int)/\n<
List.length (A0f s)/\List.length b.l=List.length (A0f s)/\List.take n b.l++A0f b.s=A0f s/\List.length b.s<=List.length s)->(ltb b.i ((if(↑(List.length s):Int)+1<ctB s 32
+1 then(↑(List.length s):Int)+1 else ctB s 32+1)-1)=true->((32:UInt8)=32/\List.length b.s<1000000000)/\(ltb (ixB b.s 32) 0=true->leb 0 b.i=true/\ltb b.i (↑(Int.toNat (if
(↑(List.length s):Int)+1<ctB s 32+1 then(↑(List.length s):Int)+1 else ctB s 32+1)):Int)=true/\List.length b.l=Int.toNat (if(↑(List.length s):Int)+1<ctB s 32+1 then
(↑(List.length s):Int)+1 else ctB s 32+1)/\List.length b.l=Int.toNat (if(↑(List.length s):Int)+1<ctB s 32+1 then(↑(List.length s):Int)+1 else ctB s 32+1)/\A0X (Int.toNat b.i
+1) (Cont.size (Cont.strs b.l))=true/\List.length b.l=Int.toNat (if(↑(List.length s):Int)+1<ctB s 32+1 then(↑(List.length s):Int)+1 else ctB s 32+1)/\inR IntKind.i64 (b.i+1)=
true/\leb 0 (b.i+1)=true/\A0X (Int.toNat (b.i+1)) (Int.toNat (if(↑(List.length s):Int)+1<ctB s 32+1 then(↑(List.length s):Int)+1 else ctB s 32+1))=true/\Cont.size
(Cont.strs (List.set b.l (Int.toNat b.i) b.s))=Int.toNat (if(↑(List.length s):Int)+1<ctB s 32+1 then(↑(List.length s):Int)+1 else ctB s 32+1)/\Cont.strs (List.take (Int.toNat (b.i+
1)) (List.set b.l (Int.toNat b.i) b.s))=Cont.strs (A0f s)/\Int.toNat (b.i+1)=List.length (A0f s)/\True)/\(ltb (ixB b.s 32) 0=false->inR IntKind.i64 (ixB b.s 32+0)=true/\leb 0
(ixB b.s 32+0)=true/\A0X (Int.toNat (ixB b.s 32+0)) (List.length b.s)=true/\leb 0 b.i=true/\ltb b.i (↑(Int.toNat (if(↑(List.length s):Int)+1<ctB s 32+1 then(↑(List.length s):
Int)+1 else ctB s 32+1)):Int)=true/\List.length b.l=Int.toNat (if(↑(List.length s):Int)+1<ctB s 32+1 then(↑(List.length s):Int)+1 else ctB s 32+1)/\List.length b.l=
Int.toNat (if(↑(List.length s):Int)+1<ctB s 32+1 then(↑(List.length s):Int)+1 else ctB s 32+1)/\A0X (Int.toNat b.i+1) (Cont.size (Cont.strs b.l))=true/\inR IntKind.i64 (ixB b.s
32+1)=true/\leb 0 (ixB b.s 32+1)=true/\A0X (Int.toNat (ixB b.s 32+1)) (List.length b.s)=true/\inR IntKind.i64 (b.i+1)=true/\List.length b.l=List.length (List.set b.l (Int.toNat
b.i) (List.take (Int.toNat (ixB b.s 32+0)) b.s))/\List.length b.l=List.length (List.set b.l (Int.toNat b.i) (List.take (Int.toNat (ixB b.s 32+0)) b.s))/\List.set b.l (Int.toNat b.i) (List.take
(Int.toNat (ixB b.s 32+0)) b.s)=List.set b.l (Int.toNat b.i) (List.take (Int.toNat (ixB b.s 32+0)) b.s)/\List.drop (Int.toNat (ixB b.s 32+1)) b.s=List.drop (Int.toNat (ixB b.s 32+1)) b.s
/\uL [32]=[32]/\iI 0=0/\(if(↑(List.length s):Int)+1<ctB s 32+1 then(↑(List.length s):Int)+1 else ctB s 32+1)-1=(if(↑(List.length s):Int)+1<ctB s 32+1 then
(↑(List.length s):Int)+1 else ctB s 32+1)-1/\Int.toNat (if(↑(List.length s):Int)+1<ctB s 32+1 then(↑(List.length s):Int)+1 else ctB s 32+1)=Int.toNat (if(↑(List.length s):
Int)+1<ctB s 32+1 then(↑(List.length s):Int)+1 else ctB s 32+1)/\b.i+1=b.i+1/\(∃(n:Nat),b.i+1=(↑n:Int)/\n<List.length (A0f s)/\List.length (List.set b.l
(Int.toNat b.i) (List.take (Int.toNat (ixB b.s 32+0)) b.s))=List.length (A0f s)/\List.take n (List.set b.l (Int.toNat b.i) (List.take (Int.toNat (ixB b.s 32+0)) b.s))++A0f (List.drop
(Int.toNat (ixB b.s 32+1)) b.s)=A0f s/\List.length (List.drop (Int.toNat (ixB b.s 32+1)) b.s)<=List.length s)/\List.length (List.drop (Int.toNat (ixB b.s 32+1)) b.s)<List.length b.s/\
True))/\(ltb b.i ((if(↑(List.length s):Int)+1<ctB s 32+1 then(↑(List.length s):Int)+1 else ctB s 32+1)-1)=false->leb 0 b.i=true/\ltb b.i (↑(Int.toNat (if(↑(List.length s):
Int)+1<ctB s 32+1 then(↑(List.length s):Int)+1 else ctB s 32+1)):Int)=true/\List.length b.l=Int.toNat (if(↑(List.length s):Int)+1<ctB s 32+1 then(↑(List.length s):Int)
+1 else ctB s 32+1)/\List.length b.l=Int.toNat (if(↑(List.length s):Int)+1<ctB s 32+1 then(↑(List.length s):Int)+1 else ctB s 32+1)/\A0X (Int.toNat b.i+1) (Cont.size
(Cont.strs b.l))=true/\List.length b.l=Int.toNat (if(↑(List.length s):Int)+1<ctB s 32+1 then(↑(List.length s):Int)+1 else ctB s 32+1)/\inR IntKind.i64 (b.i+1)=true/\leb 0
(b.i+1)=true/\A0X (Int.toNat (b.i+1)) (Int.toNat (if(↑(List.length s):Int)+1<ctB s 32+1 then(↑(List.length s):Int)+1 else ctB s 32+1))=true/\Cont.size (Cont.strs (List.set
b.l (Int.toNat b.i) b.s))=Int.toNat (if(↑(List.length s):Int)+1<ctB s 32+1 then(↑(List.length s):Int)+1 else ctB s 32+1)/\Cont.strs (List.take (Int.toNat (b.i+1)) (List.set b.l
(Int.toNat b.i) b.s))=Cont.strs (A0f s)/\Int.toNat (b.i+1)=List.length (A0f s)/\True)):=by kernel_rfl
theorem C4Z (s:List UInt8):fnP (XE) G 10000 C6m (.r [] 0 (.r [] 0 .nil)) ([.str s,.str [32]]) ([.imm (.strs (A0f s)) (A0f s).length none]) ([])=(
((32:UInt8)=32/\List.length s<1000000)/\Cont.strs (A0f s)=Cont.strs (A0f s)/\List.length (A0f s)=List.length (A0f s)/\True):=by kernel_rfl
theorem C40 (a k:List Int):fnP (XT) G 10000 C55 (.r [] 0 (.r [] 1 (.ff (.r [] 1 (.cnd (.r [] 0 .nil) (.r [] 0 (.r [] 1 (.gho 3 9001 1 (Cont.strs []) (.lp (l33 a k) [] [] (fun b=>(.r [] 0 (.cnd (.r [] 0 (.r [] 262177 (.r [] 0 .nil))) (.frz 3 0 (.r [] 0 .nil)))))))))))))) ([A3T a k]) ([.str (txF a k)]) ([])=(
(List.length a=List.length a/\List.length k=List.length k/\List.length a<1000000000000)/\(chk a k !=0)=false/\(((↑(List.length a):Int)==0)=true->[45]=txF a k/\True)/\
(((↑(List.length a):Int)==0)=false->1=1/\Cont.ints IntKind.i64 a=Cont.ints IntKind.i64 a/\List.length a=List.length a/\Cont.ints IntKind.u8 k=Cont.ints IntKind.u8 k/\List.length k=
List.length k/\0=0/\([]:List (List UInt8))=[]/\0=0/\0=0/\Cont.ints IntKind.i64 a=Cont.ints IntKind.i64 a/\List.length a=List.length a/\(↑(List.length a):Int)=(↑(List.length a):Int)/\
iI 0=0/\(∃(n:Nat),0=(↑n:Int)/\n<=List.length a/\[]=List.take n (pcs a k))/\∀(b:L33),(∃(n:Nat),b.i=(↑n:Int)/\n<=List.length a/\b.l=List.take n (pcs a k))->(ltb b.i
(↑(List.length a):Int)=true->leb 0 b.i=true/\ltb b.i (↑(List.length a):Int)=true/\ltn 0 (Cont.size (Cont.ints IntKind.i64 a))=true/\ltn 0 (Cont.size (Cont.ints IntKind.i64 (List.drop
(Int.toNat b.i) a)))=true/\leb 0 b.i=true/\ltb b.i (↑(List.length k):Int)=true/\ltn 0 (Cont.size (Cont.ints IntKind.u8 k))=true/\ltn 0 (Cont.size (Cont.ints IntKind.u8 (List.drop
(Int.toNat b.i) k)))=true/\leb 0 b.i=true/\ltb b.i (↑(List.length k):Int)=true/\ltn 0 (Cont.size (Cont.ints IntKind.u8 k))=true/\ltn 0 (Cont.size (Cont.ints IntKind.u8 (List.drop
(Int.toNat b.i) k)))=true/\inR IntKind.u8 (List.getD (List.drop (Int.toNat b.i) k) 0 0+1)=true/\leb 0 (List.getD (List.drop (Int.toNat b.i) k) 0 0)=true/\leb (List.getD (List.drop
(Int.toNat b.i) k) 0 0) (List.getD (List.drop (Int.toNat b.i) k) 0 0+1)=true/\A0X (Int.toNat (List.getD (List.drop (Int.toNat b.i) k) 0 0+1)) 4=true/\(1<=List.getD (List.drop (Int.toNat
b.i) a) 0 0/\List.getD (List.drop (Int.toNat b.i) a) 0 0<=8)/\A0X (List.length (List.take (Int.toNat (List.getD (List.drop (Int.toNat b.i) k) 0 0+1)-Int.toNat (List.getD (List.drop (Int.toNat
b.i) k) 0 0)) (List.drop (Int.toNat (List.getD (List.drop (Int.toNat b.i) k) 0 0)) ([32,109,118,97]:List UInt8)))+1) 9223372036854775807=true/\List.length b.l=List.length b.l/\A0X ((List.length b.l+
1)*16) 140737488355328=true/\inR IntKind.i64 (b.i+1)=true/\1=1/\Cont.ints IntKind.i64 a=Cont.ints IntKind.i64 a/\List.length a=List.length a/\Cont.ints IntKind.u8 k=Cont.ints
IntKind.u8 k/\List.length k=List.length k/\List.length b.l+1=List.length (b.l++[List.take (Int.toNat (List.getD (List.drop (Int.toNat b.i) k) 0 0+1)-Int.toNat (List.getD (List.drop
(Int.toNat b.i) k) 0 0)) (List.drop (Int.toNat (List.getD (List.drop (Int.toNat b.i) k) 0 0)) ([32,109,118,97]:List UInt8))++[UInt8.ofNat (48+Int.toNat (List.getD (List.drop (Int.toNat b.i) a) 0 0))]])/\
b.l++[List.take (Int.toNat (List.getD (List.drop (Int.toNat b.i) k) 0 0+1)-Int.toNat (List.getD (List.drop (Int.toNat b.i) k) 0 0)) (List.drop (Int.toNat (List.getD (List.drop (Int.toNat b.i) k)
0 0)) ([32,109,118,97]:List UInt8))++[UInt8.ofNat (48+Int.toNat (List.getD (List.drop (Int.toNat b.i) a) 0 0))]]=b.l++[List.take (Int.toNat (List.getD (List.drop (Int.toNat b.i) k) 0 0+1)-Int.toNat
(List.getD (List.drop (Int.toNat b.i) k) 0 0)) (List.drop (Int.toNat (List.getD (List.drop (Int.toNat b.i) k) 0 0)) ([32,109,118,97]:List UInt8))++[UInt8.ofNat (48+Int.toNat (List.getD (List.drop (Int.toNat
b.i) a) 0 0))]]/\0=0/\List.length b.l+1=List.length (b.l++[List.take (Int.toNat (List.getD (List.drop (Int.toNat b.i) k) 0 0+1)-Int.toNat (List.getD (List.drop (Int.toNat b.i) k) 0 0))
(List.drop (Int.toNat (List.getD (List.drop (Int.toNat b.i) k) 0 0)) ([32,109,118,97]:List UInt8))++[UInt8.ofNat (48+Int.toNat (List.getD (List.drop (Int.toNat b.i) a) 0 0))]])/\Cont.ints IntKind.i64 a=
Cont.ints IntKind.i64 a/\List.length a=List.length a/\(↑(List.length a):Int)=(↑(List.length a):Int)/\b.i+1=b.i+1/\(∃(n:Nat),b.i+1=(↑n:Int)/\n<=List.length a/\b.l++
[List.take (Int.toNat (List.getD (List.drop (Int.toNat b.i) k) 0 0+1)-Int.toNat (List.getD (List.drop (Int.toNat b.i) k) 0 0)) (List.drop (Int.toNat (List.getD (List.drop (Int.toNat b.i) k) 0 0))
([32,109,118,97]:List UInt8))++[UInt8.ofNat (48+Int.toNat (List.getD (List.drop (Int.toNat b.i) a) 0 0))]]=List.take n (pcs a k))/\List.length a-Int.toNat (b.i+1)<List.length a-Int.toNat b.i/\
True)/\(ltb b.i (↑(List.length a):Int)=false->List.length b.l=List.length b.l/\(List.length b.l=List.length b.l/\List.length b.l<=100000/\List.length (Lib.join b.l [32])<=100000)/\
Lib.join b.l [32]=txF a k/\True))):=by kernel_rfl
set_option linter.unusedSimpArgs false
theorem C41:evM G (aget xpl) B0l me0 100000 1000 1 [] (.fn 47 [] []) [.int .i64 1]=some ⟨.str [49],[],[],[]⟩:=by kernel_rfl
theorem C42:evM G (aget xpl) B0l me0 100000 1000 1 [] (.fn 47 [] []) [.int .i64 2]=some ⟨.str [50],[],[],[]⟩:=by kernel_rfl
theorem C43:evM G (aget xpl) B0l me0 100000 1000 1 [] (.fn 47 [] []) [.int .i64 3]=some ⟨.str [51],[],[],[]⟩:=by kernel_rfl
theorem C44:evM G (aget xpl) B0l me0 100000 1000 1 [] (.fn 47 [] []) [.int .i64 4]=some ⟨.str [52],[],[],[]⟩:=by kernel_rfl
theorem C45:evM G (aget xpl) B0l me0 100000 1000 1 [] (.fn 47 [] []) [.int .i64 5]=some ⟨.str [53],[],[],[]⟩:=by kernel_rfl
theorem C46:evM G (aget xpl) B0l me0 100000 1000 1 [] (.fn 47 [] []) [.int .i64 6]=some ⟨.str [54],[],[],[]⟩:=by kernel_rfl
theorem C47:evM G (aget xpl) B0l me0 100000 1000 1 [] (.fn 47 [] []) [.int .i64 7]=some ⟨.str [55],[],[],[]⟩:=by kernel_rfl
theorem C48:evM G (aget xpl) B0l me0 100000 1000 1 [] (.fn 47 [] []) [.int .i64 8]=some ⟨.str [56],[],[],[]⟩:=by kernel_rfl
theorem D4y (n:Int)(h0:1<=n)(h1:n<=8):SpecP Tryz.prog G 47 [.int .i64 n] (.str [UInt8.ofNat (48+n.toNat)]) []:=by
 obtain⟨m,rfl⟩:∃m:Nat,n=m:=⟨n.toNat,(Int.toNat_of_nonneg (by omega)).symm⟩;have hm:m=1\/m=2\/m=3\/m=4\/m=5\/m=6\/m=7\/m=8:=by omega
 rcases hm with rfl|rfl|rfl|rfl|rfl|rfl|rfl|rfl
 ·exact A0A hcm hmx B0O A1W A6y C41 rfl
 ·exact A0A hcm hmx B0O A1W A6y C42 rfl
 ·exact A0A hcm hmx B0O A1W A6y C43 rfl
 ·exact A0A hcm hmx B0O A1W A6y C44 rfl
 ·exact A0A hcm hmx B0O A1W A6y C45 rfl
 ·exact A0A hcm hmx B0O A1W A6y C46 rfl
 ·exact A0A hcm hmx B0O A1W A6y C47 rfl
 ·exact A0A hcm hmx B0O A1W A6y C48 rfl
theorem D2I:A06 Tryz.prog G 47 e34:=by
 intro args r hr hp;unfold e34 at hr;split at hr<;>cases hr;exact D4y _ hp.1 hp.2
theorem C8h (l:List (List UInt8))(n:Nat)(cap:Option Nat)(sep:List UInt8)(h1:n=l.length)(h2:l.length<=100000)(h3:(Lib.join l sep).length<=100000):SpecP Tryz.prog G 63 [.imm (.strs l) n cap,.str sep] (.str (Lib.join l sep)) []:=by
 refine B5C 63 _ _ _ ?_;have e1:Nat.beq n l.length=true:=by rw[h1];exact Nat.beq_refl _
 have e2:Nat.ble l.length 100000=true:=Nat.ble_eq_true_of_le h2;have e3:Nat.ble (Lib.join l sep).length 100000=true:=Nat.ble_eq_true_of_le h3;simp[B3N,B7p,e1,e2,e3]
theorem ct57:A06 Tryz.prog G 63 e57:=by
 intro args r hr hp;unfold e57 at hr;split at hr<;>cases hr;exact C8h _ _ _ _ hp.1 hp.2.1 hp.2.2
theorem D4z:TabOk Tryz.prog G XT:=A0m A0s ⟨D2I,ct57,C1R,trivial⟩
theorem C1e (n k:Int):(pcT n k).length=2:=rfl
theorem D4A {k:Int}(h:k=1\/k=2\/k=3):([32,109,118,97]:List UInt8).drop k.toNat=C1M k::([32,109,118,97]:List UInt8).drop (k.toNat+1):=by
 rcases h with rfl|rfl|rfl<;>rfl
theorem B24:∀(l:List (List UInt8)) (sep:List UInt8),(∀x∈l,x.length=2)->(Lib.join l [32]).length<=3*l.length
 |[],sep,h=>by simp[Lib.join_nil]
 |x::r,sep,h=>by
  rw[Lib.join_cons,Lib.joinTail,List.length_append,List.length_flatten,List.map_map];have:∀r:List (List UInt8),(∀x∈r,x.length=2)->(r.map (List.length∘fun x=>[32]++x)).sum=3*r.length:=by
   intro r
   induction r with
   |nil=>intro _;rfl
   |cons y r ih=>
    intro hr;rw[List.map_cons,List.sum_cons,ih fun x hx=>hr x (List.mem_cons_of_mem _ hx)];have:=hr y List.mem_cons_self;simp[this];omega
  rw[this r fun x hx=>h x (List.mem_cons_of_mem _ hx),h x List.mem_cons_self];simp;omega
theorem A2q:∀(a:List Int),(∀x∈a,1<=x)->(a.length:Int)<=a.sum
 |[],_=>by simp
 |x::r,h=>by
  have:=A2q r fun y hy=>h y (List.mem_cons_of_mem _ hy);have:=h x List.mem_cons_self;simp;omega
theorem B25:∀(a:List Int),(∀x∈a,1<=x)->∀x∈a,x<=a.sum
 |x::r,h,y,hy=>by
  have h1:=A2q r fun y hy=>h y (List.mem_cons_of_mem _ hy);have h2:=h x List.mem_cons_self;rw[List.sum_cons];rcases List.mem_cons.1 hy with rfl|hy
  ·omega
  ·have:=B25 r (fun y hy=>h y (List.mem_cons_of_mem _ hy)) y hy;omega
theorem D4B (a k:List Int)(hc:chk a k=0):SpecP Tryz.prog G 40 [A3T a k] (.str (txF a k)) []:=by
 refine A0d hcm hmx D4z D04 rfl (C40 a k) ?_;obtain⟨h1,h2,h3⟩:=A2y hc;have hs:=h2.2;have hl:a.length<=8:=by have:=A2q a h2.1;omega
 have pl:(pcs a k).length=a.length:=by unfold pcs;rw[List.length_zipWith,<- h1];omega
 have pk:∀(n:Nat),n<a.length->(1<=k[n]?.getD 0/\k[n]?.getD 0<=3)/\(1<=a[n]?.getD 0/\a[n]?.getD 0<=8)/\(pcs a k)[n]? =some (pcT (a[n]?.getD 0) (k[n]?.getD 0)):=fun n hn=>by
  have e1:a[n]? =some a[n]:=List.getElem?_eq_getElem hn;have hk:n<k.length:=by omega
  have e2:k[n]? =some k[n]:=List.getElem?_eq_getElem hk;rw[e1,e2];have g1:=h3 _ (List.getElem_mem hk);have g2:=h2.1 _ (List.getElem_mem hn);have g3:=B25 a h2.1 _ (List.getElem_mem hn);refine⟨g1,⟨g2,by simp only[Option.getD_some];omega⟩,?_⟩;unfold pcs;rw[List.getElem?_zipWith,e1,e2];rfl
 simp only[A0n,A0K,A0H,A09,A0Q,A1x,A0E,A03,A0w,A1t,A0F,A0G,List.getElem?_drop,beq_iff_eq,beq_eq_false_iff_ne,bne_iff_ne,bne_eq_false_iff_eq,ne_eq,Nat.zero_add,Nat.add_zero,Nat.mul_one,Int.toNat_natCast,and_true,true_and,List.length_drop,List.length_append,List.length_cons,List.length_nil,List.length_set,List.getD_eq_getElem?_getD,implies_true,iI,iL,Int.natCast_inj];refine⟨by omega,hc,fun h0=>?_,fun h0=>⟨⟨0,rfl,by omega,by simp⟩,?_⟩⟩
 ·have:a=[]:=List.length_eq_zero_iff.1 (by omega);unfold txF;rw[if_pos this]
 ·rintro⟨i,l⟩ ⟨n,rfl,hn,rfl⟩;simp only[Int.toNat_natCast,List.length_take,pl];refine⟨fun hlt=>?_,fun hge=>?_⟩
  ·obtain⟨⟨k1,k2⟩,⟨a1,a2⟩,pe⟩:=pk n (by omega);generalize k[n]?.getD 0=kk at*;generalize a[n]?.getD 0=aa at*;have e1:(kk+1).toNat-kk.toNat=1:=by omega
   rw[e1,D4A (by omega)];have tk:(pcs a k).take (n+1)=(pcs a k).take n++[pcT aa kk]:=by
    rw[List.take_add_one,pe];rfl
   have ln:min n a.length=n:=by omega
   simp only[List.take_succ_cons,List.take_zero,List.length_cons,List.length_nil,ln,List.singleton_append]
   repeat refine⟨by omega,?_⟩
   refine⟨⟨n+1,by omega,by omega,?_⟩,by omega⟩;rw[tk];rfl
  ·have:n=a.length:=by omega
   subst this;have e1:(pcs a k).take a.length=pcs a k:=List.take_of_length_le (by omega);rw[e1];have jl:=B24 (pcs a k) [32] fun x hx=>by
    obtain⟨m,hm⟩:=List.mem_iff_getElem?.1 hx;have hlt:m<a.length:=by
     obtain⟨h,_⟩:=List.getElem?_eq_some_iff.1 hm;omega
    have:=(pk m hlt).2.2;rw[this]at hm;cases hm;exact C1e _ _
   refine⟨⟨by omega,by omega⟩,?_⟩;unfold txF;rw[if_neg];rintro rfl;simp at h0
theorem D4C:A06 Tryz.prog G 40 e33:=by
 intro args r hr hp;unfold e33 at hr;split at hr<;>cases hr;obtain⟨rfl,rfl,h⟩:=hp;exact(D4B _ _ h).caps
theorem D4D:TabOk Tryz.prog G tN:=A0m (l:=[(17,e17)]) A0s ⟨C1R,trivial⟩
theorem B6c {l:List Int}{n:Nat}(h:n<l.length):wsum (l.take (n+1))=IntKind.i64.wrap (wsum (l.take n)+l[n]?.getD 0):=by
 have e:l[n]? =some l[n]:=List.getElem?_eq_getElem h;rw[List.take_add_one,e];simp only[wsum,Option.toList_some,List.foldl_append,List.foldl_cons,List.foldl_nil,Option.getD_some]
theorem D4E (a k:List Int)(hz:a.length<1000000000):SpecP Tryz.prog G 18 [A3T a k] (.bool (flB a k)) []:=by
 refine A0d hcm hmx D4D D0s rfl (C4T a k) ?_;simp only[A0n,A0K,A0H,A09,A0Q,A1x,A0E,A03,A0w,A1t,A1q,A0F,A0I,A0r,A0J,A0G,List.getElem?_drop,beq_iff_eq,beq_eq_false_iff_ne,bne_iff_ne,bne_eq_false_iff_eq,ne_eq,Nat.zero_add,Nat.add_zero,Nat.mul_one,Int.toNat_natCast,and_true,true_and,List.length_drop,List.length_append,List.length_cons,List.length_nil,List.length_set,List.getD_eq_getElem?_getD,implies_true,iI,iL,Bool.not_eq_true',Bool.not_eq_false',Int.natCast_inj];refine⟨⟨0,rfl,by omega,rfl⟩,?_⟩;rintro⟨i,s⟩ ⟨n,rfl,hn,rfl⟩;simp only[Int.toNat_natCast];refine⟨fun hlt=>?_,fun hge=>?_⟩
 ·have hl:n<a.length:=by omega
  refine⟨by omega,by omega,by omega,by omega,by omega,⟨n+1,by omega,by omega,(B6c hl).symm⟩,by omega⟩
 ·obtain rfl:n=a.length:=by omega
  rw[List.take_length];unfold flB;refine⟨by omega,fun hc=>⟨fun h8=>?_,fun h8=>?_⟩,fun hc=>?_⟩
  ·rw[hc,h8];rfl
  ·rw[hc,beq_eq_false_iff_ne.2 h8];simp only[beq_self_eq_true,Bool.true_and,Bool.false_or];rw[Bool.eq_iff_iff];simp
  ·rw[beq_eq_false_iff_ne.2 hc];rfl
theorem D4F:A06 Tryz.prog G 18 e31:=by
 intro args r hr hp;unfold e31 at hr;split at hr<;>cases hr;obtain⟨rfl,rfl,h⟩:=hp;exact(D4E _ _ h).caps
theorem D2J:A06 Tryz.prog G 24 e54:=by
 intro args r hr hp;unfold e54 at hr;split at hr<;>cases hr;rename_i l n c;have:SpecP Tryz.prog G 24 [.imm (.vals l) n none] (.imm (.vals l) n (some n)) []:=by
  refine A0d hcm hmx A26 D0B rfl (C4U l n) ?_;simp only[A0n,A0K,A0H,A09,A0Q,A1x,A0E,A03,A0w,A1t,A1q,A0F,A0I,A0r,A0J,A0G,List.getElem?_drop,beq_iff_eq,beq_eq_false_iff_ne,bne_iff_ne,bne_eq_false_iff_eq,ne_eq,Nat.zero_add,Nat.add_zero,Nat.mul_one,Int.toNat_natCast,and_true,true_and,List.length_drop,List.length_append,List.length_cons,List.length_nil,List.length_set,List.getD_eq_getElem?_getD,implies_true,iI,iL,Bool.not_eq_true',Bool.not_eq_false',Int.natCast_inj];have hp:l.length=3*n:=hp;omega
 exact this.caps
theorem C9x (a k:List Int)(f:Int):TabOk Tryz.prog G (V30 a k f):=A0m (C4Q a k f) ⟨C1R,D4F,D2J,trivial⟩
theorem C9y {f:Int}(h0:0<=f):∃r:Nat,f.tmod 8=r/\r<8:=by
 refine⟨f.toNat%8,?_,Nat.mod_lt _ (by decide)⟩;obtain⟨m,rfl⟩:∃m:Nat,f=m:=⟨f.toNat,(Int.toNat_of_nonneg h0).symm⟩;rfl
theorem C1f {r:Nat}(h:r<8):([AV.imm (Cont.vals [AV.int .i64 6,AV.int .u8 0,AV.int .u8 0]) 1 none,AV.imm (Cont.vals [AV.int .i64 12,AV.int .u8 2,AV.int .u8 0,AV.int .i64 13,AV.int .u8 2,AV.int .u8 0]) 2 none,AV.imm (Cont.vals [AV.int .i64 9,AV.int .u8 0,AV.int .u8 0]) 1 none,AV.imm (Cont.vals [AV.int .i64 8,AV.int .u8 1,AV.int .u8 0,AV.int .i64 10,AV.int .u8 1,AV.int .u8 0]) 2 none,AV.imm (Cont.vals [AV.int .i64 2,AV.int .u8 0,AV.int .u8 0]) 1 none,AV.imm (Cont.vals [AV.int .i64 0,AV.int .u8 2,AV.int .u8 0,AV.int .i64 1,AV.int .u8 2,AV.int .u8 0]) 2 none,AV.imm (Cont.vals [AV.int .i64 1,AV.int .u8 0,AV.int .u8 0]) 1 none,AV.imm (Cont.vals [AV.int .i64 4,AV.int .u8 1,AV.int .u8 0,AV.int .i64 6,AV.int .u8 1,AV.int .u8 0]) 2 none]:List AV)[r]? =some (AV.imm (Cont.vals (A9a r)) (A3U r) none):=by
 have:r=0\/r=1\/r=2\/r=3\/r=4\/r=5\/r=6\/r=7:=by omega
 rcases this with rfl|rfl|rfl|rfl|rfl|rfl|rfl|rfl<;>rfl
theorem B6d (r:Int):A3U r<=2:=by
 unfold A3U B1x;split<;>simp
theorem B8e (r:Int):(A9a r).length=3*A3U r:=by
 unfold A9a flatC;rw[RCr.flat_len,List.length_map];show(B1x r).length*3=3*(B1x r).length;omega
theorem A84 (r x:Int):(B0p r x).length=A3U r:=by unfold B0p A3U;rw[List.length_map]
theorem C1g {r:Int}{m:Nat}(h:m<A3U r):(A9a r)[m*3]? =some (.int .i64 (rcC r m))/\(A9a r)[m*3+1]? =some (.int .u8 (rcE r m))/\(A9a r)[m*3+2]? =some (.int .u8 0)/\∀x,(B0p r x)[m]? =some (rcC r m,rcE r m,x):=by
 have hl:m<(B1x r).length:=h;have e:(B1x r)[m]? =some (B1x r)[m]:=List.getElem?_eq_getElem hl;have key:∀j,j<3->(A9a r)[m*3+j]? =(RCr.av ((B1x r)[m].1,(B1x r)[m].2,0))[j]? :=fun j hj=>by
  unfold A9a flatC;rw[A1M (by decide:0<3) RCr.av_len,show(m*3+j)/3=m by omega,show(m*3+j)%3=j by omega,List.getElem?_map,e];rfl
 have c1:rcC r m=(B1x r)[m].1:=by unfold rcC;rw[Int.toNat_natCast,e];rfl
 have c2:rcE r m=(B1x r)[m].2:=by unfold rcE;rw[Int.toNat_natCast,e];rfl
 refine⟨?_,?_,?_,fun x=>?_⟩
 ·rw[c1];exact key 0 (by decide)
 ·rw[c2];exact key 1 (by decide)
 ·exact key 2 (by decide)
 ·unfold B0p;rw[List.getElem?_map,e,c1,c2];rfl
theorem B0D (a b:List Cr):flatC (a++b)=flatC a++flatC b:=by unfold flatC;rw[List.flatMap_append]
theorem A1S (l:List Cr):(flatC l).length=l.length*3:=RCr.flat_len l
theorem B0E:∀{a k:List Int} {n:Nat} {f:Int},n<a.length->n<k.length->rawF (a.take (n+1)) (k.take (n+1)) f=rawF (a.take n) (k.take n) f++B0p ((f+(a.take n).sum).tmod 8) (k[n]?.getD 0)
 |x::a,y::k,0,f,_,_=>by simp[rawF]
 |x::a,y::k,n+1,f,h1,h2=>by
  have ih:=B0E (f:=f+x) (by simpa using h1:n<a.length) (by simpa using h2:n<k.length);simp only[List.take_succ_cons,rawF]at ih ⊢;rw[ih,List.append_assoc];simp[Int.add_assoc]
theorem A85:∀(a k:List Int) (f:Int),(rawF a k f).length<=2*a.length
 |[],k,f=>by simp[rawF]
 |n::a,[],f=>by simp[rawF]
 |n::a,x::k,f=>by
  have:=A85 a k (f+n);have h2:=B6d (f.tmod 8);simp only[rawF,List.length_append,A84,List.length_cons];omega
theorem A22 {a:List Int}(h:∀x∈a,1<=x)(n:Nat):0<=(a.take n).sum/\(a.take n).sum<=a.sum:=by
 have h1:a.sum=(a.take n++a.drop n).sum:=by rw[List.take_append_drop]
 rw[List.sum_append]at h1;have h2:=A2q (a.take n) fun x hx=>h x (List.mem_of_mem_take hx);have h3:=A2q (a.drop n) fun x hx=>h x (List.mem_of_mem_drop hx);omega
theorem B26 {a:List Int}{n:Nat}(h:n<a.length):(a.take (n+1)).sum=(a.take n).sum+a[n]?.getD 0:=by
 have e:a[n]? =some a[n]:=List.getElem?_eq_getElem h;rw[List.take_add_one,e,List.sum_append];simp
theorem C49 {a k:List Int}{f:Int}(h:A2Q a k f≠0):bI (A2Q a k f==0) 2 0=0/\A3V a k f=[]:=by
 unfold bI A3V;rw[if_neg h,beq_eq_false_iff_ne.2 h];exact⟨rfl,rfl⟩
theorem C1h {a k:List Int}{f:Int}(h:A2Q a k f=0):bI (A2Q a k f==0) 2 0=2/\A3V a k f=A14 A3S (rawF a k f):=by
 unfold bI A3V;rw[if_pos h,h];exact⟨rfl,rfl⟩
theorem D4G (a k:List Int)(f:Int)(hz:a.length<1000000000):SpecP Tryz.prog G 6 [A3T a k,.int .i64 f] (.tup [.agg [.int .i64 (bI (A2Q a k f==0) 2 0),.int .i64 (bI (A2Q a k f==0) 2 0),.imm (.vals (flatC (A3V a k f))) (A3V a k f).length (some (A3V a k f).length)],.int .i64 (A2Q a k f)]) []:=by
 refine A0d hcm hmx (C9x a k f) ok6 rfl (C4V a k f) ?_;simp only[A0n,A0K,A0H,A09,A0Q,A1x,A0E,A03,A0w,A1t,A1q,A0F,A0I,A0r,A0J,A0G,List.getElem?_drop,beq_iff_eq,beq_eq_false_iff_ne,bne_iff_ne,bne_eq_false_iff_eq,ne_eq,Nat.zero_add,Nat.add_zero,Nat.mul_one,Int.toNat_natCast,and_true,true_and,List.length_drop,List.length_append,List.length_cons,List.length_nil,List.length_set,List.getD_eq_getElem?_getD,implies_true,iI,iL,Bool.not_eq_true',Bool.not_eq_false',Int.natCast_inj];have no:∀e:Int,e≠0->A2Q a k f=e->0=bI (A2Q a k f==0) 2 0/\0=bI (A2Q a k f==0) 2 0/\(flatC (A3V a k f)).length=0/\(A3V a k f).length=0/\(A3V a k f).length=0/\e=A2Q a k f:=fun e he h=>by
  obtain⟨h1,h2⟩:=C49 (h▸he:A2Q a k f≠0);rw[h1,h2];exact⟨rfl,rfl,rfl,rfl,rfl,h.symm⟩
 refine⟨by omega,fun h=>no _ h (by unfold A2Q;rw[if_neg h]),fun hc=>⟨by omega,fun h=>no 14 (by decide) (by unfold A2Q;rw[if_pos hc,h];rfl),fun hfl=>⟨fun h=>no 1 (by decide) (by unfold A2Q;rw[if_pos hc,if_pos hfl,if_pos (.inl h)]),fun h0=>⟨fun h=>no 1 (by decide) (by unfold A2Q;rw[if_pos hc,if_pos hfl,if_pos (.inr h)]),fun h7=>?_⟩⟩⟩⟩;obtain⟨c1,c2,c3⟩:=A2y hc;have s3:=c2.2;have hE:A2Q a k f=0:=by unfold A2Q;rw[if_pos hc,if_pos hfl,if_neg (by omega)]
 obtain⟨y1,y2⟩:=C1h hE;refine⟨⟨0,rfl,by omega,by simp,by simp[rawF,flatC],by simp[rawF]⟩,?_⟩;rintro⟨i,ff,l,m⟩ ⟨n,rfl,hn,rfl,rfl,rfl⟩;simp only[Int.toNat_natCast];refine⟨fun hlt=>?_,fun hge=>?_⟩
 ·have hnl:n<a.length:=by omega
  have hnk:n<k.length:=by omega
  obtain⟨s1,s2⟩:=A22 c2.1 n;obtain⟨s4,s5⟩:=A22 c2.1 (n+1);have s6:=B26 hnl;obtain⟨r,er,hr⟩:=C9y (f:=f+(a.take n).sum) (by omega);have rl:=A85 (a.take n) (k.take n) f;have hs:=B0E (f:=f) hnl hnk;rw[List.length_take]at rl;rw[er]at hs ⊢;simp only[Int.toNat_natCast];refine⟨by omega,by omega,by omega,by omega,by omega,by omega,C1f hr,⟨0,rfl,by omega,by simp[flatC],by omega⟩,?_⟩;rintro⟨j,l2,n2⟩ ⟨m,rfl,hm,rfl,rfl⟩;simp only[Int.toNat_natCast];have r2:=B6d r;refine⟨fun hjl=>?_,fun hjg=>?_⟩
  ·have hml:m<A3U r:=by omega
   obtain⟨g1,g2,g3,g4⟩:=C1g hml;have vl:=B8e r;have tk:(B0p r (k[n]?.getD 0)).take (m+1)=(B0p r (k[n]?.getD 0)).take m++[(rcC r m,rcE r m,k[n]?.getD 0)]:=by rw[List.take_add_one,g4];rfl
   refine⟨by omega,by omega,by omega,g1,g2,g3,by omega,by omega,by omega,by omega,by omega,by omega,⟨m+1,by omega,by omega,?_,by omega⟩,by omega⟩;rw[tk,B0D,List.append_assoc];rfl
  ·obtain rfl:m=A3U r:=by omega
   have tk:(B0p r (k[n]?.getD 0)).take (A3U r)=B0p r (k[n]?.getD 0):=List.take_of_length_le (by rw[A84];exact Nat.le_refl _);rw[tk];refine⟨by omega,by omega,⟨n+1,by omega,by omega,by omega,?_,?_⟩,by omega⟩
   ·rw[hs,B0D]
   ·rw[hs,List.length_append,A84]
 ·obtain rfl:n=a.length:=by omega
  have tk:k.take a.length=k:=List.take_of_length_le (by omega);have rl:=A85 a k f;have l8:=A2q a c2.1;have sl:(A14 A3S (rawF a k f)).length=(rawF a k f).length:=(A2N C1a _).1.length_eq;rw[List.take_length,tk,y1,y2,A1S,sl];refine⟨⟨rfl,by omega⟩,by omega,rfl,rfl,rfl,rfl,rfl,hE.symm⟩
end Go.Proofs.YtfafinkgmhkdmaaGreatDoor.X
