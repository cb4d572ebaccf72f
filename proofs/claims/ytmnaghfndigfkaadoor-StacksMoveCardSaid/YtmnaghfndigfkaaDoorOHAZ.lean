/-
 What is to be shown of the functions (made by a program).
-/
import Derived.Test.YtmnaghfndigfkaaDoorHAZ
import Derived.KernelRfl
set_option maxRecDepth 1000000
set_option linter.unusedVariables false
namespace Go.Proofs.YtmnaghfndigfkaaDoor.X
open Go Go.Ab

theorem ob_o64 (x y q:Int):fnP (T0) G 10000 fe64 (.r [] 0 (.r [] 1 .nil)) ([.int .i64 x,.int .i64 y,.int .u8 q]) ([.agg [.int .i64 x,.int .i64 y,.int .u8 q]]) ([])=(
x=x∧y=y∧q=q∧True):=by kernel_rfl

theorem ob_o67f (ks:List Int):fnP (T0) G 10000 fe67 (.r [] 0 (.nl 1 [] 0 3 (.r [] 0 (.lit (.r [] 0 (.frz 2 0 .nil)))) (.r [] 0 (.lit (.r [] 1 (.frz 2 0 .nil)))))) ([layV ks]) ([layV ks]) ([])=(
(List.length ks=0∧Cont.size (Cont.ints IntKind.i64 ks)=0→Cont.size (Cont.ints IntKind.i64 ks)=0∧List.length ks=0∧True)∧len' ((0+List.length ks)*8) 140737488355328=true∧
Cont.size (Cont.ints IntKind.i64 ks)=List.length ks∧0+List.length ks=0+List.length ks∧Cont.ints IntKind.i64 ([]++ks)=Cont.ints IntKind.i64 ks∧0+List.length ks=List.length ks∧
True):=by kernel_rfl

theorem ob_o66f (ks:List Int):fnP (T0) G 10000 fe66 (.r [] 0 (.r [] 5 .nil)) ([layV ks]) ([layC ks]) ([])=(
Int.toNat (↑(List.length ks):Int)=List.length ks∧Int.toNat (↑(List.length ks):Int)=List.length ks∧Cont.size (Cont.ints IntKind.i64 ks)=List.length ks∧Cont.ints IntKind.i64 ks=
Cont.ints IntKind.i64 ks∧List.length ks=List.length ks∧List.length ks=List.length ks∧True):=by kernel_rfl

theorem ob_o19 (a b:List Int)(c:Nat):fnP (T0) G 10000 fe19 (.r [] 0 (.rs 6 [] 0 11 (.r [] 3 (.lit (.r [] 0 .nil))) (.r [] 3 (.cnd (.r [] 0 .nil) (.r [] 0 (.lp (l19 a b) [] [] (fun b_1=>(.r [] 0 (.cnd (.r [] 0 (.cnd (.r [] 0 .nil) (.r [] 0 .nil))) (.r [] 0 .nil)))))))))) ([.imm (.ints .i64 a) a.length (some c),layV b]) ([.int .i64 (bI (Nat.beq c a.length&&eqK a b) 1 0)]) ([])=(
(((↑(List.length a):Int) !=(↑(List.length b):Int))=true→0=bI (Nat.beq c (List.length a)&&eqK a b) 1 0∧True)∧(((↑(List.length a):Int) !=(↑(List.length b):Int))=false→(((↑c:
Int) !=(↑(List.length a):Int))=true→0=bI (Nat.beq c (List.length a)&&eqK a b) 1 0∧True)∧(((↑c:Int) !=(↑(List.length a):Int))=false→Cont.ints IntKind.i64 a=Cont.ints
IntKind.i64 a∧List.length a=List.length a∧c=c∧Cont.ints IntKind.i64 b=Cont.ints IntKind.i64 b∧List.length b=List.length b∧iI 0=0∧(∃(n:Nat),0=(↑n:Int)∧n≤List.length a
∧eqK (List.drop n a) (List.drop n b)=eqK a b)∧∀(b_1:L1),(∃(n:Nat),b_1.i=(↑n:Int)∧n≤List.length a∧eqK (List.drop n a) (List.drop n b)=eqK a b)→(ltb b_1.i (↑(List.length a):
Int)=true→leb 0 b_1.i=true∧ltb b_1.i (↑(List.length a):Int)=true∧ltn 0 (Cont.size (Cont.ints IntKind.i64 a))=true∧ltn 0 (Cont.size (Cont.ints IntKind.i64 (List.drop (Int.toNat b_1.i)
a)))=true∧leb 0 b_1.i=true∧ltb b_1.i (↑(List.length b):Int)=true∧ltn 0 (Cont.size (Cont.ints IntKind.i64 b))=true∧ltn 0 (Cont.size (Cont.ints IntKind.i64 (List.drop (Int.toNat b_1.i)
b)))=true∧((List.getD (List.drop (Int.toNat b_1.i) a) 0 0 !=List.getD (List.drop (Int.toNat b_1.i) b) 0 0)=true→0=bI (Nat.beq c (List.length a)&&eqK a b) 1 0∧True)∧((List.getD
(List.drop (Int.toNat b_1.i) a) 0 0 !=List.getD (List.drop (Int.toNat b_1.i) b) 0 0)=false→inR IntKind.i64 (b_1.i+1)=true∧Cont.ints IntKind.i64 a=Cont.ints IntKind.i64 a∧List.length a=
List.length a∧c=c∧Cont.ints IntKind.i64 b=Cont.ints IntKind.i64 b∧List.length b=List.length b∧b_1.i+1=b_1.i+1∧(∃(n:Nat),b_1.i+1=(↑n:Int)∧n≤List.length a∧eqK
(List.drop n a) (List.drop n b)=eqK a b)∧List.length a-Int.toNat (b_1.i+1)<List.length a-Int.toNat b_1.i∧True))∧(ltb b_1.i (↑(List.length a):Int)=false→1=bI (Nat.beq c
(List.length a)&&eqK a b) 1 0∧True)))):=by kernel_rfl

theorem ob_o15 (l:List Sk):fnP (TH15) G 10000 fe15 (.r [] 0 (.r [] 0 (.r [] 0 (.gho 3 9001 4 (Cont.vals []) (.lp (l15 l) [] [] (fun b=>(.rs 5 [] 0 11 (.r [] 3 (.cnd (.r [(388,.auto,Dr.val [AV.int IntKind.i8 (tX l b.i)]),(394,.auto,Dr.val [AV.int IntKind.i8 (tY l b.i)]),(400,.auto,Dr.val [AV.int IntKind.u8 (tQ l b.i)])] 114688 (.r [] 0 (.ghc 404 3 9002 1 (Cont.ints IntKind.i64 []) (.lp (m15 l b.i) [] [] (fun b_1=>(.rs 9 [(517,.auto,Dr.val [pV l b.i])] 0 45 (.r [] 3 (.cnd (.r [(646,.auto,Dr.val [pV l b.i])] 12289 (.r [] 0 .nil)) (.frz 5 0 (.r [] 9 (.r [] 0 .nil))))) (.r [] 3 (.lit (.frz 5 0 (.r [] 9 (.r [] 0 .nil))))))))))) (.r [] 0 (.frz 2 0 .nil)))) (.r [] 3 (.lit (.r [] 0 (.frz 2 0 .nil))))))))))) ([.imm (.vals (flatR l)) l.length none]) ([.imm (.vals (flatT (stO l))) (stO l).length none]) ([])=(
0=0∧([]:List AV)=[]∧Cont.vals (flatR l)=Cont.vals (flatR l)∧List.length l=List.length l∧0=0∧iI 0=0∧(∃(n:Nat),0=(↑n:Int)∧n≤List.length l∧n≤20∧[]=flatT
(List.map stk (List.take n l))∧0=n)∧∀(b:L15),(∃(n:Nat),b.i=(↑n:Int)∧n≤List.length l∧n≤20∧b.o=flatT (List.map stk (List.take n l))∧b.n=n)→(ltb b.i (↑(List.length l)
:Int)=true→(ltb b.i 20=true→leb 0 b.i=true∧ltb b.i (↑(List.length l):Int)=true∧ltn 0 (Cont.size (Cont.vals (flatR l)))=true∧(List.drop 0 (List.drop (Int.toNat b.i*4) (flatR
l)))[0]? =some (AV.int IntKind.i8 (tX l b.i))∧inR IntKind.i64 (tX l b.i)=true∧leb 0 b.i=true∧ltb b.i (↑(List.length l):Int)=true∧ltn 0 (Cont.size (Cont.vals (flatR l)))=true∧
(List.drop 1 (List.drop (Int.toNat b.i*4) (flatR l)))[0]? =some (AV.int IntKind.i8 (tY l b.i))∧inR IntKind.i64 (tY l b.i)=true∧leb 0 b.i=true∧ltb b.i (↑(List.length l):Int)=true∧ltn
0 (Cont.size (Cont.vals (flatR l)))=true∧(List.drop 2 (List.drop (Int.toNat b.i*4) (flatR l)))[0]? =some (AV.int IntKind.u8 (tQ l b.i))∧b.n=b.n∧b.o=b.o∧1=1∧tX l b.i=tX l b.i∧
tY l b.i=tY l b.i∧Int.tmod (tQ l b.i) 4=Int.tmod (tQ l b.i) 4∧0=0∧0=0∧iL []=[]∧Cont.vals (flatR l)=Cont.vals (flatR l)∧List.length l=List.length l∧b.n=b.n∧b.i=b.i∧
b.i=b.i∧ltb b.i 20=ltb b.i 20∧0=0∧iI 0=0∧(∃(n:Nat),0=(↑n:Int)∧n≤List.length (tKh l b.i)∧n≤8∧[]=List.take n (tKh l b.i)∧0=n)∧∀(b_1:M15),(∃(n:Nat),b_1.k=
(↑n:Int)∧n≤List.length (tKh l b.i)∧n≤8∧b_1.o=List.take n (tKh l b.i)∧b_1.n=n)→leb 0 b.i=true∧ltb b.i (↑(List.length l):Int)=true∧ltn 0 (Cont.size (Cont.vals (flatR l)))=
true∧(List.drop 3 (List.drop (Int.toNat b.i*4) (flatR l)))[0]? =some (AV.imm (Cont.ints IntKind.u8 (tKh l b.i)) (List.length (tKh l b.i)) none)∧(ltb b_1.k (↑(List.length (tKh l b.i)):Int)=true
→(ltb b_1.k 8=true→leb 0 b.i=true∧ltb b.i (↑(List.length l):Int)=true∧ltn 0 (Cont.size (Cont.vals (flatR l)))=true∧(List.drop 3 (List.drop (Int.toNat b.i*4) (flatR l)))[0]? =some
(AV.imm (Cont.ints IntKind.u8 (tKh l b.i)) (List.length (tKh l b.i)) none)∧leb 0 b_1.k=true∧ltb b_1.k (↑(List.length (tKh l b.i)):Int)=true∧ltn 0 (Cont.size (Cont.ints IntKind.u8 (tKh l b.i)))
=true∧ltn 0 (Cont.size (Cont.ints IntKind.u8 (List.drop (Int.toNat b_1.k) (tKh l b.i))))=true∧inR IntKind.i64 (List.getD (List.drop (Int.toNat b_1.k) (tKh l b.i)) 0 0)=true∧b_1.n=b_1.n∧
len' ((b_1.n+1)*8) 140737488355328=true∧inR IntKind.i64 (b_1.k+1)=true∧b.n=b.n∧b.o=b.o∧1=1∧tX l b.i=tX l b.i∧tY l b.i=tY l b.i∧Int.tmod (tQ l b.i) 4=Int.tmod (tQ l
b.i) 4∧b_1.n+1=b_1.n+1∧b_1.n+1=b_1.n+1∧b_1.o++[List.getD (List.drop (Int.toNat b_1.k) (tKh l b.i)) 0 0]=b_1.o++[List.getD (List.drop (Int.toNat b_1.k) (tKh l b.i)) 0 0]∧
Cont.vals (flatR l)=Cont.vals (flatR l)∧List.length l=List.length l∧b.n=b.n∧b.i=b.i∧b.i=b.i∧ltb b.i 20=ltb b.i 20∧0=0∧b_1.k+1=b_1.k+1∧(∃(n:Nat),b_1.k+1=(↑n
:Int)∧n≤List.length (tKh l b.i)∧n≤8∧b_1.o++[List.getD (List.drop (Int.toNat b_1.k) (tKh l b.i)) 0 0]=List.take n (tKh l b.i)∧b_1.n+1=n)∧List.length (tKh l b.i)-Int.toNat (b_1.k+
1)<List.length (tKh l b.i)-Int.toNat b_1.k∧True)∧(ltb b_1.k 8=false→b_1.n=b_1.n∧b.n=b.n∧len' ((b.n+1)*48) 140737488355328=true∧inR IntKind.i64 (b.i+1)=true∧b.n+1=
b.n+1∧b.o++[AV.int IntKind.i64 (tX l b.i),AV.int IntKind.i64 (tY l b.i),AV.int IntKind.u8 (Int.tmod (tQ l b.i) 4),AV.imm (Cont.ints IntKind.i64 b_1.o) b_1.n none]=b.o++[AV.int IntKind.i64
(tX l b.i),AV.int IntKind.i64 (tY l b.i),AV.int IntKind.u8 (Int.tmod (tQ l b.i) 4),AV.imm (Cont.ints IntKind.i64 b_1.o) b_1.n none]∧Cont.vals (flatR l)=Cont.vals (flatR l)∧List.length l=
List.length l∧b.n+1=b.n+1∧b.i+1=b.i+1∧(∃(n:Nat),b.i+1=(↑n:Int)∧n≤List.length l∧n≤20∧b.o++[AV.int IntKind.i64 (tX l b.i),AV.int IntKind.i64 (tY l b.i),AV.int
IntKind.u8 (Int.tmod (tQ l b.i) 4),AV.imm (Cont.ints IntKind.i64 b_1.o) b_1.n none]=flatT (List.map stk (List.take n l))∧b.n+1=n)∧List.length l-Int.toNat (b.i+1)<List.length l-
Int.toNat b.i∧True))∧(ltb b_1.k (↑(List.length (tKh l b.i)):Int)=false→b_1.n=b_1.n∧b.n=b.n∧len' ((b.n+1)*48) 140737488355328=true∧inR IntKind.i64 (b.i+1)=true∧b.n+1=
b.n+1∧b.o++[AV.int IntKind.i64 (tX l b.i),AV.int IntKind.i64 (tY l b.i),AV.int IntKind.u8 (Int.tmod (tQ l b.i) 4),AV.imm (Cont.ints IntKind.i64 b_1.o) b_1.n none]=b.o++[AV.int IntKind.i64
(tX l b.i),AV.int IntKind.i64 (tY l b.i),AV.int IntKind.u8 (Int.tmod (tQ l b.i) 4),AV.imm (Cont.ints IntKind.i64 b_1.o) b_1.n none]∧Cont.vals (flatR l)=Cont.vals (flatR l)∧List.length l=
List.length l∧b.n+1=b.n+1∧b.i+1=b.i+1∧(∃(n:Nat),b.i+1=(↑n:Int)∧n≤List.length l∧n≤20∧b.o++[AV.int IntKind.i64 (tX l b.i),AV.int IntKind.i64 (tY l b.i),AV.int
IntKind.u8 (Int.tmod (tQ l b.i) 4),AV.imm (Cont.ints IntKind.i64 b_1.o) b_1.n none]=flatT (List.map stk (List.take n l))∧b.n+1=n)∧List.length l-Int.toNat (b.i+1)<List.length l-
Int.toNat b.i∧True))∧(ltb b.i 20=false→b.n=b.n∧Cont.vals b.o=Cont.vals (flatT (stO l))∧b.n=List.length (stO l)∧True))∧(ltb b.i (↑(List.length l):Int)=false→b.n=b.n∧
Cont.vals b.o=Cont.vals (flatT (stO l))∧b.n=List.length (stO l)∧True)):=by kernel_rfl

end Go.Proofs.YtmnaghfndigfkaaDoor.X
