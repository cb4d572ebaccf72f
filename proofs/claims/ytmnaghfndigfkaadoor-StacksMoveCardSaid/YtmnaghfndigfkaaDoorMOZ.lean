/-
 What is to be shown of the functions (made by a program).
-/
import Derived.Test.YtmnaghfndigfkaaDoorMAZ
import Derived.KernelRfl
set_option maxRecDepth 1000000
set_option linter.unusedVariables false
namespace Go.Proofs.YtmnaghfndigfkaaDoor.X
open Go Go.Ab

theorem ob_o105 (x y q:Int)(ks:List Int):fnP (TM105) G 10000 fe105 (.r [] 0 (.r [] 3 .nil)) ([.agg [.int .i64 x,.int .i64 y,.int .u8 q,layV ks]]) ([.bool (!vldC (x,y,q))]) ([])=(
(bI (vldC (x,y,q)) 0 1 !=0)= !vldC (x,y,q)∧True):=by kernel_rfl

theorem ob_o145 (l:List Sk):fnP (TM145) G 10000 fe145 (.r [] 0 (.r [] 0 (.lp (l145 l) [] [] (fun b=>(.r [] 0 (.cnd (.r [] 0 (.r [(324,.auto,Dr.val (tV l b.i))] 0 (.ff (.r [] 0 .nil)))) (.r [] 0 .nil))))))) ([lsk l,.fn 105 [] []]) ([.int .i64 (-1)]) ([])=(
Cont.vals (flatT l)=Cont.vals (flatT l)∧List.length l=List.length l∧(↑(List.length l):Int)=(↑(List.length l):Int)∧iI 0=0∧(∃(n:Nat),0=(↑n:Int)∧n≤List.length l)∧∀(b:
L1),(∃(n:Nat),b.i=(↑n:Int)∧n≤List.length l)→(ltb b.i (↑(List.length l):Int)=true→leb 0 b.i=true∧ltb b.i (↑(List.length l):Int)=true∧ltn 0 (Cont.size (Cont.vals (flatT
l)))=true∧(List.drop (Int.toNat b.i*4) (flatT l))[0]? =some (AV.int IntKind.i64 (tX l b.i))∧(List.drop (Int.toNat b.i*4) (flatT l))[1]? =some (AV.int IntKind.i64 (tY l b.i))∧(List.drop
(Int.toNat b.i*4) (flatT l))[2]? =some (AV.int IntKind.u8 (tQ l b.i))∧(List.drop (Int.toNat b.i*4) (flatT l))[3]? =some (AV.imm (Cont.ints IntKind.i64 (tKh l b.i)) (List.length (tKh l b.i))
none)∧List.length (tKh l b.i)=List.length (tKh l b.i)∧(!vldC (tX l b.i,tY l b.i,tQ l b.i))=false∧inR IntKind.i64 (b.i+1)=true∧Cont.vals (flatT l)=Cont.vals (flatT l)∧List.length
l=List.length l∧(↑(List.length l):Int)=(↑(List.length l):Int)∧b.i+1=b.i+1∧(∃(n:Nat),b.i+1=(↑n:Int)∧n≤List.length l)∧List.length l-Int.toNat (b.i+1)<
List.length l-Int.toNat b.i∧True)∧(ltb b.i (↑(List.length l):Int)=false→iI (-1)= -1∧True)):=by kernel_rfl

theorem ob_o104 (l:List Sk):fnP (TM104) G 10000 fe104 (.r [] 0 (.r [] 0 .nil)) ([lsk l,.fn 105 [] []]) ([.bool false]) ([])=(
(okTC (flatT l) (List.length l)∧vldT (unT (flatT l)))∧false=false∧True):=by kernel_rfl

theorem ob_o73 (x y q:Int)(ks:List Int):fnP (TM73) G 10000 fe73 (.r [] 0 (.r [] 19 .nil)) ([.agg [.int .i64 x,.int .i64 y,.int .u8 q,layV ks]]) ([.agg [.int .i64 x,.int .i64 y,.int .u8 q,layC ks]]) ([])=(
(List.length ks=List.length ks∧smK ks)∧(List.length ks=List.length ks∧smK ks)∧x=x∧y=y∧q=q∧Cont.ints IntKind.i64 ks=Cont.ints IntKind.i64 ks∧List.length ks=List.length ks
∧List.length ks=List.length ks∧True):=by kernel_rfl

theorem ob_o107 (x y q u v p:Int)(a b:List Int):fnP (TM107) G 10000 fe107 (.r [] 0 (.r [] 3 .nil)) ([.agg [.int .i64 x,.int .i64 y,.int .u8 q,layV a],.agg [.int .i64 u,.int .i64 v,.int .u8 p,layV b]]) ([.int .i64 (cmpC (x,y,q) (u,v,p))]) ([])=(
(0≤q∧q≤255∧0≤p∧p≤255)∧cmpC (x,y,q) (u,v,p)=cmpC (x,y,q) (u,v,p)∧True):=by kernel_rfl

theorem ob_d_153 (l:List Sk):fnD (TM153) G 10000 (fe153) (.r [] 1 (.lp (l153 l) [] [] (fun b=>(.r [] 0 (.cnd (.r [] 0 (.lp (m153 l b.i) [] [] (fun b_1=>(.br (ltb 0 b_1.i) (.r [yO 324,yO 325,yO 326,yO 327,(328,.on,Dr.val (cVal (unT b_1.o) b_1.i)),yO 329,yO 330,yO 331,yO 332,(333,.on,Dr.val (cVal (unT b_1.o) (b_1.i-1))),yO 334,yO 335,(336,.auto,Dr.pk true)] 5368709120 (.cnd (.r [(457,.auto,Dr.val (cVal (unT b_1.o) (b_1.i-1))),(461,.auto,Dr.val (cVal (unT b_1.o) b_1.i))] 0 (.r [] 0 .nil)) (.r [] 0 .nil))) (.r [(324,.off,Dr.plain),(325,.off,Dr.plain),(326,.off,Dr.plain),(327,.off,Dr.plain),(328,.off,Dr.plain),(329,.off,Dr.plain),(330,.off,Dr.plain),(331,.off,Dr.plain),(332,.off,Dr.plain),(333,.off,Dr.plain),(334,.off,Dr.plain),(335,.off,Dr.plain),(336,.auto,Dr.pk false)] 20480 (.lit (.r [] 0 .nil))))))) .nil))))) ([.full 258 l.length,.int .i64 0,.int .i64 l.length,.fn 107 [] []]) ([(258,blkS (flatC l) l.length)]) ([]) ([(258,blkS (flatC (stT l)) l.length)])=(
List.length l=List.length l∧List.length l=List.length l∧flatC l=flatC l∧List.length l=List.length l∧iI 0=0∧(↑(List.length l):Int)=(↑(List.length l):Int)∧iI 1=1∧(∃(n:
Nat),1=(↑n:Int)∧1≤n∧(n≤List.length l∨n=1)∧flatC l=flatC (stg l n))∧∀(b:L153),(∃(n:Nat),b.i=(↑n:Int)∧1≤n∧(n≤List.length l∨n=1)∧b.o=flatC (stg l n))→
(ltb b.i (↑(List.length l):Int)=true→List.length l=List.length l∧List.length l=List.length l∧b.o=b.o∧List.length l=List.length l∧iI 0=0∧(↑(List.length l):Int)=
(↑(List.length l):Int)∧b.i=b.i∧b.i=b.i∧(∃(j:Nat),b.i=(↑j:Int)∧b.o=flatC (unT b.o)∧Way l (Int.toNat b.i) j (unT b.o))∧∀(b_1:L153),(∃(j:Nat),b_1.i=(↑j:Int)∧
b_1.o=flatC (unT b_1.o)∧Way l (Int.toNat b.i) j (unT b_1.o))→(ltb 0 b_1.i=true→ltb 0 b_1.i=true∧ltb 0 b_1.i=true∧ltb 0 b_1.i=true∧ltb 0 b_1.i=true∧leb 0 b_1.i=true∧ltb
b_1.i (↑(List.length l):Int)=true∧List.length l=List.length l∧ltb 0 b_1.i=true∧List.length l=List.length l∧b_1.o[Int.toNat b_1.i*4]? =some (AV.int IntKind.i64 (tX (unT b_1.o)
b_1.i))∧b_1.o[Int.toNat b_1.i*4+1]? =some (AV.int IntKind.i64 (tY (unT b_1.o) b_1.i))∧b_1.o[Int.toNat b_1.i*4+1+1]? =some (AV.int IntKind.u8 (tQ (unT b_1.o) b_1.i))∧b_1.o[Int.toNat
b_1.i*4+1+1+1]? =some (AV.imm (Cont.ints IntKind.i64 (tKh (unT b_1.o) b_1.i)) (List.length (tKh (unT b_1.o) b_1.i)) (some (List.length (tKh (unT b_1.o) b_1.i))))∧ltb 0 b_1.i=true∧ltb 0
b_1.i=true∧ltb 0 b_1.i=true∧inR IntKind.i64 (b_1.i-1)=true∧ltb 0 b_1.i=true∧leb 0 (b_1.i-1)=true∧ltb (b_1.i-1) (↑(List.length l):Int)=true∧List.length l=List.length l
∧ltb 0 b_1.i=true∧List.length l=List.length l∧b_1.o[Int.toNat (b_1.i-1)*4]? =some (AV.int IntKind.i64 (tX (unT b_1.o) (b_1.i-1)))∧b_1.o[Int.toNat (b_1.i-1)*4+1]? =some (AV.int
IntKind.i64 (tY (unT b_1.o) (b_1.i-1)))∧b_1.o[Int.toNat (b_1.i-1)*4+1+1]? =some (AV.int IntKind.u8 (tQ (unT b_1.o) (b_1.i-1)))∧b_1.o[Int.toNat (b_1.i-1)*4+1+1+1]? =some
(AV.imm (Cont.ints IntKind.i64 (tKh (unT b_1.o) (b_1.i-1))) (List.length (tKh (unT b_1.o) (b_1.i-1))) (some (List.length (tKh (unT b_1.o) (b_1.i-1)))))∧ltb 0 b_1.i=true∧((List.length (tKh
(unT b_1.o) b_1.i)=List.length (tKh (unT b_1.o) b_1.i)∧List.length (tKh (unT b_1.o) (b_1.i-1))=List.length (tKh (unT b_1.o) (b_1.i-1)))∧0≤tQ (unT b_1.o) b_1.i∧tQ (unT b_1.o) b_1.i≤
255∧0≤tQ (unT b_1.o) (b_1.i-1)∧tQ (unT b_1.o) (b_1.i-1)≤255)∧ltb 0 b_1.i=true∧ltb 0 b_1.i=true∧(ltb (cmpC (tX (unT b_1.o) b_1.i,tY (unT b_1.o) b_1.i,tQ (unT b_1.o) b_1.i) (tX
(unT b_1.o) (b_1.i-1),tY (unT b_1.o) (b_1.i-1),tQ (unT b_1.o) (b_1.i-1))) 0=true→inR IntKind.i64 (b_1.i-1)=true∧inR IntKind.i64 (b_1.i-1)=true∧leb 0 (b_1.i-1)=true∧ltb
(b_1.i-1) (↑(List.length l):Int)=true∧List.length l=List.length l∧List.length l=List.length l∧b_1.o[Int.toNat (b_1.i-1)*4]? =some (AV.int IntKind.i64 (tX (unT b_1.o) (b_1.i-1)))
∧b_1.o[Int.toNat (b_1.i-1)*4+1]? =some (AV.int IntKind.i64 (tY (unT b_1.o) (b_1.i-1)))∧b_1.o[Int.toNat (b_1.i-1)*4+1+1]? =some (AV.int IntKind.u8 (tQ (unT b_1.o) (b_1.i-1)))∧
b_1.o[Int.toNat (b_1.i-1)*4+1+1+1]? =some (AV.imm (Cont.ints IntKind.i64 (tKh (unT b_1.o) (b_1.i-1))) (List.length (tKh (unT b_1.o) (b_1.i-1))) (some (List.length (tKh (unT b_1.o)
(b_1.i-1)))))∧leb 0 b_1.i=true∧ltb b_1.i (↑(List.length l):Int)=true∧List.length l=List.length l∧List.length l=List.length l∧b_1.o[Int.toNat b_1.i*4]? =some (AV.int
IntKind.i64 (tX (unT b_1.o) b_1.i))∧b_1.o[Int.toNat b_1.i*4+1]? =some (AV.int IntKind.i64 (tY (unT b_1.o) b_1.i))∧b_1.o[Int.toNat b_1.i*4+1+1]? =some (AV.int IntKind.u8 (tQ (unT b_1.o)
b_1.i))∧b_1.o[Int.toNat b_1.i*4+1+1+1]? =some (AV.imm (Cont.ints IntKind.i64 (tKh (unT b_1.o) b_1.i)) (List.length (tKh (unT b_1.o) b_1.i)) (some (List.length (tKh (unT b_1.o) b_1.i))))∧
leb 0 b_1.i=true∧ltb b_1.i (↑(List.length l):Int)=true∧List.length l=List.length l∧List.length l=List.length l∧len' (Int.toNat b_1.i*4+4) (Cont.size (Cont.vals b_1.o))=true∧
leb 0 (b_1.i-1)=true∧ltb (b_1.i-1) (↑(List.length l):Int)=true∧List.length l=List.length l∧List.length l=List.length l∧len' (Int.toNat (b_1.i-1)*4+4) (Cont.size (Cont.vals
(List.set (List.set (List.set (List.set b_1.o (Int.toNat b_1.i*4) (AV.int IntKind.i64 (tX (unT b_1.o) (b_1.i-1)))) (Int.toNat b_1.i*4+1) (AV.int IntKind.i64 (tY (unT b_1.o) (b_1.i-1))))
(Int.toNat b_1.i*4+1+1) (AV.int IntKind.u8 (tQ (unT b_1.o) (b_1.i-1)))) (Int.toNat b_1.i*4+1+1+1) (AV.imm (Cont.ints IntKind.i64 (tKh (unT b_1.o) (b_1.i-1))) (List.length (tKh (unT
b_1.o) (b_1.i-1))) (some (List.length (tKh (unT b_1.o) (b_1.i-1))))))))=true∧inR IntKind.i64 (b_1.i-1)=true∧List.length l=List.length l∧List.length l=List.length l∧List.set
(List.set (List.set (List.set (List.set (List.set (List.set (List.set b_1.o (Int.toNat b_1.i*4) (AV.int IntKind.i64 (tX (unT b_1.o) (b_1.i-1)))) (Int.toNat b_1.i*4+1) (AV.int IntKind.i64 (tY
(unT b_1.o) (b_1.i-1)))) (Int.toNat b_1.i*4+1+1) (AV.int IntKind.u8 (tQ (unT b_1.o) (b_1.i-1)))) (Int.toNat b_1.i*4+1+1+1) (AV.imm (Cont.ints IntKind.i64 (tKh (unT b_1.o) (b_1.i-
1))) (List.length (tKh (unT b_1.o) (b_1.i-1))) (some (List.length (tKh (unT b_1.o) (b_1.i-1)))))) (Int.toNat (b_1.i-1)*4) (AV.int IntKind.i64 (tX (unT b_1.o) b_1.i))) (Int.toNat (b_1.i-1)*
4+1) (AV.int IntKind.i64 (tY (unT b_1.o) b_1.i))) (Int.toNat (b_1.i-1)*4+1+1) (AV.int IntKind.u8 (tQ (unT b_1.o) b_1.i))) (Int.toNat (b_1.i-1)*4+1+1+1) (AV.imm (Cont.ints
IntKind.i64 (tKh (unT b_1.o) b_1.i)) (List.length (tKh (unT b_1.o) b_1.i)) (some (List.length (tKh (unT b_1.o) b_1.i))))=List.set (List.set (List.set (List.set (List.set (List.set (List.set
(List.set b_1.o (Int.toNat b_1.i*4) (AV.int IntKind.i64 (tX (unT b_1.o) (b_1.i-1)))) (Int.toNat b_1.i*4+1) (AV.int IntKind.i64 (tY (unT b_1.o) (b_1.i-1)))) (Int.toNat b_1.i*4+1+1)
(AV.int IntKind.u8 (tQ (unT b_1.o) (b_1.i-1)))) (Int.toNat b_1.i*4+1+1+1) (AV.imm (Cont.ints IntKind.i64 (tKh (unT b_1.o) (b_1.i-1))) (List.length (tKh (unT b_1.o) (b_1.i-1))) (some
(List.length (tKh (unT b_1.o) (b_1.i-1)))))) (Int.toNat (b_1.i-1)*4) (AV.int IntKind.i64 (tX (unT b_1.o) b_1.i))) (Int.toNat (b_1.i-1)*4+1) (AV.int IntKind.i64 (tY (unT b_1.o) b_1.i)))
(Int.toNat (b_1.i-1)*4+1+1) (AV.int IntKind.u8 (tQ (unT b_1.o) b_1.i))) (Int.toNat (b_1.i-1)*4+1+1+1) (AV.imm (Cont.ints IntKind.i64 (tKh (unT b_1.o) b_1.i)) (List.length (tKh (unT
b_1.o) b_1.i)) (some (List.length (tKh (unT b_1.o) b_1.i))))∧List.length l=List.length l∧iI 0=0∧(↑(List.length l):Int)=(↑(List.length l):Int)∧b.i=b.i∧b_1.i-1=b_1.i-1∧(∃
(j:Nat),b_1.i-1=(↑j:Int)∧List.set (List.set (List.set (List.set (List.set (List.set (List.set (List.set b_1.o (Int.toNat b_1.i*4) (AV.int IntKind.i64 (tX (unT b_1.o) (b_1.i-1))))
(Int.toNat b_1.i*4+1) (AV.int IntKind.i64 (tY (unT b_1.o) (b_1.i-1)))) (Int.toNat b_1.i*4+1+1) (AV.int IntKind.u8 (tQ (unT b_1.o) (b_1.i-1)))) (Int.toNat b_1.i*4+1+1+1) (AV.imm
(Cont.ints IntKind.i64 (tKh (unT b_1.o) (b_1.i-1))) (List.length (tKh (unT b_1.o) (b_1.i-1))) (some (List.length (tKh (unT b_1.o) (b_1.i-1)))))) (Int.toNat (b_1.i-1)*4) (AV.int IntKind.i64
(tX (unT b_1.o) b_1.i))) (Int.toNat (b_1.i-1)*4+1) (AV.int IntKind.i64 (tY (unT b_1.o) b_1.i))) (Int.toNat (b_1.i-1)*4+1+1) (AV.int IntKind.u8 (tQ (unT b_1.o) b_1.i))) (Int.toNat (b_1.i
-1)*4+1+1+1) (AV.imm (Cont.ints IntKind.i64 (tKh (unT b_1.o) b_1.i)) (List.length (tKh (unT b_1.o) b_1.i)) (some (List.length (tKh (unT b_1.o) b_1.i))))=flatC (unT (List.set (List.set
(List.set (List.set (List.set (List.set (List.set (List.set b_1.o (Int.toNat b_1.i*4) (AV.int IntKind.i64 (tX (unT b_1.o) (b_1.i-1)))) (Int.toNat b_1.i*4+1) (AV.int IntKind.i64 (tY (unT b_1.o)
(b_1.i-1)))) (Int.toNat b_1.i*4+1+1) (AV.int IntKind.u8 (tQ (unT b_1.o) (b_1.i-1)))) (Int.toNat b_1.i*4+1+1+1) (AV.imm (Cont.ints IntKind.i64 (tKh (unT b_1.o) (b_1.i-1)))
(List.length (tKh (unT b_1.o) (b_1.i-1))) (some (List.length (tKh (unT b_1.o) (b_1.i-1)))))) (Int.toNat (b_1.i-1)*4) (AV.int IntKind.i64 (tX (unT b_1.o) b_1.i))) (Int.toNat (b_1.i-1)*4+
1) (AV.int IntKind.i64 (tY (unT b_1.o) b_1.i))) (Int.toNat (b_1.i-1)*4+1+1) (AV.int IntKind.u8 (tQ (unT b_1.o) b_1.i))) (Int.toNat (b_1.i-1)*4+1+1+1) (AV.imm (Cont.ints IntKind.i64
(tKh (unT b_1.o) b_1.i)) (List.length (tKh (unT b_1.o) b_1.i)) (some (List.length (tKh (unT b_1.o) b_1.i))))))∧Way l (Int.toNat b.i) j (unT (List.set (List.set (List.set (List.set (List.set
(List.set (List.set (List.set b_1.o (Int.toNat b_1.i*4) (AV.int IntKind.i64 (tX (unT b_1.o) (b_1.i-1)))) (Int.toNat b_1.i*4+1) (AV.int IntKind.i64 (tY (unT b_1.o) (b_1.i-1)))) (Int.toNat
b_1.i*4+1+1) (AV.int IntKind.u8 (tQ (unT b_1.o) (b_1.i-1)))) (Int.toNat b_1.i*4+1+1+1) (AV.imm (Cont.ints IntKind.i64 (tKh (unT b_1.o) (b_1.i-1))) (List.length (tKh (unT b_1.o)
(b_1.i-1))) (some (List.length (tKh (unT b_1.o) (b_1.i-1)))))) (Int.toNat (b_1.i-1)*4) (AV.int IntKind.i64 (tX (unT b_1.o) b_1.i))) (Int.toNat (b_1.i-1)*4+1) (AV.int IntKind.i64 (tY (unT
b_1.o) b_1.i))) (Int.toNat (b_1.i-1)*4+1+1) (AV.int IntKind.u8 (tQ (unT b_1.o) b_1.i))) (Int.toNat (b_1.i-1)*4+1+1+1) (AV.imm (Cont.ints IntKind.i64 (tKh (unT b_1.o) b_1.i))
(List.length (tKh (unT b_1.o) b_1.i)) (some (List.length (tKh (unT b_1.o) b_1.i)))))))∧Int.toNat (b_1.i-1)<Int.toNat b_1.i∧True)∧(ltb (cmpC (tX (unT b_1.o) b_1.i,tY (unT b_1.o) b_1.i,tQ
(unT b_1.o) b_1.i) (tX (unT b_1.o) (b_1.i-1),tY (unT b_1.o) (b_1.i-1),tQ (unT b_1.o) (b_1.i-1))) 0=false→inR IntKind.i64 (b.i+1)=true∧List.length l=List.length l∧List.length l=
List.length l∧b_1.o=b_1.o∧List.length l=List.length l∧iI 0=0∧(↑(List.length l):Int)=(↑(List.length l):Int)∧b.i+1=b.i+1∧(∃(n:Nat),b.i+1=(↑n:Int)∧1≤n∧(n≤
List.length l∨n=1)∧b_1.o=flatC (stg l n))∧List.length l-Int.toNat (b.i+1)<List.length l-Int.toNat b.i∧True))∧(ltb 0 b_1.i=false→(!ltb 0 b_1.i)=true∧(!ltb 0 b_1.i)=true
∧(!ltb 0 b_1.i)=true∧(!ltb 0 b_1.i)=true∧(!ltb 0 b_1.i)=true∧(!ltb 0 b_1.i)=true∧(!ltb 0 b_1.i)=true∧(!ltb 0 b_1.i)=true∧(!ltb 0 b_1.i)=true∧(!ltb 0 b_1.i)=true∧(!ltb
0 b_1.i)=true∧(!ltb 0 b_1.i)=true∧(!ltb 0 b_1.i)=true∧inR IntKind.i64 (b.i+1)=true∧List.length l=List.length l∧List.length l=List.length l∧b_1.o=b_1.o∧List.length l=
List.length l∧iI 0=0∧(↑(List.length l):Int)=(↑(List.length l):Int)∧b.i+1=b.i+1∧(∃(n:Nat),b.i+1=(↑n:Int)∧1≤n∧(n≤List.length l∨n=1)∧b_1.o=flatC (stg l n))
∧List.length l-Int.toNat (b.i+1)<List.length l-Int.toNat b.i∧True))∧(ltb b.i (↑(List.length l):Int)=false→List.length l=List.length l∧List.length l=List.length l∧b.o=flatC
(stT l)∧True)):=by kernel_rfl

theorem ob_d_153e (l:List Sk)(a b:Int):fnD (TM153) G 10000 (fe153) (.r [] 0 (.un (.r [] 0 (.ff .nil)))) ([.full 258 l.length,.int .i64 a,.int .i64 b,.fn 107 [] []]) ([(258,blkS (flatC l) l.length)]) ([]) ([])=(
inR IntKind.i64 (a+1)=true∧ltb (a+1) b=false∧List.length l=List.length l∧List.length l=List.length l∧flatC l=flatC l∧True):=by kernel_rfl

theorem ob_d_146 (l:List Sk):fnD (TM146) G 10000 (fe146) (.r [] 0 (.r [] 0 (.un (.r [] 0 (.ff (.r [(452,.auto,Dr.heap)] 0 (.un (.r [] 0 (.ff .nil))))))))) ([.full 258 l.length,.int .i64 l.length,.fn 107 [] []]) ([(258,blkS (flatC l) l.length)]) ([]) ([(258,blkS (flatC (stT l)) l.length)])=(
leb 20 (↑(List.length l):Int)=false∧([(258,HO.blk (Blk.mk (Cont.vals (flatC l)) 4 (List.length l) (some (List.length l)) (some false) true false))]=[(258,HO.blk (Blk.mk (Cont.vals (flatC
(unT (flatC l)))) 4 (List.length l) (some (List.length l)) (some false) true false))]∧List.length l=List.length (unT (flatC l))∧(leb (↑(List.length l):Int) (↑(List.length l):Int)=true∧
leb (↑(List.length l):Int) (↑(List.length l):Int)=true)∧List.length l<1000000∧okQT (unT (flatC l)))∧ltb 20 (↑(List.length l):Int)=false∧List.length l=List.length l∧List.length
l=List.length l∧flatC (stT (unT (flatC l)))=flatC (stT l)∧True):=by kernel_rfl

theorem ob_d_146z (l:List Sk):fnD (TM146) G 10000 (fe146) (.r [] 0 (.r [] 0 (.un (.r [] 0 (.lit (.r [(260,.auto,Dr.heap)] 0 (.r [] 0 (.r [] 1 (.un (.r [] 0 (.lit (.r [(452,.auto,Dr.heap)] 0 (.un (.r [] 0 (.lit .nil))))))))))))))) ([.full 258 20,.int .i64 20,.fn 107 [] []]) ([(258,blkS (flatC l) 20)]) ([]) ([(258,blkS (flatC (stT l)) 20)])=(
([(258,HO.blk (Blk.mk (Cont.vals (flatC l)) 4 20 (some 20) (some false) true false))]=[(258,HO.blk (Blk.mk (Cont.vals (flatC (unT (flatC l)))) 4 20 (some 20) (some false) true false))]∧20=
List.length (unT (flatC l))∧(true=true∧true=true)∧20<1000000∧okQT (unT (flatC l)))∧([(258,HO.blk (Blk.mk (Cont.vals (flatC (stT (unT (flatC l))))) 4 20 (some 20) (some false) true
false))]=[(258,HO.blk (Blk.mk (Cont.vals (flatC (unT (flatC (stT (unT (flatC l))))))) 4 20 (some 20) (some false) true false))]∧iI 20≤iI 20∧iI 0≤iI 20∧iI 20≤iI 1000∧20=List.length
(unT (flatC (stT (unT (flatC l))))))∧20=20∧20=20∧flatC (stT (unT (flatC l)))=flatC (stT l)∧True):=by kernel_rfl

theorem ob_d_106 (l:List Sk):fnD (TM106) G 10000 (fe106) (.r [(68,.auto,Dr.heap)] 0 .nil) ([.full 258 l.length,.fn 107 [] []]) ([(258,blkS (flatC l) l.length)]) ([]) ([(258,blkS (flatC (stT l)) l.length)])=(
List.length l=List.length l∧([(258,HO.blk (Blk.mk (Cont.vals (flatC l)) 4 (List.length l) (some (List.length l)) (some false) true false))]=[(258,HO.blk (Blk.mk (Cont.vals (flatC (unT (flatC
l)))) 4 (List.length l) (some (List.length l)) (some false) true false))]∧List.length l=List.length (unT (flatC l))∧(↑(List.length l):Int)=(↑(List.length l):Int)∧List.length l≤20∧
okQT (unT (flatC l)))∧List.length l=List.length l∧List.length l=List.length l∧flatC (stT (unT (flatC l)))=flatC (stT l)∧True):=by kernel_rfl

theorem ob_o54b (l:List AV)(n:Nat)(t a b:Int):fnP (TM54) G 10000 fe54 (.r [] 0 (.r [(132,.off,Dr.plain),(133,.off,Dr.plain),(134,.auto,Dr.pk true)] 81 (.lit (.r [] 0 .nil)))) ([.imm (.vals l) n none,.agg [.int .u8 t,.int .i64 a,.int .i64 b]]) ([.nils,.int .i64 1]) ([])=(
(0≤t∧t≤255)∧(!!bI (mvV t a b) 0 1 !=0)=true∧(!!bI (mvV t a b) 0 1 !=0)=true∧(bI (mvV t a b) 0 1 !=0)=true∧iI 1=1∧True):=by kernel_rfl

theorem ob_o54o (l:List Sk)(t a b:Int):fnP (TM54) G 10000 fe54 (.r [] 0 (.r [yO 132,yO 133,(134,.auto,Dr.pk false)] 161 (.lit (.r [] 1 (.r [] 0 (.lp (l54 t a b l) [] [] (fun b_1=>(.r [] 0 (.cnd (.r [(450,.auto,Dr.val (tV l b_1.i))] 128 (.r [] 59 (.r [] 0 (.cnd (.r [] 0 (.frz 4 0 .nil)) (.r [] 3 (.r [] 0 .nil)))))) (.r [(833,.auto,Dr.heap)] 0 (.r [] 0 (.frz 4 0 .nil)))))))))))) ([lsk l,.agg [.int .u8 t,.int .i64 a,.int .i64 b]]) ([.nils,.int .i64 3]) ([])=(
(0≤t∧t≤255)∧(!bI (mvV t a b) 0 1 !=0)=true∧(!bI (mvV t a b) 0 1 !=0)=true∧(okTC (flatT l) (List.length l)∧vldT (unT (flatT l)))∧(!bI (mvV t a b) 0 1 !=0)=true∧leb
(↑(List.length l):Int) (↑(List.length l):Int)=true∧leb ((↑(List.length l):Int)*48) 140737488355328=true∧1=1∧t=t∧a=a∧b=b∧Int.toNat (↑(List.length l):Int)=List.length
l∧Int.toNat (↑(List.length l):Int)=List.length l∧repL [AV.int IntKind.i64 0,AV.int IntKind.i64 0,AV.int IntKind.u8 0,AV.nils] (Int.toNat (↑(List.length l):Int))=repL [AV.int IntKind.i64
0,AV.int IntKind.i64 0,AV.int IntKind.u8 0,AV.nils] (Int.toNat (↑(List.length l):Int))∧0=0∧Int.toNat (↑(List.length l):Int)=Int.toNat (↑(List.length l):Int)∧Cont.vals (flatT l)=
Cont.vals (flatT l)∧List.length l=List.length l∧(↑(List.length l):Int)=(↑(List.length l):Int)∧iI 0=0∧(∃(n:Nat),0=(↑n:Int)∧n≤List.length l∧allM t a b (List.take n l)=
true∧repL [AV.int IntKind.i64 0,AV.int IntKind.i64 0,AV.int IntKind.u8 0,AV.nils] (Int.toNat (↑(List.length l):Int))=flatC (mvS t a b (List.take n l))++repL [AV.int IntKind.i64 0,AV.int
IntKind.i64 0,AV.int IntKind.u8 0,AV.nils] (List.length l-n))∧∀(b_1:L54),(∃(n:Nat),b_1.i=(↑n:Int)∧n≤List.length l∧allM t a b (List.take n l)=true∧b_1.o=flatC (mvS t a b
(List.take n l))++repL [AV.int IntKind.i64 0,AV.int IntKind.i64 0,AV.int IntKind.u8 0,AV.nils] (List.length l-n))→(ltb b_1.i (↑(List.length l):Int)=true→leb 0 b_1.i=true∧ltb b_1.i
(↑(List.length l):Int)=true∧ltn 0 (Cont.size (Cont.vals (flatT l)))=true∧(List.drop (Int.toNat b_1.i*4) (flatT l))[0]? =some (AV.int IntKind.i64 (tX l b_1.i))∧(List.drop (Int.toNat
b_1.i*4) (flatT l))[1]? =some (AV.int IntKind.i64 (tY l b_1.i))∧(List.drop (Int.toNat b_1.i*4) (flatT l))[2]? =some (AV.int IntKind.u8 (tQ l b_1.i))∧(List.drop (Int.toNat b_1.i*4) (flatT
l))[3]? =some (AV.imm (Cont.ints IntKind.i64 (tKh l b_1.i)) (List.length (tKh l b_1.i)) none)∧(mvO t a b∧vq (tX l b_1.i) (tY l b_1.i) (tQ l b_1.i))∧((bI (mvB t a b (tX l b_1.i) (tY l b_1.i) (tQ
l b_1.i)) 0 3 !=0)=true→iI 3=3∧True)∧((bI (mvB t a b (tX l b_1.i) (tY l b_1.i) (tQ l b_1.i)) 0 3 !=0)=false→(List.length (tKh l b_1.i)=List.length (tKh l b_1.i)∧smK (tKh l b_1.i))
∧leb 0 b_1.i=true∧ltb b_1.i (↑(Int.toNat (↑(List.length l):Int)):Int)=true∧List.length l=Int.toNat (↑(List.length l):Int)∧List.length l=Int.toNat (↑(List.length l):Int)∧len'
(Int.toNat b_1.i*4+4) (Cont.size (Cont.vals b_1.o))=true∧inR IntKind.i64 (b_1.i+1)=true∧1=1∧t=t∧a=a∧b=b∧List.length l=List.length l∧List.length l=List.length l∧
List.set (List.set (List.set (List.set b_1.o (Int.toNat b_1.i*4) (AV.int IntKind.i64 (bI (mvB t a b (tX l b_1.i) (tY l b_1.i) (tQ l b_1.i)) (mvX' t a (tX l b_1.i) (tY l b_1.i)) 0))) (Int.toNat b_1.i
*4+1) (AV.int IntKind.i64 (bI (mvB t a b (tX l b_1.i) (tY l b_1.i) (tQ l b_1.i)) (mvY' t b (tX l b_1.i) (tY l b_1.i)) 0))) (Int.toNat b_1.i*4+1+1) (AV.int IntKind.u8 (bI (mvB t a b (tX l
b_1.i) (tY l b_1.i) (tQ l b_1.i)) (mvQ t (tQ l b_1.i)) 0))) (Int.toNat b_1.i*4+1+1+1) (AV.imm (Cont.ints IntKind.i64 (tKh l b_1.i)) (List.length (tKh l b_1.i)) (some (List.length (tKh l
b_1.i))))=List.set (List.set (List.set (List.set b_1.o (Int.toNat b_1.i*4) (AV.int IntKind.i64 (bI (mvB t a b (tX l b_1.i) (tY l b_1.i) (tQ l b_1.i)) (mvX' t a (tX l b_1.i) (tY l b_1.i)) 0)))
(Int.toNat b_1.i*4+1) (AV.int IntKind.i64 (bI (mvB t a b (tX l b_1.i) (tY l b_1.i) (tQ l b_1.i)) (mvY' t b (tX l b_1.i) (tY l b_1.i)) 0))) (Int.toNat b_1.i*4+1+1) (AV.int IntKind.u8 (bI (mvB
t a b (tX l b_1.i) (tY l b_1.i) (tQ l b_1.i)) (mvQ t (tQ l b_1.i)) 0))) (Int.toNat b_1.i*4+1+1+1) (AV.imm (Cont.ints IntKind.i64 (tKh l b_1.i)) (List.length (tKh l b_1.i)) (some (List.length
(tKh l b_1.i))))∧0=0∧Int.toNat (↑(List.length l):Int)=Int.toNat (↑(List.length l):Int)∧Cont.vals (flatT l)=Cont.vals (flatT l)∧List.length l=List.length l∧(↑(List.length l):
Int)=(↑(List.length l):Int)∧b_1.i+1=b_1.i+1∧(∃(n:Nat),b_1.i+1=(↑n:Int)∧n≤List.length l∧allM t a b (List.take n l)=true∧List.set (List.set (List.set (List.set b_1.o
(Int.toNat b_1.i*4) (AV.int IntKind.i64 (bI (mvB t a b (tX l b_1.i) (tY l b_1.i) (tQ l b_1.i)) (mvX' t a (tX l b_1.i) (tY l b_1.i)) 0))) (Int.toNat b_1.i*4+1) (AV.int IntKind.i64 (bI (mvB t a b
(tX l b_1.i) (tY l b_1.i) (tQ l b_1.i)) (mvY' t b (tX l b_1.i) (tY l b_1.i)) 0))) (Int.toNat b_1.i*4+1+1) (AV.int IntKind.u8 (bI (mvB t a b (tX l b_1.i) (tY l b_1.i) (tQ l b_1.i)) (mvQ t (tQ l
b_1.i)) 0))) (Int.toNat b_1.i*4+1+1+1) (AV.imm (Cont.ints IntKind.i64 (tKh l b_1.i)) (List.length (tKh l b_1.i)) (some (List.length (tKh l b_1.i))))=flatC (mvS t a b (List.take n l))++repL
[AV.int IntKind.i64 0,AV.int IntKind.i64 0,AV.int IntKind.u8 0,AV.nils] (List.length l-n))∧List.length l-Int.toNat (b_1.i+1)<List.length l-Int.toNat b_1.i∧True))∧(ltb b_1.i
(↑(List.length l):Int)=false→([(258,HO.blk (Blk.mk (Cont.vals b_1.o) 4 (List.length l) (some (List.length l)) (some false) true false))]=[(258,HO.blk (Blk.mk (Cont.vals (flatC (unT b_1.o)))
4 (Int.toNat (↑(List.length l):Int)) (some (Int.toNat (↑(List.length l):Int))) (some false) true false))]∧Int.toNat (↑(List.length l):Int)=List.length (unT b_1.o)∧Int.toNat (↑(List.length
l):Int)≤20∧okQT (unT b_1.o))∧Int.toNat (↑(List.length l):Int)=Int.toNat (↑(List.length l):Int)∧False)):=by kernel_rfl

theorem ob_o54k (l:List Sk)(t a b:Int):fnP (TM54) G 10000 fe54 (.r [] 0 (.r [yO 132,yO 133,(134,.auto,Dr.pk false)] 161 (.lit (.r [] 1 (.r [] 0 (.lp (l54 t a b l) [] [] (fun b_1=>(.r [] 0 (.cnd (.r [(450,.auto,Dr.val (tV l b_1.i))] 128 (.r [] 59 (.r [] 0 (.ff (.r [] 3 (.r [] 0 .nil)))))) (.r [(833,.auto,Dr.heap)] 0 (.r [] 0 (.frz 4 0 .nil)))))))))))) ([lsk l,.agg [.int .u8 t,.int .i64 a,.int .i64 b]]) ([.imm (.vals (flatC (stT (mvS t a b l)))) l.length (some l.length),.int .i64 0]) ([])=(
(0≤t∧t≤255)∧(!bI (mvV t a b) 0 1 !=0)=true∧(!bI (mvV t a b) 0 1 !=0)=true∧(okTC (flatT l) (List.length l)∧vldT (unT (flatT l)))∧(!bI (mvV t a b) 0 1 !=0)=true∧leb
(↑(List.length l):Int) (↑(List.length l):Int)=true∧leb ((↑(List.length l):Int)*48) 140737488355328=true∧1=1∧t=t∧a=a∧b=b∧Int.toNat (↑(List.length l):Int)=List.length
l∧Int.toNat (↑(List.length l):Int)=List.length l∧repL [AV.int IntKind.i64 0,AV.int IntKind.i64 0,AV.int IntKind.u8 0,AV.nils] (Int.toNat (↑(List.length l):Int))=repL [AV.int IntKind.i64
0,AV.int IntKind.i64 0,AV.int IntKind.u8 0,AV.nils] (Int.toNat (↑(List.length l):Int))∧0=0∧Int.toNat (↑(List.length l):Int)=Int.toNat (↑(List.length l):Int)∧Cont.vals (flatT l)=
Cont.vals (flatT l)∧List.length l=List.length l∧(↑(List.length l):Int)=(↑(List.length l):Int)∧iI 0=0∧(∃(n:Nat),0=(↑n:Int)∧n≤List.length l∧allM t a b (List.take n l)=
true∧repL [AV.int IntKind.i64 0,AV.int IntKind.i64 0,AV.int IntKind.u8 0,AV.nils] (Int.toNat (↑(List.length l):Int))=flatC (mvS t a b (List.take n l))++repL [AV.int IntKind.i64 0,AV.int
IntKind.i64 0,AV.int IntKind.u8 0,AV.nils] (List.length l-n))∧∀(b_1:L54),(∃(n:Nat),b_1.i=(↑n:Int)∧n≤List.length l∧allM t a b (List.take n l)=true∧b_1.o=flatC (mvS t a b
(List.take n l))++repL [AV.int IntKind.i64 0,AV.int IntKind.i64 0,AV.int IntKind.u8 0,AV.nils] (List.length l-n))→(ltb b_1.i (↑(List.length l):Int)=true→leb 0 b_1.i=true∧ltb b_1.i
(↑(List.length l):Int)=true∧ltn 0 (Cont.size (Cont.vals (flatT l)))=true∧(List.drop (Int.toNat b_1.i*4) (flatT l))[0]? =some (AV.int IntKind.i64 (tX l b_1.i))∧(List.drop (Int.toNat
b_1.i*4) (flatT l))[1]? =some (AV.int IntKind.i64 (tY l b_1.i))∧(List.drop (Int.toNat b_1.i*4) (flatT l))[2]? =some (AV.int IntKind.u8 (tQ l b_1.i))∧(List.drop (Int.toNat b_1.i*4) (flatT
l))[3]? =some (AV.imm (Cont.ints IntKind.i64 (tKh l b_1.i)) (List.length (tKh l b_1.i)) none)∧(mvO t a b∧vq (tX l b_1.i) (tY l b_1.i) (tQ l b_1.i))∧(bI (mvB t a b (tX l b_1.i) (tY l b_1.i) (tQ
l b_1.i)) 0 3 !=0)=false∧(List.length (tKh l b_1.i)=List.length (tKh l b_1.i)∧smK (tKh l b_1.i))∧leb 0 b_1.i=true∧ltb b_1.i (↑(Int.toNat (↑(List.length l):Int)):Int)=true∧
List.length l=Int.toNat (↑(List.length l):Int)∧List.length l=Int.toNat (↑(List.length l):Int)∧len' (Int.toNat b_1.i*4+4) (Cont.size (Cont.vals b_1.o))=true∧inR IntKind.i64 (b_1.i+
1)=true∧1=1∧t=t∧a=a∧b=b∧List.length l=List.length l∧List.length l=List.length l∧List.set (List.set (List.set (List.set b_1.o (Int.toNat b_1.i*4) (AV.int IntKind.i64 (bI
(mvB t a b (tX l b_1.i) (tY l b_1.i) (tQ l b_1.i)) (mvX' t a (tX l b_1.i) (tY l b_1.i)) 0))) (Int.toNat b_1.i*4+1) (AV.int IntKind.i64 (bI (mvB t a b (tX l b_1.i) (tY l b_1.i) (tQ l b_1.i)) (mvY'
t b (tX l b_1.i) (tY l b_1.i)) 0))) (Int.toNat b_1.i*4+1+1) (AV.int IntKind.u8 (bI (mvB t a b (tX l b_1.i) (tY l b_1.i) (tQ l b_1.i)) (mvQ t (tQ l b_1.i)) 0))) (Int.toNat b_1.i*4+1+1+1)
(AV.imm (Cont.ints IntKind.i64 (tKh l b_1.i)) (List.length (tKh l b_1.i)) (some (List.length (tKh l b_1.i))))=List.set (List.set (List.set (List.set b_1.o (Int.toNat b_1.i*4) (AV.int IntKind.i64
(bI (mvB t a b (tX l b_1.i) (tY l b_1.i) (tQ l b_1.i)) (mvX' t a (tX l b_1.i) (tY l b_1.i)) 0))) (Int.toNat b_1.i*4+1) (AV.int IntKind.i64 (bI (mvB t a b (tX l b_1.i) (tY l b_1.i) (tQ l b_1.i))
(mvY' t b (tX l b_1.i) (tY l b_1.i)) 0))) (Int.toNat b_1.i*4+1+1) (AV.int IntKind.u8 (bI (mvB t a b (tX l b_1.i) (tY l b_1.i) (tQ l b_1.i)) (mvQ t (tQ l b_1.i)) 0))) (Int.toNat b_1.i*4+1+1
+1) (AV.imm (Cont.ints IntKind.i64 (tKh l b_1.i)) (List.length (tKh l b_1.i)) (some (List.length (tKh l b_1.i))))∧0=0∧Int.toNat (↑(List.length l):Int)=Int.toNat (↑(List.length l):Int)∧
Cont.vals (flatT l)=Cont.vals (flatT l)∧List.length l=List.length l∧(↑(List.length l):Int)=(↑(List.length l):Int)∧b_1.i+1=b_1.i+1∧(∃(n:Nat),b_1.i+1=(↑n:Int)∧n≤
List.length l∧allM t a b (List.take n l)=true∧List.set (List.set (List.set (List.set b_1.o (Int.toNat b_1.i*4) (AV.int IntKind.i64 (bI (mvB t a b (tX l b_1.i) (tY l b_1.i) (tQ l b_1.i)) (mvX'
t a (tX l b_1.i) (tY l b_1.i)) 0))) (Int.toNat b_1.i*4+1) (AV.int IntKind.i64 (bI (mvB t a b (tX l b_1.i) (tY l b_1.i) (tQ l b_1.i)) (mvY' t b (tX l b_1.i) (tY l b_1.i)) 0))) (Int.toNat b_1.i*4
+1+1) (AV.int IntKind.u8 (bI (mvB t a b (tX l b_1.i) (tY l b_1.i) (tQ l b_1.i)) (mvQ t (tQ l b_1.i)) 0))) (Int.toNat b_1.i*4+1+1+1) (AV.imm (Cont.ints IntKind.i64 (tKh l b_1.i))
(List.length (tKh l b_1.i)) (some (List.length (tKh l b_1.i))))=flatC (mvS t a b (List.take n l))++repL [AV.int IntKind.i64 0,AV.int IntKind.i64 0,AV.int IntKind.u8 0,AV.nils] (List.length l-
n))∧List.length l-Int.toNat (b_1.i+1)<List.length l-Int.toNat b_1.i∧True)∧(ltb b_1.i (↑(List.length l):Int)=false→([(258,HO.blk (Blk.mk (Cont.vals b_1.o) 4 (List.length l) (some
(List.length l)) (some false) true false))]=[(258,HO.blk (Blk.mk (Cont.vals (flatC (unT b_1.o))) 4 (Int.toNat (↑(List.length l):Int)) (some (Int.toNat (↑(List.length l):Int))) (some false) true
false))]∧Int.toNat (↑(List.length l):Int)=List.length (unT b_1.o)∧Int.toNat (↑(List.length l):Int)≤20∧okQT (unT b_1.o))∧Int.toNat (↑(List.length l):Int)=Int.toNat (↑(List.length l)
:Int)∧Cont.vals (flatC (stT (unT b_1.o)))=Cont.vals (flatC (stT (mvS t a b l)))∧Int.toNat (↑(List.length l):Int)=List.length l∧Int.toNat (↑(List.length l):Int)=List.length l∧iI 0=
0∧True)):=by kernel_rfl

theorem ob_o111 (x y q u v p:Int):fnP (T0) G 10000 fe111 (.r [] 0 (.rs 6 [] 3 10 (.r [] 3 (.lit (.r [] 0 .nil))) (.rs 6 [] 3 16 (.rs 6 [] 3 22 (.r [] 63 (.lit (.r [] 0 .nil))) (.rs 6 [] 3 28 (.r [] 1023 (.cnd (.r [] 0 .nil) (.r [] 0 .nil))) (.r [] 255 (.lit (.r [] 0 .nil))))) (.r [] 15 (.lit (.r [] 0 .nil)))))) ([.agg [.int .i64 x,.int .i64 y,.int .u8 q],.agg [.int .i64 u,.int .i64 v,.int .u8 p]]) ([.int .i64 (bI (ltC (u,v,p) (x,y,q)) 1 0)]) ([])=(
(ltb v y=true→1=bI (ltC (u,v,p) (x,y,q)) 1 0∧True)∧(ltb v y=false→((y==v)=true→(ltb u x=true→1=bI (ltC (u,v,p) (x,y,q)) 1 0∧True)∧(ltb u x=false→((x==u)=
true→(ltb p q=true→1=bI (ltC (u,v,p) (x,y,q)) 1 0∧True)∧(ltb p q=false→0=bI (ltC (u,v,p) (x,y,q)) 1 0∧True))∧((x==u)=false→0=bI (ltC (u,v,p) (x,y,q)) 1 0∧
True)))∧((y==v)=false→0=bI (ltC (u,v,p) (x,y,q)) 1 0∧True))):=by kernel_rfl

theorem ob_o57 (l:List Sk):fnP (TM57) G 10000 fe57 (.r [] 0 (.r [] 1 (.r [] 0 (.lp (l57 l) [] [] (fun b=>(.r [] 0 (.cnd (.r [] 0 (.lp (m57 l b.i) [] [] (fun b_1=>(.br (ltb 0 b_1.i) (.r [yO 451,yO 452,yO 453,yO 454,yO 455,(456,.on,Dr.val
 [AV.int IntKind.i64 (tX (unT b_1.o) (b_1.i-1)),AV.int IntKind.i64 (tY (unT b_1.o) (b_1.i-1)),
  AV.int IntKind.u8 (tQ (unT b_1.o) (b_1.i-1))]),yO 457,yO 458,yO 459,yO 460,(461,.on,Dr.val
 [AV.int IntKind.i64 (tX (unT b_1.o) b_1.i),AV.int IntKind.i64 (tY (unT b_1.o) b_1.i),
  AV.int IntKind.u8 (tQ (unT b_1.o) b_1.i)]),yO 462,yO 463,(464,.auto,Dr.pk true)] 11274289152 (.cnd (.r [(584,.auto,Dr.val (tV (unT b_1.o) b_1.i)),(589,.auto,Dr.val (tV (unT b_1.o) (b_1.i-1)))] 0 (.r [] 0 .nil)) (.r [] 0 .nil))) (.r [(451,.off,Dr.plain),(452,.off,Dr.plain),(453,.off,Dr.plain),(454,.off,Dr.plain),(455,.off,Dr.plain),(456,.off,Dr.plain),(457,.off,Dr.plain),(458,.off,Dr.plain),(459,.off,Dr.plain),(460,.off,Dr.plain),(461,.off,Dr.plain),(462,.off,Dr.plain),(463,.off,Dr.plain),(464,.auto,Dr.pk false)] 40960 (.lit (.r [] 0 .nil))))))) (.r [] 0 (.frz 2 0 .nil))))))))) ([lsk l]) ([lsk (stT l)]) ([])=(
len' ((0+List.length l)*48) 140737488355328=true∧Cont.size (Cont.vals (flatT l))=List.length l*4∧0+List.length l=List.length l∧[]++flatT l=[]++flatT l∧0+List.length l=0
+List.length l∧iI 1=1∧(∃(n:Nat),1=(↑n:Int)∧1≤n∧(n≤List.length l∨n=1)∧[]++flatT l=flatT (stg l n))∧∀(b:L153),(∃(n:Nat),b.i=(↑n:Int)∧1≤n∧(n≤
List.length l∨n=1)∧b.o=flatT (stg l n))→List.length l=0+List.length l∧(ltb b.i (↑(0+List.length l):Int)=true→List.length l=List.length l∧b.o=b.o∧0+List.length l=0+
List.length l∧b.i=b.i∧b.i=b.i∧(∃(j:Nat),b.i=(↑j:Int)∧b.o=flatT (unT b.o)∧Way l (Int.toNat b.i) j (unT b.o))∧∀(b_1:L153),(∃(j:Nat),b_1.i=(↑j:Int)∧b_1.o=flatT
(unT b_1.o)∧Way l (Int.toNat b.i) j (unT b_1.o))→(ltb 0 b_1.i=true→ltb 0 b_1.i=true∧ltb 0 b_1.i=true∧ltb 0 b_1.i=true∧inR IntKind.i64 (b_1.i-1)=true∧ltb 0 b_1.i=true∧leb
0 (b_1.i-1)=true∧ltb (b_1.i-1) (↑(0+List.length l):Int)=true∧List.length l=0+List.length l∧ltb 0 b_1.i=true∧List.length l=0+List.length l∧ltb 0 b_1.i=true∧
List.length l=0+List.length l∧b_1.o[Int.toNat (b_1.i-1)*4+0]? =some (AV.int IntKind.i64 (tX (unT b_1.o) (b_1.i-1)))∧b_1.o[Int.toNat (b_1.i-1)*4+0+1]? =some (AV.int
IntKind.i64 (tY (unT b_1.o) (b_1.i-1)))∧b_1.o[Int.toNat (b_1.i-1)*4+0+1+1]? =some (AV.int IntKind.u8 (tQ (unT b_1.o) (b_1.i-1)))∧ltb 0 b_1.i=true∧ltb 0 b_1.i=true∧ltb 0
b_1.i=true∧leb 0 b_1.i=true∧ltb b_1.i (↑(0+List.length l):Int)=true∧List.length l=0+List.length l∧ltb 0 b_1.i=true∧List.length l=0+List.length l∧ltb 0 b_1.i=true∧
List.length l=0+List.length l∧b_1.o[Int.toNat b_1.i*4+0]? =some (AV.int IntKind.i64 (tX (unT b_1.o) b_1.i))∧b_1.o[Int.toNat b_1.i*4+0+1]? =some (AV.int IntKind.i64 (tY (unT b_1.o)
b_1.i))∧b_1.o[Int.toNat b_1.i*4+0+1+1]? =some (AV.int IntKind.u8 (tQ (unT b_1.o) b_1.i))∧ltb 0 b_1.i=true∧ltb 0 b_1.i=true∧ltb 0 b_1.i=true∧((bI (ltC (tX (unT b_1.o) b_1.i,tY
(unT b_1.o) b_1.i,tQ (unT b_1.o) b_1.i) (tX (unT b_1.o) (b_1.i-1),tY (unT b_1.o) (b_1.i-1),tQ (unT b_1.o) (b_1.i-1))) 1 0==1)=true→inR IntKind.i64 (b_1.i-1)=true∧leb 0 b_1.i=
true∧ltb b_1.i (↑(0+List.length l):Int)=true∧List.length l=0+List.length l∧List.length l=0+List.length l∧b_1.o[Int.toNat b_1.i*4]? =some (AV.int IntKind.i64 (tX (unT b_1.o)
b_1.i))∧b_1.o[Int.toNat b_1.i*4+1]? =some (AV.int IntKind.i64 (tY (unT b_1.o) b_1.i))∧b_1.o[Int.toNat b_1.i*4+1+1]? =some (AV.int IntKind.u8 (tQ (unT b_1.o) b_1.i))∧b_1.o[Int.toNat
b_1.i*4+1+1+1]? =some (AV.imm (Cont.ints IntKind.i64 (tKh (unT b_1.o) b_1.i)) (List.length (tKh (unT b_1.o) b_1.i)) none)∧inR IntKind.i64 (b_1.i-1)=true∧leb 0 (b_1.i-1)=true∧ltb
(b_1.i-1) (↑(0+List.length l):Int)=true∧List.length l=0+List.length l∧List.length l=0+List.length l∧b_1.o[Int.toNat (b_1.i-1)*4]? =some (AV.int IntKind.i64 (tX (unT b_1.o)
(b_1.i-1)))∧b_1.o[Int.toNat (b_1.i-1)*4+1]? =some (AV.int IntKind.i64 (tY (unT b_1.o) (b_1.i-1)))∧b_1.o[Int.toNat (b_1.i-1)*4+1+1]? =some (AV.int IntKind.u8 (tQ (unT b_1.o)
(b_1.i-1)))∧b_1.o[Int.toNat (b_1.i-1)*4+1+1+1]? =some (AV.imm (Cont.ints IntKind.i64 (tKh (unT b_1.o) (b_1.i-1))) (List.length (tKh (unT b_1.o) (b_1.i-1))) none)∧leb 0 (b_1.i-1)
=true∧ltb (b_1.i-1) (↑(0+List.length l):Int)=true∧List.length l=0+List.length l∧List.length l=0+List.length l∧len' (Int.toNat (b_1.i-1)*4+4) (Cont.size (Cont.vals
b_1.o))=true∧leb 0 b_1.i=true∧ltb b_1.i (↑(0+List.length l):Int)=true∧List.length l=0+List.length l∧List.length l=0+List.length l∧len' (Int.toNat b_1.i*4+4) (Cont.size
(Cont.vals (List.set (List.set (List.set (List.set b_1.o (Int.toNat (b_1.i-1)*4) (AV.int IntKind.i64 (tX (unT b_1.o) b_1.i))) (Int.toNat (b_1.i-1)*4+1) (AV.int IntKind.i64 (tY (unT b_1.o)
b_1.i))) (Int.toNat (b_1.i-1)*4+1+1) (AV.int IntKind.u8 (tQ (unT b_1.o) b_1.i))) (Int.toNat (b_1.i-1)*4+1+1+1) (AV.imm (Cont.ints IntKind.i64 (tKh (unT b_1.o) b_1.i)) (List.length
(tKh (unT b_1.o) b_1.i)) none))))=true∧inR IntKind.i64 (b_1.i-1)=true∧List.length l=List.length l∧List.set (List.set (List.set (List.set (List.set (List.set (List.set (List.set b_1.o
(Int.toNat (b_1.i-1)*4) (AV.int IntKind.i64 (tX (unT b_1.o) b_1.i))) (Int.toNat (b_1.i-1)*4+1) (AV.int IntKind.i64 (tY (unT b_1.o) b_1.i))) (Int.toNat (b_1.i-1)*4+1+1) (AV.int
IntKind.u8 (tQ (unT b_1.o) b_1.i))) (Int.toNat (b_1.i-1)*4+1+1+1) (AV.imm (Cont.ints IntKind.i64 (tKh (unT b_1.o) b_1.i)) (List.length (tKh (unT b_1.o) b_1.i)) none)) (Int.toNat b_1.i*4)
(AV.int IntKind.i64 (tX (unT b_1.o) (b_1.i-1)))) (Int.toNat b_1.i*4+1) (AV.int IntKind.i64 (tY (unT b_1.o) (b_1.i-1)))) (Int.toNat b_1.i*4+1+1) (AV.int IntKind.u8 (tQ (unT b_1.o) (b_1.i
-1)))) (Int.toNat b_1.i*4+1+1+1) (AV.imm (Cont.ints IntKind.i64 (tKh (unT b_1.o) (b_1.i-1))) (List.length (tKh (unT b_1.o) (b_1.i-1))) none)=List.set (List.set (List.set (List.set
(List.set (List.set (List.set (List.set b_1.o (Int.toNat (b_1.i-1)*4) (AV.int IntKind.i64 (tX (unT b_1.o) b_1.i))) (Int.toNat (b_1.i-1)*4+1) (AV.int IntKind.i64 (tY (unT b_1.o) b_1.i)))
(Int.toNat (b_1.i-1)*4+1+1) (AV.int IntKind.u8 (tQ (unT b_1.o) b_1.i))) (Int.toNat (b_1.i-1)*4+1+1+1) (AV.imm (Cont.ints IntKind.i64 (tKh (unT b_1.o) b_1.i)) (List.length (tKh (unT
b_1.o) b_1.i)) none)) (Int.toNat b_1.i*4) (AV.int IntKind.i64 (tX (unT b_1.o) (b_1.i-1)))) (Int.toNat b_1.i*4+1) (AV.int IntKind.i64 (tY (unT b_1.o) (b_1.i-1)))) (Int.toNat b_1.i*4+1+
1) (AV.int IntKind.u8 (tQ (unT b_1.o) (b_1.i-1)))) (Int.toNat b_1.i*4+1+1+1) (AV.imm (Cont.ints IntKind.i64 (tKh (unT b_1.o) (b_1.i-1))) (List.length (tKh (unT b_1.o) (b_1.i-1))) none)∧
0+List.length l=0+List.length l∧b.i=b.i∧b_1.i-1=b_1.i-1∧(∃(j:Nat),b_1.i-1=(↑j:Int)∧List.set (List.set (List.set (List.set (List.set (List.set (List.set (List.set b_1.o
(Int.toNat (b_1.i-1)*4) (AV.int IntKind.i64 (tX (unT b_1.o) b_1.i))) (Int.toNat (b_1.i-1)*4+1) (AV.int IntKind.i64 (tY (unT b_1.o) b_1.i))) (Int.toNat (b_1.i-1)*4+1+1) (AV.int
IntKind.u8 (tQ (unT b_1.o) b_1.i))) (Int.toNat (b_1.i-1)*4+1+1+1) (AV.imm (Cont.ints IntKind.i64 (tKh (unT b_1.o) b_1.i)) (List.length (tKh (unT b_1.o) b_1.i)) none)) (Int.toNat b_1.i*4)
(AV.int IntKind.i64 (tX (unT b_1.o) (b_1.i-1)))) (Int.toNat b_1.i*4+1) (AV.int IntKind.i64 (tY (unT b_1.o) (b_1.i-1)))) (Int.toNat b_1.i*4+1+1) (AV.int IntKind.u8 (tQ (unT b_1.o) (b_1.i
-1)))) (Int.toNat b_1.i*4+1+1+1) (AV.imm (Cont.ints IntKind.i64 (tKh (unT b_1.o) (b_1.i-1))) (List.length (tKh (unT b_1.o) (b_1.i-1))) none)=flatT (unT (List.set (List.set (List.set
(List.set (List.set (List.set (List.set (List.set b_1.o (Int.toNat (b_1.i-1)*4) (AV.int IntKind.i64 (tX (unT b_1.o) b_1.i))) (Int.toNat (b_1.i-1)*4+1) (AV.int IntKind.i64 (tY (unT b_1.o)
b_1.i))) (Int.toNat (b_1.i-1)*4+1+1) (AV.int IntKind.u8 (tQ (unT b_1.o) b_1.i))) (Int.toNat (b_1.i-1)*4+1+1+1) (AV.imm (Cont.ints IntKind.i64 (tKh (unT b_1.o) b_1.i)) (List.length
(tKh (unT b_1.o) b_1.i)) none)) (Int.toNat b_1.i*4) (AV.int IntKind.i64 (tX (unT b_1.o) (b_1.i-1)))) (Int.toNat b_1.i*4+1) (AV.int IntKind.i64 (tY (unT b_1.o) (b_1.i-1)))) (Int.toNat b_1.i*
4+1+1) (AV.int IntKind.u8 (tQ (unT b_1.o) (b_1.i-1)))) (Int.toNat b_1.i*4+1+1+1) (AV.imm (Cont.ints IntKind.i64 (tKh (unT b_1.o) (b_1.i-1))) (List.length (tKh (unT b_1.o) (b_1.i-1)))
none)))∧Way l (Int.toNat b.i) j (unT (List.set (List.set (List.set (List.set (List.set (List.set (List.set (List.set b_1.o (Int.toNat (b_1.i-1)*4) (AV.int IntKind.i64 (tX (unT b_1.o) b_1.i)))
(Int.toNat (b_1.i-1)*4+1) (AV.int IntKind.i64 (tY (unT b_1.o) b_1.i))) (Int.toNat (b_1.i-1)*4+1+1) (AV.int IntKind.u8 (tQ (unT b_1.o) b_1.i))) (Int.toNat (b_1.i-1)*4+1+1+1)
(AV.imm (Cont.ints IntKind.i64 (tKh (unT b_1.o) b_1.i)) (List.length (tKh (unT b_1.o) b_1.i)) none)) (Int.toNat b_1.i*4) (AV.int IntKind.i64 (tX (unT b_1.o) (b_1.i-1)))) (Int.toNat b_1.i*4+1)
(AV.int IntKind.i64 (tY (unT b_1.o) (b_1.i-1)))) (Int.toNat b_1.i*4+1+1) (AV.int IntKind.u8 (tQ (unT b_1.o) (b_1.i-1)))) (Int.toNat b_1.i*4+1+1+1) (AV.imm (Cont.ints IntKind.i64 (tKh
(unT b_1.o) (b_1.i-1))) (List.length (tKh (unT b_1.o) (b_1.i-1))) none))))∧Int.toNat (b_1.i-1)<Int.toNat b_1.i∧True)∧((bI (ltC (tX (unT b_1.o) b_1.i,tY (unT b_1.o) b_1.i,tQ (unT b_1.o)
b_1.i) (tX (unT b_1.o) (b_1.i-1),tY (unT b_1.o) (b_1.i-1),tQ (unT b_1.o) (b_1.i-1))) 1 0==1)=false→inR IntKind.i64 (b.i+1)=true∧List.length l=List.length l∧b_1.o=b_1.o∧0+
List.length l=0+List.length l∧b.i+1=b.i+1∧(∃(n:Nat),b.i+1=(↑n:Int)∧1≤n∧(n≤List.length l∨n=1)∧b_1.o=flatT (stg l n))∧List.length l-Int.toNat (b.i+1)<
List.length l-Int.toNat b.i∧True))∧(ltb 0 b_1.i=false→(!ltb 0 b_1.i)=true∧(!ltb 0 b_1.i)=true∧(!ltb 0 b_1.i)=true∧(!ltb 0 b_1.i)=true∧(!ltb 0 b_1.i)=true∧(!ltb 0 b_1.i)=
true∧(!ltb 0 b_1.i)=true∧(!ltb 0 b_1.i)=true∧(!ltb 0 b_1.i)=true∧(!ltb 0 b_1.i)=true∧(!ltb 0 b_1.i)=true∧(!ltb 0 b_1.i)=true∧(!ltb 0 b_1.i)=true∧(!ltb 0 b_1.i)=true∧
inR IntKind.i64 (b.i+1)=true∧List.length l=List.length l∧b_1.o=b_1.o∧0+List.length l=0+List.length l∧b.i+1=b.i+1∧(∃(n:Nat),b.i+1=(↑n:Int)∧1≤n∧(n≤
List.length l∨n=1)∧b_1.o=flatT (stg l n))∧List.length l-Int.toNat (b.i+1)<List.length l-Int.toNat b.i∧True))∧(ltb b.i (↑(0+List.length l):Int)=false→List.length l=0+
List.length l∧Cont.vals b.o=Cont.vals (flatT (stT l))∧0+List.length l=List.length (stT l)∧True)):=by kernel_rfl

theorem ob_o113 (t a b:Int):fnP (TM113) G 10000 fe113 (.r [] 0 (.r [] 1 (.ff (.r [] 3 .nil)))) ([.agg [.int .u8 t,.int .i64 a,.int .i64 b]]) ([.agg [.int .u8 t,.int .i64 a,.int .i64 b],.int .i64 0]) ([])=(
(0≤t∧t≤255)∧(bI (mvV t a b) 0 1 !=0)=false∧t=t∧a=a∧b=b∧iI 0=0∧True):=by kernel_rfl

theorem ob_o58_0 (a b:Int):fnP (TM58) G 10000 fe58 (.r [] 0 (.r [] 1 (.ff (.r [] 31 (.r [] 31 (.r [] 203 (.r [] 57 .nil))))))) ([.agg [.int .u8 0,.int .i64 a,.int .i64 b]]) ([.agg [.int .u8 0,.int .i64 (mtX 0 (-a) (-b)),.int .i64 (mtY 0 (-a) (-b))],.int .i64 0]) ([])=(
(iI 0≤iI 0∧iI 0≤iI 255)∧(bI (mvV 0 a b) 0 1 !=0)=false∧inR IntKind.i64 (0-a)=true∧inR IntKind.i64 (0-b)=true∧((iI (-1)≤iI 1∧iI 1≤iI 1)∧(iI (-1)≤iI 0∧iI 0≤iI 1)∧
(iI (-1)≤iI 0∧iI 0≤iI 1)∧(iI (-1)≤iI 1∧iI 1≤iI 1)∧smP (0-a) (0-b))∧isMx 1 0 0 1∧mvO 0 (1*(0-a)+0*(0-b)) (0*(0-a)+1*(0-b))∧iI 0=0∧1*(0-a)+0*(0
-b)=mtX 0 (-a) (-b)∧0*(0-a)+1*(0-b)=mtY 0 (-a) (-b)∧iI 0=0∧True):=by kernel_rfl

theorem ob_o58_1 (a b:Int):fnP (TM58) G 10000 fe58 (.r [] 0 (.r [] 1 (.ff (.r [] 31 (.r [] 31 (.r [] 203 (.r [] 57 .nil))))))) ([.agg [.int .u8 1,.int .i64 a,.int .i64 b]]) ([.agg [.int .u8 3,.int .i64 (mtX 3 (-a) (-b)),.int .i64 (mtY 3 (-a) (-b))],.int .i64 0]) ([])=(
(iI 0≤iI 1∧iI 1≤iI 255)∧(bI (mvV 1 a b) 0 1 !=0)=false∧inR IntKind.i64 (0-a)=true∧inR IntKind.i64 (0-b)=true∧((iI (-1)≤iI 0∧iI 0≤iI 1)∧(iI (-1)≤iI 1∧iI 1≤iI 1)∧
(iI (-1)≤iI (-1)∧iI (-1)≤iI 1)∧(iI (-1)≤iI 0∧iI 0≤iI 1)∧smP (0-a) (0-b))∧isMx 0 1 (-1) 0∧mvO 3 (0*(0-a)+1*(0-b)) (-1*(0-a)+0*(0-b))∧iI 3=3∧0*(0-a)
+1*(0-b)=mtX 3 (-a) (-b)∧ -1*(0-a)+0*(0-b)=mtY 3 (-a) (-b)∧iI 0=0∧True):=by kernel_rfl

theorem ob_o58_2 (a b:Int):fnP (TM58) G 10000 fe58 (.r [] 0 (.r [] 1 (.ff (.r [] 31 (.r [] 31 (.r [] 203 (.r [] 57 .nil))))))) ([.agg [.int .u8 2,.int .i64 a,.int .i64 b]]) ([.agg [.int .u8 2,.int .i64 (mtX 2 (-a) (-b)),.int .i64 (mtY 2 (-a) (-b))],.int .i64 0]) ([])=(
(iI 0≤iI 2∧iI 2≤iI 255)∧(bI (mvV 2 a b) 0 1 !=0)=false∧inR IntKind.i64 (0-a)=true∧inR IntKind.i64 (0-b)=true∧((iI (-1)≤iI (-1)∧iI (-1)≤iI 1)∧(iI (-1)≤iI 0∧iI 0≤
iI 1)∧(iI (-1)≤iI 0∧iI 0≤iI 1)∧(iI (-1)≤iI (-1)∧iI (-1)≤iI 1)∧smP (0-a) (0-b))∧isMx (-1) 0 0 (-1)∧mvO 2 (-1*(0-a)+0*(0-b)) (0*(0-a)+ -1*(0-b))∧iI 2=2∧
-1*(0-a)+0*(0-b)=mtX 2 (-a) (-b)∧0*(0-a)+ -1*(0-b)=mtY 2 (-a) (-b)∧iI 0=0∧True):=by kernel_rfl

theorem ob_o58_3 (a b:Int):fnP (TM58) G 10000 fe58 (.r [] 0 (.r [] 1 (.ff (.r [] 31 (.r [] 31 (.r [] 203 (.r [] 57 .nil))))))) ([.agg [.int .u8 3,.int .i64 a,.int .i64 b]]) ([.agg [.int .u8 1,.int .i64 (mtX 1 (-a) (-b)),.int .i64 (mtY 1 (-a) (-b))],.int .i64 0]) ([])=(
(iI 0≤iI 3∧iI 3≤iI 255)∧(bI (mvV 3 a b) 0 1 !=0)=false∧inR IntKind.i64 (0-a)=true∧inR IntKind.i64 (0-b)=true∧((iI (-1)≤iI 0∧iI 0≤iI 1)∧(iI (-1)≤iI (-1)∧iI (-1)≤
iI 1)∧(iI (-1)≤iI 1∧iI 1≤iI 1)∧(iI (-1)≤iI 0∧iI 0≤iI 1)∧smP (0-a) (0-b))∧isMx 0 (-1) 1 0∧mvO 1 (0*(0-a)+ -1*(0-b)) (1*(0-a)+0*(0-b))∧iI 1=1∧0*(0-
a)+ -1*(0-b)=mtX 1 (-a) (-b)∧1*(0-a)+0*(0-b)=mtY 1 (-a) (-b)∧iI 0=0∧True):=by kernel_rfl

theorem ob_o58_4 (a b:Int):fnP (TM58) G 10000 fe58 (.r [] 0 (.r [] 1 (.ff (.r [] 31 (.r [] 31 (.r [] 203 (.r [] 57 .nil))))))) ([.agg [.int .u8 4,.int .i64 a,.int .i64 b]]) ([.agg [.int .u8 4,.int .i64 (mtX 4 (-a) (-b)),.int .i64 (mtY 4 (-a) (-b))],.int .i64 0]) ([])=(
(iI 0≤iI 4∧iI 4≤iI 255)∧(bI (mvV 4 a b) 0 1 !=0)=false∧inR IntKind.i64 (0-a)=true∧inR IntKind.i64 (0-b)=true∧((iI (-1)≤iI (-1)∧iI (-1)≤iI 1)∧(iI (-1)≤iI 0∧iI 0≤
iI 1)∧(iI (-1)≤iI 0∧iI 0≤iI 1)∧(iI (-1)≤iI 1∧iI 1≤iI 1)∧smP (0-a) (0-b))∧isMx (-1) 0 0 1∧mvO 4 (-1*(0-a)+0*(0-b)) (0*(0-a)+1*(0-b))∧iI 4=4∧ -1*(0-
a)+0*(0-b)=mtX 4 (-a) (-b)∧0*(0-a)+1*(0-b)=mtY 4 (-a) (-b)∧iI 0=0∧True):=by kernel_rfl

theorem ob_o58_5 (a b:Int):fnP (TM58) G 10000 fe58 (.r [] 0 (.r [] 1 (.ff (.r [] 31 (.r [] 31 (.r [] 203 (.r [] 57 .nil))))))) ([.agg [.int .u8 5,.int .i64 a,.int .i64 b]]) ([.agg [.int .u8 5,.int .i64 (mtX 5 (-a) (-b)),.int .i64 (mtY 5 (-a) (-b))],.int .i64 0]) ([])=(
(iI 0≤iI 5∧iI 5≤iI 255)∧(bI (mvV 5 a b) 0 1 !=0)=false∧inR IntKind.i64 (0-a)=true∧inR IntKind.i64 (0-b)=true∧((iI (-1)≤iI 0∧iI 0≤iI 1)∧(iI (-1)≤iI (-1)∧iI (-1)≤
iI 1)∧(iI (-1)≤iI (-1)∧iI (-1)≤iI 1)∧(iI (-1)≤iI 0∧iI 0≤iI 1)∧smP (0-a) (0-b))∧isMx 0 (-1) (-1) 0∧mvO 5 (0*(0-a)+ -1*(0-b)) (-1*(0-a)+0*(0-b))∧iI 5=5∧
0*(0-a)+ -1*(0-b)=mtX 5 (-a) (-b)∧ -1*(0-a)+0*(0-b)=mtY 5 (-a) (-b)∧iI 0=0∧True):=by kernel_rfl

theorem ob_o58_6 (a b:Int):fnP (TM58) G 10000 fe58 (.r [] 0 (.r [] 1 (.ff (.r [] 31 (.r [] 31 (.r [] 203 (.r [] 57 .nil))))))) ([.agg [.int .u8 6,.int .i64 a,.int .i64 b]]) ([.agg [.int .u8 6,.int .i64 (mtX 6 (-a) (-b)),.int .i64 (mtY 6 (-a) (-b))],.int .i64 0]) ([])=(
(iI 0≤iI 6∧iI 6≤iI 255)∧(bI (mvV 6 a b) 0 1 !=0)=false∧inR IntKind.i64 (0-a)=true∧inR IntKind.i64 (0-b)=true∧((iI (-1)≤iI 1∧iI 1≤iI 1)∧(iI (-1)≤iI 0∧iI 0≤iI 1)∧
(iI (-1)≤iI 0∧iI 0≤iI 1)∧(iI (-1)≤iI (-1)∧iI (-1)≤iI 1)∧smP (0-a) (0-b))∧isMx 1 0 0 (-1)∧mvO 6 (1*(0-a)+0*(0-b)) (0*(0-a)+ -1*(0-b))∧iI 6=6∧1*(0-a)
+0*(0-b)=mtX 6 (-a) (-b)∧0*(0-a)+ -1*(0-b)=mtY 6 (-a) (-b)∧iI 0=0∧True):=by kernel_rfl

theorem ob_o58_7 (a b:Int):fnP (TM58) G 10000 fe58 (.r [] 0 (.r [] 1 (.ff (.r [] 31 (.r [] 31 (.r [] 203 (.r [] 57 .nil))))))) ([.agg [.int .u8 7,.int .i64 a,.int .i64 b]]) ([.agg [.int .u8 7,.int .i64 (mtX 7 (-a) (-b)),.int .i64 (mtY 7 (-a) (-b))],.int .i64 0]) ([])=(
(iI 0≤iI 7∧iI 7≤iI 255)∧(bI (mvV 7 a b) 0 1 !=0)=false∧inR IntKind.i64 (0-a)=true∧inR IntKind.i64 (0-b)=true∧((iI (-1)≤iI 0∧iI 0≤iI 1)∧(iI (-1)≤iI 1∧iI 1≤iI 1)∧
(iI (-1)≤iI 1∧iI 1≤iI 1)∧(iI (-1)≤iI 0∧iI 0≤iI 1)∧smP (0-a) (0-b))∧isMx 0 1 1 0∧mvO 7 (0*(0-a)+1*(0-b)) (1*(0-a)+0*(0-b))∧iI 7=7∧0*(0-a)+1*(0
-b)=mtX 7 (-a) (-b)∧1*(0-a)+0*(0-b)=mtY 7 (-a) (-b)∧iI 0=0∧True):=by kernel_rfl

theorem ob_o123 (x y q:Int):fnP (T0) G 10000 fe123 (.r [] 0 (.r [] 5 (.r [] 4 (.r [] 1 (.r [] 0 (.cnd (.r [] 5 .nil) (.r [] 0 (.cnd (.r [] 17 .nil) (.r [] 0 (.cnd (.r [] 17 .nil) (.r [] 5 .nil))))))))))) ([.agg [.int .i64 x,.int .i64 y,.int .u8 q]]) ([.agg [.int .i64 (6*x+3),.int .i64 (6*y+3),.int .i64 (ckX 1 x q),.int .i64 (ckY 1 y q),.int .i64 (ckX 2 x q),.int .i64 (ckY 2 y q)]]) ([])=(
inR IntKind.i64 (6*x)=true∧inR IntKind.i64 (6*y)=true∧inR IntKind.i64 (6*x+3)=true∧inR IntKind.i64 (6*y+3)=true∧((q==0)=true→inR IntKind.i64 (6*x+6)=true∧6*
x+3=6*x+3∧6*y+3=6*y+3∧6*x=ckX 1 x q∧6*y=ckY 1 y q∧6*x+6=ckX 2 x q∧6*y=ckY 2 y q∧True)∧((q==0)=false→((q==1)=true→inR IntKind.i64 (6*x+
6)=true∧inR IntKind.i64 (6*x+6)=true∧inR IntKind.i64 (6*y+6)=true∧6*x+3=6*x+3∧6*y+3=6*y+3∧6*x+6=ckX 1 x q∧6*y=ckY 1 y q∧6*x+6=ckX 2 x q
∧6*y+6=ckY 2 y q∧True)∧((q==1)=false→((q==2)=true→inR IntKind.i64 (6*x+6)=true∧inR IntKind.i64 (6*y+6)=true∧inR IntKind.i64 (6*y+6)=true∧6*x+3=6*
x+3∧6*y+3=6*y+3∧6*x+6=ckX 1 x q∧6*y+6=ckY 1 y q∧6*x=ckX 2 x q∧6*y+6=ckY 2 y q∧True)∧((q==2)=false→inR IntKind.i64 (6*y+6)=true∧6*x+3=
6*x+3∧6*y+3=6*y+3∧6*x=ckX 1 x q∧6*y+6=ckY 1 y q∧6*x=ckX 2 x q∧6*y=ckY 2 y q∧True)))):=by kernel_rfl

theorem ob_o75 (x y q:Int):fnP (TM75) G 10000 fe75 (.r [] 0 (.r [] 5 (.r [] 108524479 .nil))) ([.agg [.int .i64 x,.int .i64 y,.int .u8 q]]) ([.agg [.int .i64 (6*x+inX q),.int .i64 (6*y+inY q)]]) ([])=(
s10k x y∧inR IntKind.i64 (6*x+3+ckX 1 x q)=true∧inR IntKind.i64 (6*x+3+ckX 1 x q+ckX 2 x q)=true∧inR IntKind.i64 (Int.tdiv (6*x+3+ckX 1 x q+ckX 2 x q) 3)=true∧inR
IntKind.i64 (6*y+3+ckY 1 y q)=true∧inR IntKind.i64 (6*y+3+ckY 1 y q+ckY 2 y q)=true∧inR IntKind.i64 (Int.tdiv (6*y+3+ckY 1 y q+ckY 2 y q) 3)=true∧Int.tdiv (6*x+3
+ckX 1 x q+ckX 2 x q) 3=6*x+inX q∧Int.tdiv (6*y+3+ckY 1 y q+ckY 2 y q) 3=6*y+inY q∧True):=by kernel_rfl

theorem ob_o110_0 (a b x y:Int):fnP (T0) G 10000 fe110 (.r [] 0 (.r [] 3 (.r [] 1 (.lit (.r [] 0 (.un (.r [] 7 (.lit (.r [] 73 .nil))))))))) ([.agg [.int .u8 0,.int .i64 a,.int .i64 b],.agg [.int .i64 x,.int .i64 y]]) ([.agg [.int .i64 (mtX 0 x y+6*a),.int .i64 (mtY 0 x y+6*b)]]) ([])=(
inR IntKind.i64 (6*a)=true∧inR IntKind.i64 (x+6*a)=true∧inR IntKind.i64 (6*b)=true∧inR IntKind.i64 (y+6*b)=true∧x+6*a=mtX 0 x y+6*a∧y+6*b=mtY 0 x y+6*
b∧True):=by kernel_rfl

theorem ob_o110_1 (a b x y:Int):fnP (T0) G 10000 fe110 (.r [] 0 (.r [] 3 (.r [] 1 (.lit (.r [] 0 (.un (.r [] 7 (.lit (.r [] 0 (.r [] 1 (.un (.r [] 7 (.lit (.r [] 73 .nil)))))))))))))) ([.agg [.int .u8 1,.int .i64 a,.int .i64 b],.agg [.int .i64 x,.int .i64 y]]) ([.agg [.int .i64 (mtX 1 x y+6*a),.int .i64 (mtY 1 x y+6*b)]]) ([])=(
inR IntKind.i64 (0-y)=true∧inR IntKind.i64 (6*a)=true∧inR IntKind.i64 (0-y+6*a)=true∧inR IntKind.i64 (6*b)=true∧inR IntKind.i64 (x+6*b)=true∧0-y+6*a=mtX 1 x
y+6*a∧x+6*b=mtY 1 x y+6*b∧True):=by kernel_rfl

theorem ob_o110_2 (a b x y:Int):fnP (T0) G 10000 fe110 (.r [] 0 (.r [] 3 (.r [] 1 (.lit (.r [] 0 (.un (.r [] 7 (.lit (.r [] 0 (.r [] 1 (.un (.r [] 7 (.lit (.r [] 0 (.r [] 1 (.un (.r [] 7 (.lit (.r [] 73 .nil))))))))))))))))))) ([.agg [.int .u8 2,.int .i64 a,.int .i64 b],.agg [.int .i64 x,.int .i64 y]]) ([.agg [.int .i64 (mtX 2 x y+6*a),.int .i64 (mtY 2 x y+6*b)]]) ([])=(
inR IntKind.i64 (0-y)=true∧inR IntKind.i64 (0-x)=true∧inR IntKind.i64 (6*a)=true∧inR IntKind.i64 (0-x+6*a)=true∧inR IntKind.i64 (6*b)=true∧inR IntKind.i64 (0-y+6
*b)=true∧0-x+6*a=mtX 2 x y+6*a∧0-y+6*b=mtY 2 x y+6*b∧True):=by kernel_rfl

theorem ob_o110_3 (a b x y:Int):fnP (T0) G 10000 fe110 (.r [] 0 (.r [] 3 (.r [] 1 (.lit (.r [] 0 (.un (.r [] 7 (.lit (.r [] 0 (.r [] 1 (.un (.r [] 7 (.lit (.r [] 0 (.r [] 1 (.un (.r [] 7 (.lit (.r [] 0 (.r [] 1 (.un (.r [] 7 (.lit (.r [] 73 .nil)))))))))))))))))))))))) ([.agg [.int .u8 3,.int .i64 a,.int .i64 b],.agg [.int .i64 x,.int .i64 y]]) ([.agg [.int .i64 (mtX 3 x y+6*a),.int .i64 (mtY 3 x y+6*b)]]) ([])=(
inR IntKind.i64 (0-y)=true∧inR IntKind.i64 (0-x)=true∧inR IntKind.i64 (0-(0-y))=true∧inR IntKind.i64 (6*a)=true∧inR IntKind.i64 (0-(0-y)+6*a)=true∧inR IntKind.i64
(6*b)=true∧inR IntKind.i64 (0-x+6*b)=true∧0-(0-y)+6*a=mtX 3 x y+6*a∧0-x+6*b=mtY 3 x y+6*b∧True):=by kernel_rfl

theorem ob_o110_4 (a b x y:Int):fnP (T0) G 10000 fe110 (.r [] 0 (.r [] 3 (.r [] 1 (.lit (.r [] 0 (.r [] 0 (.un (.r [] 7 (.lit (.r [] 73 .nil)))))))))) ([.agg [.int .u8 4,.int .i64 a,.int .i64 b],.agg [.int .i64 x,.int .i64 y]]) ([.agg [.int .i64 (mtX 4 x y+6*a),.int .i64 (mtY 4 x y+6*b)]]) ([])=(
inR IntKind.i64 (0-x)=true∧inR IntKind.i64 (6*a)=true∧inR IntKind.i64 (0-x+6*a)=true∧inR IntKind.i64 (6*b)=true∧inR IntKind.i64 (y+6*b)=true∧0-x+6*a=mtX 4 x
y+6*a∧y+6*b=mtY 4 x y+6*b∧True):=by kernel_rfl

theorem ob_o110_5 (a b x y:Int):fnP (T0) G 10000 fe110 (.r [] 0 (.r [] 3 (.r [] 1 (.lit (.r [] 0 (.r [] 0 (.un (.r [] 7 (.lit (.r [] 0 (.r [] 1 (.un (.r [] 7 (.lit (.r [] 73 .nil))))))))))))))) ([.agg [.int .u8 5,.int .i64 a,.int .i64 b],.agg [.int .i64 x,.int .i64 y]]) ([.agg [.int .i64 (mtX 5 x y+6*a),.int .i64 (mtY 5 x y+6*b)]]) ([])=(
inR IntKind.i64 (0-x)=true∧inR IntKind.i64 (0-y)=true∧inR IntKind.i64 (6*a)=true∧inR IntKind.i64 (0-y+6*a)=true∧inR IntKind.i64 (6*b)=true∧inR IntKind.i64 (0-x+6
*b)=true∧0-y+6*a=mtX 5 x y+6*a∧0-x+6*b=mtY 5 x y+6*b∧True):=by kernel_rfl

theorem ob_o110_6 (a b x y:Int):fnP (T0) G 10000 fe110 (.r [] 0 (.r [] 3 (.r [] 1 (.lit (.r [] 0 (.r [] 0 (.un (.r [] 7 (.lit (.r [] 0 (.r [] 1 (.un (.r [] 7 (.lit (.r [] 0 (.r [] 1 (.un (.r [] 7 (.lit (.r [] 73 .nil)))))))))))))))))))) ([.agg [.int .u8 6,.int .i64 a,.int .i64 b],.agg [.int .i64 x,.int .i64 y]]) ([.agg [.int .i64 (mtX 6 x y+6*a),.int .i64 (mtY 6 x y+6*b)]]) ([])=(
inR IntKind.i64 (0-x)=true∧inR IntKind.i64 (0-y)=true∧inR IntKind.i64 (0-(0-x))=true∧inR IntKind.i64 (6*a)=true∧inR IntKind.i64 (0-(0-x)+6*a)=true∧inR IntKind.i64
(6*b)=true∧inR IntKind.i64 (0-y+6*b)=true∧0-(0-x)+6*a=mtX 6 x y+6*a∧0-y+6*b=mtY 6 x y+6*b∧True):=by kernel_rfl

theorem ob_o110_7 (a b x y:Int):fnP (T0) G 10000 fe110 (.r [] 0 (.r [] 3 (.r [] 1 (.lit (.r [] 0 (.r [] 0 (.un (.r [] 7 (.lit (.r [] 0 (.r [] 1 (.un (.r [] 7 (.lit (.r [] 0 (.r [] 1 (.un (.r [] 7 (.lit (.r [] 0 (.r [] 1 (.un (.r [] 7 (.lit (.r [] 73 .nil))))))))))))))))))))))))) ([.agg [.int .u8 7,.int .i64 a,.int .i64 b],.agg [.int .i64 x,.int .i64 y]]) ([.agg [.int .i64 (mtX 7 x y+6*a),.int .i64 (mtY 7 x y+6*b)]]) ([])=(
inR IntKind.i64 (0-x)=true∧inR IntKind.i64 (0-y)=true∧inR IntKind.i64 (0-(0-x))=true∧inR IntKind.i64 (0-(0-y))=true∧inR IntKind.i64 (6*a)=true∧inR IntKind.i64 (0-(0
-y)+6*a)=true∧inR IntKind.i64 (6*b)=true∧inR IntKind.i64 (0-(0-x)+6*b)=true∧0-(0-y)+6*a=mtX 7 x y+6*a∧0-(0-x)+6*b=mtY 7 x y+6*b∧True):=by kernel_rfl

theorem ob_o147 (a:Int):fnP (T0) G 10000 fe147 (.r [] 0 (.r [] 0 (.cnd (.r [] 16 .nil) (.r [] 2 .nil)))) ([.int .i64 a,.int .i64 6]) ([.int .i64 (a/6)]) ([])=(
(ltb a 0=true→inR IntKind.i64 (0-a)=true∧inR IntKind.i64 (0-a+6)=true∧inR IntKind.i64 (0-a+6-1)=true∧inR IntKind.i64 (Int.tdiv (0-a+6-1) 6)=true∧inR IntKind.i64
(0-Int.tdiv (0-a+6-1) 6)=true∧0-Int.tdiv (0-a+6-1) 6=a/6∧True)∧(ltb a 0=false→inR IntKind.i64 (Int.tdiv a 6)=true∧Int.tdiv a 6=a/6∧True)):=by kernel_rfl

theorem ob_o109 (x y:Int):fnP (TM109) G 10000 fe109 (.r [] 0 (.r [] 21 (.r [] 51 (.rs 4 [] 0 30 (.r [] 6 (.cnd (.r [] 1 (.r [] 3 .nil)) (.r [] 0 (.cnd (.r [] 1 (.r [] 3 .nil)) (.r [] 0 (.cnd (.r [] 1 (.r [] 3 .nil)) (.r [] 1 (.r [] 3 .nil)))))))) (.r [] 3 (.lit (.r [] 0 (.cnd (.r [] 1 (.r [] 3 .nil)) (.r [] 0 (.cnd (.r [] 1 (.r [] 3 .nil)) (.r [] 1 (.r [] 3 .nil)))))))))))) ([.agg [.int .i64 x,.int .i64 y]]) ([.agg [.int .i64 (x/6),.int .i64 (y/6),.int .u8 (qAt (x-6*(x/6)) (y-6*(y/6)))]]) ([])=(
(iI 6=6∧ -1000000≤x∧x≤1000000)∧(iI 6=6∧ -1000000≤y∧y≤1000000)∧inR IntKind.i64 (6*(x/6))=true∧inR IntKind.i64 (x-6*(x/6))=true∧inR IntKind.i64 (6*(y/6))=
true∧inR IntKind.i64 (y-6*(y/6))=true∧(ltb (y-6*(y/6)) (x-6*(x/6))=true→inR IntKind.i64 (x-6*(x/6)+(y-6*(y/6)))=true∧(ltb (x-6*(x/6)+(y-6*(y/
6))) 6=true→x/6=x/6∧y/6=y/6∧0=qAt (x-6*(x/6)) (y-6*(y/6))∧True)∧(ltb (x-6*(x/6)+(y-6*(y/6))) 6=false→(ltb (y-6*(y/6)) (x-6*(x/6))=
true→x/6=x/6∧y/6=y/6∧1=qAt (x-6*(x/6)) (y-6*(y/6))∧True)∧(ltb (y-6*(y/6)) (x-6*(x/6))=false→inR IntKind.i64 (x-6*(x/6)+(y-6*(y/6)))=
true∧(ltb 6 (x-6*(x/6)+(y-6*(y/6)))=true→x/6=x/6∧y/6=y/6∧2=qAt (x-6*(x/6)) (y-6*(y/6))∧True)∧(ltb 6 (x-6*(x/6)+(y-6*(y/6)))=false
→x/6=x/6∧y/6=y/6∧3=qAt (x-6*(x/6)) (y-6*(y/6))∧True))))∧(ltb (y-6*(y/6)) (x-6*(x/6))=false→(ltb (y-6*(y/6)) (x-6*(x/6))=true→x/6=
x/6∧y/6=y/6∧1=qAt (x-6*(x/6)) (y-6*(y/6))∧True)∧(ltb (y-6*(y/6)) (x-6*(x/6))=false→inR IntKind.i64 (x-6*(x/6)+(y-6*(y/6)))=true∧(ltb 6
(x-6*(x/6)+(y-6*(y/6)))=true→x/6=x/6∧y/6=y/6∧2=qAt (x-6*(x/6)) (y-6*(y/6))∧True)∧(ltb 6 (x-6*(x/6)+(y-6*(y/6)))=false→x/6=x/
6∧y/6=y/6∧3=qAt (x-6*(x/6)) (y-6*(y/6))∧True)))):=by kernel_rfl

theorem ob_o56 (t a b x y q:Int):fnP (TM56) G 10000 fe56 (.r [] 0 (.r [] 35 .nil)) ([.agg [.int .u8 t,.int .i64 a,.int .i64 b],.agg [.int .i64 x,.int .i64 y,.int .u8 q]]) ([.agg [.int .i64 (mvX' t a x y),.int .i64 (mvY' t b x y),.int .u8 (mvQ t q)]]) ([])=(
s10k x y∧(mvO t a b∧s70k (6*x+inX q) (6*y+inY q))∧(-1000000≤mtX t (6*x+inX q) (6*y+inY q)+6*a∧mtX t (6*x+inX q) (6*y+inY q)+6*a≤1000000∧ -1000000≤mtY t
(6*x+inX q) (6*y+inY q)+6*b∧mtY t (6*x+inX q) (6*y+inY q)+6*b≤1000000)∧(mtX t (6*x+inX q) (6*y+inY q)+6*a)/6=mvX' t a x y∧(mtY t (6*x+inX q) (6*y
+inY q)+6*b)/6=mvY' t b x y∧qAt (mtX t (6*x+inX q) (6*y+inY q)+6*a-6*((mtX t (6*x+inX q) (6*y+inY q)+6*a)/6)) (mtY t (6*x+inX q) (6*y+inY q)+6*b-
6*((mtY t (6*x+inX q) (6*y+inY q)+6*b)/6))=mvQ t q∧True):=by kernel_rfl

end Go.Proofs.YtmnaghfndigfkaaDoor.X
