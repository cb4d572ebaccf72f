/-
 What is to be shown of the functions (made by a program).
-/
import Derived.Test.YtmnaghfndigfkaaDoorDDZ
import Derived.KernelRfl
set_option maxRecDepth 1000000
set_option linter.unusedVariables false
namespace Go.Proofs.YtmnaghfndigfkaaDoor.X
open Go Go.Ab

theorem ob_o86 (x y q:Int):fnP (T0) G 10000 fe86 (.r [] 0 (.rs 4 [] 1 6 (.r [] 255 (.lit (.r [] 0 .nil))) (.rs 5 [] 7 11 (.r [] 63 (.lit (.r [] 0 .nil))) (.rs 5 [] 7 16 (.r [] 15 (.lit (.r [] 0 .nil))) (.rs 5 [] 7 21 (.r [] 3 (.lit (.r [] 0 .nil))) (.r [] 7 (.cnd (.r [] 0 .nil) (.r [] 0 .nil)))))))) ([.agg [.int .i64 x,.int .i64 y,.int .u8 q]]) ([.int .i64 (bI (vldC (x,y,q)) 0 1)]) ([])=(
(ltb x (-4096)=true→1=bI (vldC (x,y,q)) 0 1∧True)∧(ltb x (-4096)=false→(ltb 4096 x=true→1=bI (vldC (x,y,q)) 0 1∧True)∧(ltb 4096 x=false→(ltb y (-4096)=true→1=bI
(vldC (x,y,q)) 0 1∧True)∧(ltb y (-4096)=false→(ltb 4096 y=true→1=bI (vldC (x,y,q)) 0 1∧True)∧(ltb 4096 y=false→(ltb 3 q=true→1=bI (vldC (x,y,q)) 0 1∧True)∧(ltb 3
q=false→0=bI (vldC (x,y,q)) 0 1∧True)))))):=by kernel_rfl

theorem ob_o202 (x:Int):fnP (T0) G 10000 fe202 (.r [] 0 (.r [] 0 .nil)) ([.int .i64 x]) ([.bool false]) ([])=(
(x !=x)=false∧True):=by kernel_rfl

theorem ob_o163 (x y:Int):fnP (TB1) G 10000 fe163 (.r [] 0 (.r [] 1 (.r [] 1 (.r [] 0 (.lit (.r [] 0 (.lit (.r [] 0 (.cnd (.r [] 0 .nil) (.r [] 0 (.cnd (.r [] 0 .nil) (.r [] 0 .nil)))))))))))) ([.int .i64 x,.int .i64 y]) ([.int .i64 (cmpI x y)]) ([])=(
(ltb x y=true→ -1=cmpI x y∧True)∧(ltb x y=false→(ltb y x=true→1=cmpI x y∧True)∧(ltb y x=false→0=cmpI x y∧True))):=by kernel_rfl

theorem ob_o127 (a b c d e f:Int):fnP (TB2) G 10000 fe127 (.r [] 0 (.r [] 0 (.lp (l127 a b c d e f) [] [] (fun b_1=>(.r [] 0 (.cnd (.r [(257,.auto,Dr.val [AV.int IntKind.i64 (p3 a c e b_1.i),AV.int IntKind.i64 (p3 b d f b_1.i)])] 36 (.r [] 127 (.r [] 0 (.cnd (.r [] 0 .nil) (.r [] 0 .nil))))) (.r [] 0 .nil))))))) ([.imm (.vals [.int .i64 a,.int .i64 b,.int .i64 c,.int .i64 d,.int .i64 e,.int .i64 f]) 3 none]) ([.int .i64 (ord3 a b c d e f)]) ([])=(
Cont.vals [AV.int IntKind.i64 a,AV.int IntKind.i64 b,AV.int IntKind.i64 c,AV.int IntKind.i64 d,AV.int IntKind.i64 e,AV.int IntKind.i64 f]=Cont.vals [AV.int IntKind.i64 a,AV.int IntKind.i64 b,
AV.int IntKind.i64 c,AV.int IntKind.i64 d,AV.int IntKind.i64 e,AV.int IntKind.i64 f]∧3=3∧iI 3=3∧iI 0=0∧((iI 0≤iI 0∧iI 0≤iI 3)∧(iI 1≤iI 0→cmpI a b=0)∧(iI 2≤iI 0→
cmpI c d=0)∧(iI 3≤iI 0→cmpI e f=0))∧∀(b_1:L1),(0≤b_1.i∧b_1.i≤3)∧(1≤b_1.i→cmpI a b=0)∧(2≤b_1.i→cmpI c d=0)∧(3≤b_1.i→cmpI e f=0)→(ltb b_1.i 3=true→leb
0 b_1.i=true∧ltb b_1.i 3=true∧(List.drop (Int.toNat b_1.i*2) [AV.int IntKind.i64 a,AV.int IntKind.i64 b,AV.int IntKind.i64 c,AV.int IntKind.i64 d,AV.int IntKind.i64 e,AV.int IntKind.i64
f])[0]? =some (AV.int IntKind.i64 (p3 a c e b_1.i))∧(List.drop (Int.toNat b_1.i*2) [AV.int IntKind.i64 a,AV.int IntKind.i64 b,AV.int IntKind.i64 c,AV.int IntKind.i64 d,AV.int IntKind.i64 e,
AV.int IntKind.i64 f])[1]? =some (AV.int IntKind.i64 (p3 b d f b_1.i))∧((cmpI (List.getD [p3 a c e b_1.i,p3 b d f b_1.i] 0 0) (List.getD [p3 a c e b_1.i,p3 b d f b_1.i] 1 0) !=0)=true→cmpI
(List.getD [p3 a c e b_1.i,p3 b d f b_1.i] 0 0) (List.getD [p3 a c e b_1.i,p3 b d f b_1.i] 1 0)=ord3 a b c d e f∧True)∧((cmpI (List.getD [p3 a c e b_1.i,p3 b d f b_1.i] 0 0) (List.getD [p3 a
c e b_1.i,p3 b d f b_1.i] 1 0) !=0)=false→inR IntKind.i64 (b_1.i+1)=true∧Cont.vals [AV.int IntKind.i64 a,AV.int IntKind.i64 b,AV.int IntKind.i64 c,AV.int IntKind.i64 d,AV.int
IntKind.i64 e,AV.int IntKind.i64 f]=Cont.vals [AV.int IntKind.i64 a,AV.int IntKind.i64 b,AV.int IntKind.i64 c,AV.int IntKind.i64 d,AV.int IntKind.i64 e,AV.int IntKind.i64 f]∧3=3∧iI 3=3
∧b_1.i+1=b_1.i+1∧((0≤b_1.i+1∧b_1.i+1≤3)∧(1≤b_1.i+1→cmpI a b=0)∧(2≤b_1.i+1→cmpI c d=0)∧(3≤b_1.i+1→cmpI e f=0))∧3-Int.toNat (b_1.i+1)<3-
Int.toNat b_1.i∧True))∧(ltb b_1.i 3=false→0=ord3 a b c d e f∧True)):=by kernel_rfl

theorem ob_o79 (x y q x' y' q':Int):fnP (TB3) G 10000 fe79 (.r [] 0 (.r [] 351 .nil)) ([.agg [.int .i64 x,.int .i64 y,.int .u8 q],.agg [.int .i64 x',.int .i64 y',.int .u8 q']]) ([.int .i64 (cmpC (x,y,q) (x',y',q'))]) ([])=(
inR IntKind.i64 q=true∧inR IntKind.i64 q'=true∧3=3∧ord3 y y' x x' q q'=cmpC (x,y,q) (x',y',q')∧True):=by kernel_rfl

end Go.Proofs.YtmnaghfndigfkaaDoor.X
