/-
 What is to be shown of the functions (made by a program).
-/
import Derived.Test.YtmnaghfndigfkaaDoorMGZ
import Derived.KernelRfl
set_option maxRecDepth 1000000
set_option linter.unusedVariables false
namespace Go.Proofs.YtmnaghfndigfkaaDoor.X
open Go Go.Ab

theorem ob_o13a (l:List Sk)(t a b:Int):fnP (TMa) G 10000 fe13 (.r [] 0 (.r [] 0 (.r [] 13 (.r [] 1 (.tt (.r [] 31 .nil)))))) ([.imm (.vals (flatR l)) l.length none,.agg [.int .u8 t,.int .i64 a,.int .i64 b]]) ([.bool true]) ([])=(
(flatR l=flatR (unT (flatR l))∧List.length l=List.length (unT (flatR l))∧rawT (unT (flatR l)))∧((0≤t∧t≤255)∧mvV t a b=false)∧(0≤t∧t≤255)∧(bI (mvV t a b) 0 1 !=0)=true
∧true=true∧True):=by kernel_rfl

theorem ob_o13b (l:List Sk)(t a b:Int):fnP (TMb) G 10000 fe13 (.r [] 0 (.r [] 0 (.r [] 13 (.r [] 1 (.ff (.r [] 0 (.r [] 0 (.gho 8 9001 4 (Cont.vals []) (.lp (l13M t a b (stO l)) [] [] (fun b_1=>(.r [] 0 (.cnd (.r [(645,.auto,Dr.val (clT (stO l) b_1.i))] 257 (.rs 4 [] 1 54 (.r [] 63 (.lit (.r [] 31 .nil))) (.rs 5 [] 7 59 (.r [] 15 (.lit (.r [] 31 .nil))) (.rs 5 [] 7 64 (.r [] 3 (.lit (.r [] 31 .nil))) (.r [] 7 (.cnd (.r [] 31 .nil) (.r [(838,.auto,Dr.val [layV (tKh (stO l) b_1.i)])] 129 (.r [] 0 .nil)))))))) (.frz 8 0 (.r [] 0 (.r [] 15 (.lit (.r [] 0 .nil))))))))))))))))) ([.imm (.vals (flatR l)) l.length none,.agg [.int .u8 t,.int .i64 a,.int .i64 b]]) ([.bool true]) ([])=(
(flatR l=flatR (unT (flatR l))∧List.length l=List.length (unT (flatR l))∧rawT (unT (flatR l)))∧(mvO t a b∧okTC (flatT (stO (unT (flatR l)))) (List.length (stO (unT (flatR l))))∧vldT (unT
(flatT (stO (unT (flatR l)))))∧List.length (stO (unT (flatR l)))≤20∧allM t a b (unT (flatT (stO (unT (flatR l)))))=false)∧(0≤t∧t≤255)∧(bI (mvV t a b) 0 1 !=0)=false∧1=1∧t=
t∧a=a∧b=b∧0=0∧([]:List AV)=[]∧0=0∧Cont.vals (flatT (stO (unT (flatR l))))=Cont.vals (flatT (stO (unT (flatR l))))∧List.length (stO (unT (flatR l)))=List.length (stO (unT
(flatR l)))∧iI 3=3∧0=0∧iI 0=0∧(∃(n:Nat),0=(↑n:Int)∧n≤List.length (stO l)∧allM t a b (List.take n (stO l))=true∧[]=flatT (mvS t a b (List.take n (stO l)))∧0=n)∧∀
(b_1:L13M),(∃(n:Nat),b_1.i=(↑n:Int)∧n≤List.length (stO l)∧allM t a b (List.take n (stO l))=true∧b_1.o=flatT (mvS t a b (List.take n (stO l)))∧b_1.n=n)→(ltb b_1.i
(↑(List.length (stO (unT (flatR l)))):Int)=true→leb 0 b_1.i=true∧ltb b_1.i (↑(List.length (stO (unT (flatR l)))):Int)=true∧ltn 0 (Cont.size (Cont.vals (flatT (stO (unT (flatR l))))))=
true∧(List.drop 0 (List.drop (Int.toNat b_1.i*4) (flatT (stO (unT (flatR l))))))[0]? =some (AV.int IntKind.i64 (tX (stO l) b_1.i))∧(List.drop 0 (List.drop (Int.toNat b_1.i*4) (flatT (stO (unT
(flatR l))))))[1]? =some (AV.int IntKind.i64 (tY (stO l) b_1.i))∧(List.drop 0 (List.drop (Int.toNat b_1.i*4) (flatT (stO (unT (flatR l))))))[2]? =some (AV.int IntKind.u8 (tQ (stO l) b_1.i))∧
(mvO t a b∧vq (tX (stO l) b_1.i) (tY (stO l) b_1.i) (tQ (stO l) b_1.i))∧(ltb (mvX' t a (tX (stO l) b_1.i) (tY (stO l) b_1.i)) (-4096)=true→true=true∧True)∧(ltb (mvX' t a (tX (stO l)
b_1.i) (tY (stO l) b_1.i)) (-4096)=false→(ltb 4096 (mvX' t a (tX (stO l) b_1.i) (tY (stO l) b_1.i))=true→true=true∧True)∧(ltb 4096 (mvX' t a (tX (stO l) b_1.i) (tY (stO l) b_1.i))=
false→(ltb (mvY' t b (tX (stO l) b_1.i) (tY (stO l) b_1.i)) (-4096)=true→true=true∧True)∧(ltb (mvY' t b (tX (stO l) b_1.i) (tY (stO l) b_1.i)) (-4096)=false→(ltb 4096 (mvY' t b (tX
(stO l) b_1.i) (tY (stO l) b_1.i))=true→true=true∧True)∧(ltb 4096 (mvY' t b (tX (stO l) b_1.i) (tY (stO l) b_1.i))=false→leb 0 b_1.i=true∧ltb b_1.i (↑(List.length (stO (unT (flatR
l)))):Int)=true∧ltn 0 (Cont.size (Cont.vals (flatT (stO (unT (flatR l))))))=true∧(List.drop 3 (List.drop (Int.toNat b_1.i*4) (flatT (stO (unT (flatR l))))))[0]? =some (AV.imm (Cont.ints
IntKind.i64 (tKh (stO l) b_1.i)) (List.length (tKh (stO l) b_1.i)) none)∧b_1.n=b_1.n∧len' ((b_1.n+1)*48) 140737488355328=true∧inR IntKind.i64 (b_1.i+1)=true∧1=1∧t=t∧a=a∧
b=b∧b_1.n+1=b_1.n+1∧b_1.o++[AV.int IntKind.i64 (mvX' t a (tX (stO l) b_1.i) (tY (stO l) b_1.i)),AV.int IntKind.i64 (mvY' t b (tX (stO l) b_1.i) (tY (stO l) b_1.i)),AV.int IntKind.u8
(mvQ t (tQ (stO l) b_1.i)),AV.imm (Cont.ints IntKind.i64 (tKh (stO l) b_1.i)) (List.length (tKh (stO l) b_1.i)) none]=b_1.o++[AV.int IntKind.i64 (mvX' t a (tX (stO l) b_1.i) (tY (stO l) b_1.i)),
AV.int IntKind.i64 (mvY' t b (tX (stO l) b_1.i) (tY (stO l) b_1.i)),AV.int IntKind.u8 (mvQ t (tQ (stO l) b_1.i)),AV.imm (Cont.ints IntKind.i64 (tKh (stO l) b_1.i)) (List.length (tKh (stO l) b_1.i))
none]∧0=0∧Cont.vals (flatT (stO (unT (flatR l))))=Cont.vals (flatT (stO (unT (flatR l))))∧List.length (stO (unT (flatR l)))=List.length (stO (unT (flatR l)))∧iI 3=3∧b_1.n+1=b_1.n
+1∧b_1.i+1=b_1.i+1∧(∃(n:Nat),b_1.i+1=(↑n:Int)∧n≤List.length (stO l)∧allM t a b (List.take n (stO l))=true∧b_1.o++[AV.int IntKind.i64 (mvX' t a (tX (stO l) b_1.i) (tY
(stO l) b_1.i)),AV.int IntKind.i64 (mvY' t b (tX (stO l) b_1.i) (tY (stO l) b_1.i)),AV.int IntKind.u8 (mvQ t (tQ (stO l) b_1.i)),AV.imm (Cont.ints IntKind.i64 (tKh (stO l) b_1.i)) (List.length (tKh
(stO l) b_1.i)) none]=flatT (mvS t a b (List.take n (stO l)))∧b_1.n+1=n)∧List.length (stO l)-Int.toNat (b_1.i+1)<List.length (stO l)-Int.toNat b_1.i∧True)))))∧(ltb b_1.i
(↑(List.length (stO (unT (flatR l)))):Int)=false→b_1.n=b_1.n∧okT b_1.o b_1.n∧false=true∧True)):=by kernel_rfl

theorem ob_o13c (l:List Sk)(t a b:Int):fnP (TMc) G 10000 fe13 (.r [] 0 (.r [] 0 (.r [] 13 (.r [] 1 (.ff (.r [] 0 (.r [] 0 (.gho 8 9001 4 (Cont.vals []) (.lp (l13M t a b (stO l)) [] [] (fun b_1=>(.r [] 0 (.cnd (.r [(645,.auto,Dr.val (clT (stO l) b_1.i))] 257 (.r [yL 708,yL 709,yL 710,yL 713,yL 714,yL 715,yL 718,yL 719,yL 720] 515965 (.ff (.r [(838,.auto,Dr.val [layV (tKh (stO l) b_1.i)])] 129 (.r [] 0 .nil))))) (.frz 8 0 (.r [] 0 (.r [yL 970,yL 971,yL 972,yL 973,yL 974] 507 (.ff (.r [] 0 (.lp (m13M 11 (stT (mvS t a b (stO l)))) [] [] (fun b_2=>(.r [] 0 (.cnd (.r [(1284,.auto,Dr.val (clT (stT (mvS t a b (stO l))) b_2.i)),(1289,.auto,Dr.val (clT (stT (mvS t a b (stO l))) b_2.i)),yO 1292,yO 1293,yO 1294,yO 1295,(1296,.on,Dr.val [layC (tKh (stT (mvS t a b (stO l))) b_2.i)]),yO 1297,yO 1298,yO 1299,yO 1300,(1301,.on,Dr.val [layV (tKh (stT (mvS t a b (stO l))) b_2.i)]),yO 1302,yO 1303] 8589934592 (.ff (.r [] 0 .nil))) (.r [] 29 (.r [] 13 (.r [] 0 (.r [yL 1607,yL 1608,yL 1609,yL 1610,yL 1611] 511 (.ff (.r [] 0 (.lp (m13M 16 (stT (stO l))) [] [] (fun b_3=>(.r [] 0 (.cnd (.r [(1924,.auto,Dr.val (clT (stT (stO l)) b_3.i)),(1929,.auto,Dr.val (clT (stT (stO l)) b_3.i)),yO 1932,yO 1933,yO 1934,yO 1935,(1936,.on,Dr.val [layC (tKh (stT (stO l)) b_3.i)]),yO 1937,yO 1938,yO 1939,yO 1940,(1941,.on,Dr.val [layV (tKh (stT (stO l)) b_3.i)]),yO 1942,yO 1943] 8589934592 (.ff (.r [] 0 .nil))) (.r [] 1 .nil)))))))))))))))))))))))))))))))) ([.imm (.vals (flatR l)) l.length none,.agg [.int .u8 t,.int .i64 a,.int .i64 b]]) ([.bool true]) ([])=(
(flatR l=flatR (unT (flatR l))∧List.length l=List.length (unT (flatR l))∧rawT (unT (flatR l)))∧(mvO t a b∧okTC (flatT (stO (unT (flatR l)))) (List.length (stO (unT (flatR l))))∧vldT (unT
(flatT (stO (unT (flatR l)))))∧List.length (stO (unT (flatR l)))≤20∧allM t a b (unT (flatT (stO (unT (flatR l)))))=true)∧(0≤t∧t≤255)∧(bI (mvV t a b) 0 1 !=0)=false∧1=1∧t=t
∧a=a∧b=b∧0=0∧([]:List AV)=[]∧0=0∧Cont.vals (flatT (stO (unT (flatR l))))=Cont.vals (flatT (stO (unT (flatR l))))∧List.length (stO (unT (flatR l)))=List.length (stO (unT
(flatR l)))∧Cont.vals (flatC (stT (mvS t a b (unT (flatT (stO (unT (flatR l))))))))=Cont.vals (flatC (stT (mvS t a b (unT (flatT (stO (unT (flatR l))))))))∧List.length (unT (flatT (stO (unT
(flatR l)))))=List.length (unT (flatT (stO (unT (flatR l)))))∧List.length (unT (flatT (stO (unT (flatR l)))))=List.length (unT (flatT (stO (unT (flatR l)))))∧iI 0=0∧0=0∧iI 0=0∧(∃
(n:Nat),0=(↑n:Int)∧n≤List.length (stO l)∧allM t a b (List.take n (stO l))=true∧[]=flatT (mvS t a b (List.take n (stO l)))∧0=n)∧∀(b_1:L13M),(∃(n:Nat),b_1.i=(↑n:Int)
∧n≤List.length (stO l)∧allM t a b (List.take n (stO l))=true∧b_1.o=flatT (mvS t a b (List.take n (stO l)))∧b_1.n=n)→(ltb b_1.i (↑(List.length (stO (unT (flatR l)))):Int)=true→
leb 0 b_1.i=true∧ltb b_1.i (↑(List.length (stO (unT (flatR l)))):Int)=true∧ltn 0 (Cont.size (Cont.vals (flatT (stO (unT (flatR l))))))=true∧(List.drop 0 (List.drop (Int.toNat b_1.i*4)
(flatT (stO (unT (flatR l))))))[0]? =some (AV.int IntKind.i64 (tX (stO l) b_1.i))∧(List.drop 0 (List.drop (Int.toNat b_1.i*4) (flatT (stO (unT (flatR l))))))[1]? =some (AV.int IntKind.i64 (tY
(stO l) b_1.i))∧(List.drop 0 (List.drop (Int.toNat b_1.i*4) (flatT (stO (unT (flatR l))))))[2]? =some (AV.int IntKind.u8 (tQ (stO l) b_1.i))∧(mvO t a b∧vq (tX (stO l) b_1.i) (tY (stO l)
b_1.i) (tQ (stO l) b_1.i))∧(!ltb (mvX' t a (tX (stO l) b_1.i) (tY (stO l) b_1.i)) (-4096))=true∧(!ltb 4096 (mvX' t a (tX (stO l) b_1.i) (tY (stO l) b_1.i)))=true∧(!ltb (mvY' t b (tX (stO l)
b_1.i) (tY (stO l) b_1.i)) (-4096))=true∧ltb 4096 (mvY' t b (tX (stO l) b_1.i) (tY (stO l) b_1.i))=false∧leb 0 b_1.i=true∧ltb b_1.i (↑(List.length (stO (unT (flatR l)))):Int)=true∧
ltn 0 (Cont.size (Cont.vals (flatT (stO (unT (flatR l))))))=true∧(List.drop 3 (List.drop (Int.toNat b_1.i*4) (flatT (stO (unT (flatR l))))))[0]? =some (AV.imm (Cont.ints IntKind.i64 (tKh (stO
l) b_1.i)) (List.length (tKh (stO l) b_1.i)) none)∧b_1.n=b_1.n∧len' ((b_1.n+1)*48) 140737488355328=true∧inR IntKind.i64 (b_1.i+1)=true∧1=1∧t=t∧a=a∧b=b∧b_1.n+1=
b_1.n+1∧b_1.o++[AV.int IntKind.i64 (mvX' t a (tX (stO l) b_1.i) (tY (stO l) b_1.i)),AV.int IntKind.i64 (mvY' t b (tX (stO l) b_1.i) (tY (stO l) b_1.i)),AV.int IntKind.u8 (mvQ t (tQ (stO l)
b_1.i)),AV.imm (Cont.ints IntKind.i64 (tKh (stO l) b_1.i)) (List.length (tKh (stO l) b_1.i)) none]=b_1.o++[AV.int IntKind.i64 (mvX' t a (tX (stO l) b_1.i) (tY (stO l) b_1.i)),AV.int IntKind.i64
(mvY' t b (tX (stO l) b_1.i) (tY (stO l) b_1.i)),AV.int IntKind.u8 (mvQ t (tQ (stO l) b_1.i)),AV.imm (Cont.ints IntKind.i64 (tKh (stO l) b_1.i)) (List.length (tKh (stO l) b_1.i)) none]∧0=0∧
Cont.vals (flatT (stO (unT (flatR l))))=Cont.vals (flatT (stO (unT (flatR l))))∧List.length (stO (unT (flatR l)))=List.length (stO (unT (flatR l)))∧Cont.vals (flatC (stT (mvS t a b (unT (flatT
(stO (unT (flatR l))))))))=Cont.vals (flatC (stT (mvS t a b (unT (flatT (stO (unT (flatR l))))))))∧List.length (unT (flatT (stO (unT (flatR l)))))=List.length (unT (flatT (stO (unT (flatR l)))))
∧List.length (unT (flatT (stO (unT (flatR l)))))=List.length (unT (flatT (stO (unT (flatR l)))))∧iI 0=0∧b_1.n+1=b_1.n+1∧b_1.i+1=b_1.i+1∧(∃(n:Nat),b_1.i+1=(↑n:Int)∧
n≤List.length (stO l)∧allM t a b (List.take n (stO l))=true∧b_1.o++[AV.int IntKind.i64 (mvX' t a (tX (stO l) b_1.i) (tY (stO l) b_1.i)),AV.int IntKind.i64 (mvY' t b (tX (stO l) b_1.i) (tY
(stO l) b_1.i)),AV.int IntKind.u8 (mvQ t (tQ (stO l) b_1.i)),AV.imm (Cont.ints IntKind.i64 (tKh (stO l) b_1.i)) (List.length (tKh (stO l) b_1.i)) none]=flatT (mvS t a b (List.take n (stO l)))∧
b_1.n+1=n)∧List.length (stO l)-Int.toNat (b_1.i+1)<List.length (stO l)-Int.toNat b_1.i∧True)∧(ltb b_1.i (↑(List.length (stO (unT (flatR l)))):Int)=false→b_1.n=b_1.n∧okT
b_1.o b_1.n∧(!(↑(List.length (unT (flatT (stO (unT (flatR l)))))):Int) !=(↑(List.length (stT (unT b_1.o))):Int))=true∧((↑(List.length (unT (flatT (stO (unT (flatR l)))))):Int) !=
(↑(List.length (unT (flatT (stO (unT (flatR l)))))):Int))=false∧1=1∧t=t∧a=a∧b=b∧b_1.n=b_1.n∧b_1.o=b_1.o∧0=0∧Cont.vals (flatT (stO (unT (flatR l))))=Cont.vals (flatT
(stO (unT (flatR l))))∧List.length (stO (unT (flatR l)))=List.length (stO (unT (flatR l)))∧Cont.vals (flatC (stT (mvS t a b (unT (flatT (stO (unT (flatR l))))))))=Cont.vals (flatC (stT (mvS t
a b (unT (flatT (stO (unT (flatR l))))))))∧List.length (unT (flatT (stO (unT (flatR l)))))=List.length (unT (flatT (stO (unT (flatR l)))))∧List.length (unT (flatT (stO (unT (flatR l)))))=
List.length (unT (flatT (stO (unT (flatR l)))))∧Cont.vals (flatT (stT (unT b_1.o)))=Cont.vals (flatT (stT (unT b_1.o)))∧List.length (stT (unT b_1.o))=List.length (stT (unT b_1.o))∧ltb b_1.i
(↑(List.length (stO (unT (flatR l)))):Int)=ltb b_1.i (↑(List.length (stO (unT (flatR l)))):Int)∧iI 0=0∧(∃(n:Nat),0=(↑n:Int)∧n≤List.length (stT (mvS t a b (stO l))))∧∀(b_2:
L1),(∃(n:Nat),b_2.i=(↑n:Int)∧n≤List.length (stT (mvS t a b (stO l))))→(ltb b_2.i (↑(List.length (unT (flatT (stO (unT (flatR l)))))):Int)=true→leb 0 b_2.i=true∧ltb b_2.i
(↑(List.length (unT (flatT (stO (unT (flatR l)))))):Int)=true∧ltn 0 (Cont.size (Cont.vals (flatC (stT (mvS t a b (unT (flatT (stO (unT (flatR l))))))))))=true∧(List.drop 0 (List.drop
(Int.toNat b_2.i*4) (flatC (stT (mvS t a b (unT (flatT (stO (unT (flatR l))))))))))[0]? =some (AV.int IntKind.i64 (tX (stT (mvS t a b (stO l))) b_2.i))∧(List.drop 0 (List.drop (Int.toNat b_2.i*
4) (flatC (stT (mvS t a b (unT (flatT (stO (unT (flatR l))))))))))[1]? =some (AV.int IntKind.i64 (tY (stT (mvS t a b (stO l))) b_2.i))∧(List.drop 0 (List.drop (Int.toNat b_2.i*4) (flatC (stT (mvS
t a b (unT (flatT (stO (unT (flatR l))))))))))[2]? =some (AV.int IntKind.u8 (tQ (stT (mvS t a b (stO l))) b_2.i))∧leb 0 b_2.i=true∧ltb b_2.i (↑(List.length (stT (unT b_1.o))):Int)=true∧
ltn 0 (Cont.size (Cont.vals (flatT (stT (unT b_1.o)))))=true∧(List.drop 0 (List.drop (Int.toNat b_2.i*4) (flatT (stT (unT b_1.o)))))[0]? =some (AV.int IntKind.i64 (tX (stT (mvS t a b (stO l)))
b_2.i))∧(List.drop 0 (List.drop (Int.toNat b_2.i*4) (flatT (stT (unT b_1.o)))))[1]? =some (AV.int IntKind.i64 (tY (stT (mvS t a b (stO l))) b_2.i))∧(List.drop 0 (List.drop (Int.toNat b_2.i*4)
(flatT (stT (unT b_1.o)))))[2]? =some (AV.int IntKind.u8 (tQ (stT (mvS t a b (stO l))) b_2.i))∧(!!(tX (stT (mvS t a b (stO l))) b_2.i==tX (stT (mvS t a b (stO l))) b_2.i&&(tY (stT (mvS t a b
(stO l))) b_2.i==tY (stT (mvS t a b (stO l))) b_2.i&&tQ (stT (mvS t a b (stO l))) b_2.i==tQ (stT (mvS t a b (stO l))) b_2.i)))=true∧(!!(tX (stT (mvS t a b (stO l))) b_2.i==tX (stT (mvS t a
b (stO l))) b_2.i&&(tY (stT (mvS t a b (stO l))) b_2.i==tY (stT (mvS t a b (stO l))) b_2.i&&tQ (stT (mvS t a b (stO l))) b_2.i==tQ (stT (mvS t a b (stO l))) b_2.i)))=true∧(!!(tX (stT (mvS
t a b (stO l))) b_2.i==tX (stT (mvS t a b (stO l))) b_2.i&&(tY (stT (mvS t a b (stO l))) b_2.i==tY (stT (mvS t a b (stO l))) b_2.i&&tQ (stT (mvS t a b (stO l))) b_2.i==tQ (stT (mvS t a b
(stO l))) b_2.i)))=true∧leb 0 b_2.i=true∧ltb b_2.i (↑(List.length (unT (flatT (stO (unT (flatR l)))))):Int)=true∧ltn 0 (Cont.size (Cont.vals (flatC (stT (mvS t a b (unT (flatT (stO (unT
(flatR l))))))))))=true∧(!!(tX (stT (mvS t a b (stO l))) b_2.i==tX (stT (mvS t a b (stO l))) b_2.i&&(tY (stT (mvS t a b (stO l))) b_2.i==tY (stT (mvS t a b (stO l))) b_2.i&&tQ (stT (mvS t
a b (stO l))) b_2.i==tQ (stT (mvS t a b (stO l))) b_2.i)))=true∧(!!(tX (stT (mvS t a b (stO l))) b_2.i==tX (stT (mvS t a b (stO l))) b_2.i&&(tY (stT (mvS t a b (stO l))) b_2.i==tY (stT
(mvS t a b (stO l))) b_2.i&&tQ (stT (mvS t a b (stO l))) b_2.i==tQ (stT (mvS t a b (stO l))) b_2.i)))=true∧(List.drop 3 (List.drop (Int.toNat b_2.i*4) (flatC (stT (mvS t a b (unT (flatT (stO
(unT (flatR l))))))))))[0]? =some (AV.imm (Cont.ints IntKind.i64 (tKh (stT (mvS t a b (stO l))) b_2.i)) (List.length (tKh (stT (mvS t a b (stO l))) b_2.i)) (some (List.length (tKh (stT (mvS t a b
(stO l))) b_2.i))))∧(!!(tX (stT (mvS t a b (stO l))) b_2.i==tX (stT (mvS t a b (stO l))) b_2.i&&(tY (stT (mvS t a b (stO l))) b_2.i==tY (stT (mvS t a b (stO l))) b_2.i&&tQ (stT (mvS t a b
(stO l))) b_2.i==tQ (stT (mvS t a b (stO l))) b_2.i)))=true∧(!!(tX (stT (mvS t a b (stO l))) b_2.i==tX (stT (mvS t a b (stO l))) b_2.i&&(tY (stT (mvS t a b (stO l))) b_2.i==tY (stT (mvS t
a b (stO l))) b_2.i&&tQ (stT (mvS t a b (stO l))) b_2.i==tQ (stT (mvS t a b (stO l))) b_2.i)))=true∧(!!(tX (stT (mvS t a b (stO l))) b_2.i==tX (stT (mvS t a b (stO l))) b_2.i&&(tY (stT
(mvS t a b (stO l))) b_2.i==tY (stT (mvS t a b (stO l))) b_2.i&&tQ (stT (mvS t a b (stO l))) b_2.i==tQ (stT (mvS t a b (stO l))) b_2.i)))=true∧leb 0 b_2.i=true∧ltb b_2.i (↑(List.length
(stT (unT b_1.o))):Int)=true∧ltn 0 (Cont.size (Cont.vals (flatT (stT (unT b_1.o)))))=true∧(!!(tX (stT (mvS t a b (stO l))) b_2.i==tX (stT (mvS t a b (stO l))) b_2.i&&(tY (stT (mvS t a b
(stO l))) b_2.i==tY (stT (mvS t a b (stO l))) b_2.i&&tQ (stT (mvS t a b (stO l))) b_2.i==tQ (stT (mvS t a b (stO l))) b_2.i)))=true∧(!!(tX (stT (mvS t a b (stO l))) b_2.i==tX (stT (mvS t a
b (stO l))) b_2.i&&(tY (stT (mvS t a b (stO l))) b_2.i==tY (stT (mvS t a b (stO l))) b_2.i&&tQ (stT (mvS t a b (stO l))) b_2.i==tQ (stT (mvS t a b (stO l))) b_2.i)))=true∧(List.drop 3
(List.drop (Int.toNat b_2.i*4) (flatT (stT (unT b_1.o)))))[0]? =some (AV.imm (Cont.ints IntKind.i64 (tKh (stT (mvS t a b (stO l))) b_2.i)) (List.length (tKh (stT (mvS t a b (stO l))) b_2.i)) none)
∧(!!(tX (stT (mvS t a b (stO l))) b_2.i==tX (stT (mvS t a b (stO l))) b_2.i&&(tY (stT (mvS t a b (stO l))) b_2.i==tY (stT (mvS t a b (stO l))) b_2.i&&tQ (stT (mvS t a b (stO l))) b_2.i==tQ
(stT (mvS t a b (stO l))) b_2.i)))=true∧(List.length (tKh (stT (mvS t a b (stO l))) b_2.i)=List.length (tKh (stT (mvS t a b (stO l))) b_2.i)∧List.length (tKh (stT (mvS t a b (stO l))) b_2.i)=
List.length (tKh (stT (mvS t a b (stO l))) b_2.i)∧smK (tKh (stT (mvS t a b (stO l))) b_2.i)∧smK (tKh (stT (mvS t a b (stO l))) b_2.i))∧(!!(tX (stT (mvS t a b (stO l))) b_2.i==tX (stT (mvS t a
b (stO l))) b_2.i&&(tY (stT (mvS t a b (stO l))) b_2.i==tY (stT (mvS t a b (stO l))) b_2.i&&tQ (stT (mvS t a b (stO l))) b_2.i==tQ (stT (mvS t a b (stO l))) b_2.i)))=true∧(bif !(tX (stT
(mvS t a b (stO l))) b_2.i==tX (stT (mvS t a b (stO l))) b_2.i&&(tY (stT (mvS t a b (stO l))) b_2.i==tY (stT (mvS t a b (stO l))) b_2.i&&tQ (stT (mvS t a b (stO l))) b_2.i==tQ (stT (mvS t a
b (stO l))) b_2.i))then true else true)=true∧(bif !(tX (stT (mvS t a b (stO l))) b_2.i==tX (stT (mvS t a b (stO l))) b_2.i&&(tY (stT (mvS t a b (stO l))) b_2.i==tY (stT (mvS t a b (stO l)))
b_2.i&&tQ (stT (mvS t a b (stO l))) b_2.i==tQ (stT (mvS t a b (stO l))) b_2.i))then true else bI (Nat.beq (List.length (tKh (stT (mvS t a b (stO l))) b_2.i)) (List.length (tKh (stT (mvS t a b
(stO l))) b_2.i))&&eqK (tKh (stT (mvS t a b (stO l))) b_2.i) (tKh (stT (mvS t a b (stO l))) b_2.i)) 1 0==0)=false∧inR IntKind.i64 (b_2.i+1)=true∧1=1∧t=t∧a=a∧b=b∧b_1.n=
b_1.n∧b_1.o=b_1.o∧0=0∧Cont.vals (flatT (stO (unT (flatR l))))=Cont.vals (flatT (stO (unT (flatR l))))∧List.length (stO (unT (flatR l)))=List.length (stO (unT (flatR l)))∧Cont.vals
(flatC (stT (mvS t a b (unT (flatT (stO (unT (flatR l))))))))=Cont.vals (flatC (stT (mvS t a b (unT (flatT (stO (unT (flatR l))))))))∧List.length (unT (flatT (stO (unT (flatR l)))))=List.length
(unT (flatT (stO (unT (flatR l)))))∧List.length (unT (flatT (stO (unT (flatR l)))))=List.length (unT (flatT (stO (unT (flatR l)))))∧Cont.vals (flatT (stT (unT b_1.o)))=Cont.vals (flatT (stT
(unT b_1.o)))∧List.length (stT (unT b_1.o))=List.length (stT (unT b_1.o))∧ltb b_1.i (↑(List.length (stO (unT (flatR l)))):Int)=ltb b_1.i (↑(List.length (stO (unT (flatR l)))):Int)∧b_2.i
+1=b_2.i+1∧(∃(n:Nat),b_2.i+1=(↑n:Int)∧n≤List.length (stT (mvS t a b (stO l))))∧List.length (stT (mvS t a b (stO l)))-Int.toNat (b_2.i+1)<List.length (stT (mvS t a b (stO
l)))-Int.toNat b_2.i∧True)∧(ltb b_2.i (↑(List.length (unT (flatT (stO (unT (flatR l)))))):Int)=false→mvO t a b∧(mvO (ivT t) (ivX t a b) (ivY t a b)∧okTC (flatC (stT (mvS t a b (unT
(flatT (stO (unT (flatR l)))))))) (List.length (unT (flatT (stO (unT (flatR l))))))∧vldT (unT (flatC (stT (mvS t a b (unT (flatT (stO (unT (flatR l)))))))))∧List.length (unT (flatT (stO (unT
(flatR l)))))≤20∧allM (ivT t) (ivX t a b) (ivY t a b) (unT (flatC (stT (mvS t a b (unT (flatT (stO (unT (flatR l)))))))))=true)∧okT (flatT (stO (unT (flatR l)))) (List.length (stO (unT (flatR
l))))∧((↑(List.length (unT (flatC (stT (mvS t a b (unT (flatT (stO (unT (flatR l)))))))))):Int) !=(↑(List.length (stT (unT (flatT (stO (unT (flatR l))))))):Int))=false∧1=1∧t=t∧a=a
∧b=b∧b_1.n=b_1.n∧b_1.o=b_1.o∧1=1∧ivT t=ivT t∧ivX t a b=ivX t a b∧ivY t a b=ivY t a b∧ltb b_1.i (↑(List.length (stO (unT (flatR l)))):Int)=ltb b_1.i (↑(List.length (stO
(unT (flatR l)))):Int)∧ltb b_2.i (↑(List.length (unT (flatT (stO (unT (flatR l)))))):Int)=ltb b_2.i (↑(List.length (unT (flatT (stO (unT (flatR l)))))):Int)∧Cont.vals (flatC (stT (mvS (ivT
t) (ivX t a b) (ivY t a b) (unT (flatC (stT (mvS t a b (unT (flatT (stO (unT (flatR l))))))))))))=Cont.vals (flatC (stT (mvS (ivT t) (ivX t a b) (ivY t a b) (unT (flatC (stT (mvS t a b (unT (flatT
(stO (unT (flatR l))))))))))))∧List.length (unT (flatC (stT (mvS t a b (unT (flatT (stO (unT (flatR l)))))))))=List.length (unT (flatC (stT (mvS t a b (unT (flatT (stO (unT (flatR l)))))))))∧
List.length (unT (flatC (stT (mvS t a b (unT (flatT (stO (unT (flatR l)))))))))=List.length (unT (flatC (stT (mvS t a b (unT (flatT (stO (unT (flatR l)))))))))∧Cont.vals (flatT (stT (unT (flatT
(stO (unT (flatR l)))))))=Cont.vals (flatT (stT (unT (flatT (stO (unT (flatR l)))))))∧List.length (stT (unT (flatT (stO (unT (flatR l))))))=List.length (stT (unT (flatT (stO (unT (flatR l))))))
∧iI 0=0∧(∃(n:Nat),0=(↑n:Int)∧n≤List.length (stT (stO l)))∧∀(b_3:L1),(∃(n:Nat),b_3.i=(↑n:Int)∧n≤List.length (stT (stO l)))→(ltb b_3.i (↑(List.length (unT (flatC
(stT (mvS t a b (unT (flatT (stO (unT (flatR l)))))))))):Int)=true→leb 0 b_3.i=true∧ltb b_3.i (↑(List.length (unT (flatC (stT (mvS t a b (unT (flatT (stO (unT (flatR l)))))))))):Int)=
true∧ltn 0 (Cont.size (Cont.vals (flatC (stT (mvS (ivT t) (ivX t a b) (ivY t a b) (unT (flatC (stT (mvS t a b (unT (flatT (stO (unT (flatR l))))))))))))))=true∧(List.drop 0 (List.drop (Int.toNat
b_3.i*4) (flatC (stT (mvS (ivT t) (ivX t a b) (ivY t a b) (unT (flatC (stT (mvS t a b (unT (flatT (stO (unT (flatR l))))))))))))))[0]? =some (AV.int IntKind.i64 (tX (stT (stO l)) b_3.i))∧
(List.drop 0 (List.drop (Int.toNat b_3.i*4) (flatC (stT (mvS (ivT t) (ivX t a b) (ivY t a b) (unT (flatC (stT (mvS t a b (unT (flatT (stO (unT (flatR l))))))))))))))[1]? =some (AV.int IntKind.i64
(tY (stT (stO l)) b_3.i))∧(List.drop 0 (List.drop (Int.toNat b_3.i*4) (flatC (stT (mvS (ivT t) (ivX t a b) (ivY t a b) (unT (flatC (stT (mvS t a b (unT (flatT (stO (unT (flatR l))))))))))))))[2]?
=some (AV.int IntKind.u8 (tQ (stT (stO l)) b_3.i))∧leb 0 b_3.i=true∧ltb b_3.i (↑(List.length (stT (unT (flatT (stO (unT (flatR l))))))):Int)=true∧ltn 0 (Cont.size (Cont.vals (flatT (stT
(unT (flatT (stO (unT (flatR l)))))))))=true∧(List.drop 0 (List.drop (Int.toNat b_3.i*4) (flatT (stT (unT (flatT (stO (unT (flatR l)))))))))[0]? =some (AV.int IntKind.i64 (tX (stT (stO l))
b_3.i))∧(List.drop 0 (List.drop (Int.toNat b_3.i*4) (flatT (stT (unT (flatT (stO (unT (flatR l)))))))))[1]? =some (AV.int IntKind.i64 (tY (stT (stO l)) b_3.i))∧(List.drop 0 (List.drop
(Int.toNat b_3.i*4) (flatT (stT (unT (flatT (stO (unT (flatR l)))))))))[2]? =some (AV.int IntKind.u8 (tQ (stT (stO l)) b_3.i))∧(!!(tX (stT (stO l)) b_3.i==tX (stT (stO l)) b_3.i&&(tY (stT
(stO l)) b_3.i==tY (stT (stO l)) b_3.i&&tQ (stT (stO l)) b_3.i==tQ (stT (stO l)) b_3.i)))=true∧(!!(tX (stT (stO l)) b_3.i==tX (stT (stO l)) b_3.i&&(tY (stT (stO l)) b_3.i==tY (stT (stO
l)) b_3.i&&tQ (stT (stO l)) b_3.i==tQ (stT (stO l)) b_3.i)))=true∧(!!(tX (stT (stO l)) b_3.i==tX (stT (stO l)) b_3.i&&(tY (stT (stO l)) b_3.i==tY (stT (stO l)) b_3.i&&tQ (stT (stO l))
b_3.i==tQ (stT (stO l)) b_3.i)))=true∧leb 0 b_3.i=true∧ltb b_3.i (↑(List.length (unT (flatC (stT (mvS t a b (unT (flatT (stO (unT (flatR l)))))))))):Int)=true∧ltn 0 (Cont.size
(Cont.vals (flatC (stT (mvS (ivT t) (ivX t a b) (ivY t a b) (unT (flatC (stT (mvS t a b (unT (flatT (stO (unT (flatR l))))))))))))))=true∧(!!(tX (stT (stO l)) b_3.i==tX (stT (stO l)) b_3.i&&
(tY (stT (stO l)) b_3.i==tY (stT (stO l)) b_3.i&&tQ (stT (stO l)) b_3.i==tQ (stT (stO l)) b_3.i)))=true∧(!!(tX (stT (stO l)) b_3.i==tX (stT (stO l)) b_3.i&&(tY (stT (stO l)) b_3.i==tY
(stT (stO l)) b_3.i&&tQ (stT (stO l)) b_3.i==tQ (stT (stO l)) b_3.i)))=true∧(List.drop 3 (List.drop (Int.toNat b_3.i*4) (flatC (stT (mvS (ivT t) (ivX t a b) (ivY t a b) (unT (flatC (stT (mvS
t a b (unT (flatT (stO (unT (flatR l))))))))))))))[0]? =some (AV.imm (Cont.ints IntKind.i64 (tKh (stT (stO l)) b_3.i)) (List.length (tKh (stT (stO l)) b_3.i)) (some (List.length (tKh (stT (stO l))
b_3.i))))∧(!!(tX (stT (stO l)) b_3.i==tX (stT (stO l)) b_3.i&&(tY (stT (stO l)) b_3.i==tY (stT (stO l)) b_3.i&&tQ (stT (stO l)) b_3.i==tQ (stT (stO l)) b_3.i)))=true∧(!!(tX (stT (stO
l)) b_3.i==tX (stT (stO l)) b_3.i&&(tY (stT (stO l)) b_3.i==tY (stT (stO l)) b_3.i&&tQ (stT (stO l)) b_3.i==tQ (stT (stO l)) b_3.i)))=true∧(!!(tX (stT (stO l)) b_3.i==tX (stT (stO l))
b_3.i&&(tY (stT (stO l)) b_3.i==tY (stT (stO l)) b_3.i&&tQ (stT (stO l)) b_3.i==tQ (stT (stO l)) b_3.i)))=true∧leb 0 b_3.i=true∧ltb b_3.i (↑(List.length (stT (unT (flatT (stO (unT
(flatR l))))))):Int)=true∧ltn 0 (Cont.size (Cont.vals (flatT (stT (unT (flatT (stO (unT (flatR l)))))))))=true∧(!!(tX (stT (stO l)) b_3.i==tX (stT (stO l)) b_3.i&&(tY (stT (stO l)) b_3.i
==tY (stT (stO l)) b_3.i&&tQ (stT (stO l)) b_3.i==tQ (stT (stO l)) b_3.i)))=true∧(!!(tX (stT (stO l)) b_3.i==tX (stT (stO l)) b_3.i&&(tY (stT (stO l)) b_3.i==tY (stT (stO l)) b_3.i&&
tQ (stT (stO l)) b_3.i==tQ (stT (stO l)) b_3.i)))=true∧(List.drop 3 (List.drop (Int.toNat b_3.i*4) (flatT (stT (unT (flatT (stO (unT (flatR l)))))))))[0]? =some (AV.imm (Cont.ints IntKind.i64
(tKh (stT (stO l)) b_3.i)) (List.length (tKh (stT (stO l)) b_3.i)) none)∧(!!(tX (stT (stO l)) b_3.i==tX (stT (stO l)) b_3.i&&(tY (stT (stO l)) b_3.i==tY (stT (stO l)) b_3.i&&tQ (stT (stO l))
b_3.i==tQ (stT (stO l)) b_3.i)))=true∧(List.length (tKh (stT (stO l)) b_3.i)=List.length (tKh (stT (stO l)) b_3.i)∧List.length (tKh (stT (stO l)) b_3.i)=List.length (tKh (stT (stO l))
b_3.i)∧smK (tKh (stT (stO l)) b_3.i)∧smK (tKh (stT (stO l)) b_3.i))∧(!!(tX (stT (stO l)) b_3.i==tX (stT (stO l)) b_3.i&&(tY (stT (stO l)) b_3.i==tY (stT (stO l)) b_3.i&&tQ (stT (stO l))
b_3.i==tQ (stT (stO l)) b_3.i)))=true∧(bif !(tX (stT (stO l)) b_3.i==tX (stT (stO l)) b_3.i&&(tY (stT (stO l)) b_3.i==tY (stT (stO l)) b_3.i&&tQ (stT (stO l)) b_3.i==tQ (stT (stO l))
b_3.i))then true else true)=true∧(bif !(tX (stT (stO l)) b_3.i==tX (stT (stO l)) b_3.i&&(tY (stT (stO l)) b_3.i==tY (stT (stO l)) b_3.i&&tQ (stT (stO l)) b_3.i==tQ (stT (stO l)) b_3.i))
then true else bI (Nat.beq (List.length (tKh (stT (stO l)) b_3.i)) (List.length (tKh (stT (stO l)) b_3.i))&&eqK (tKh (stT (stO l)) b_3.i) (tKh (stT (stO l)) b_3.i)) 1 0==0)=false∧inR
IntKind.i64 (b_3.i+1)=true∧1=1∧t=t∧a=a∧b=b∧b_1.n=b_1.n∧b_1.o=b_1.o∧1=1∧ivT t=ivT t∧ivX t a b=ivX t a b∧ivY t a b=ivY t a b∧ltb b_1.i (↑(List.length (stO
(unT (flatR l)))):Int)=ltb b_1.i (↑(List.length (stO (unT (flatR l)))):Int)∧ltb b_2.i (↑(List.length (unT (flatT (stO (unT (flatR l)))))):Int)=ltb b_2.i (↑(List.length (unT (flatT (stO
(unT (flatR l)))))):Int)∧Cont.vals (flatC (stT (mvS (ivT t) (ivX t a b) (ivY t a b) (unT (flatC (stT (mvS t a b (unT (flatT (stO (unT (flatR l))))))))))))=Cont.vals (flatC (stT (mvS (ivT t) (ivX
t a b) (ivY t a b) (unT (flatC (stT (mvS t a b (unT (flatT (stO (unT (flatR l))))))))))))∧List.length (unT (flatC (stT (mvS t a b (unT (flatT (stO (unT (flatR l)))))))))=List.length (unT (flatC
(stT (mvS t a b (unT (flatT (stO (unT (flatR l)))))))))∧List.length (unT (flatC (stT (mvS t a b (unT (flatT (stO (unT (flatR l)))))))))=List.length (unT (flatC (stT (mvS t a b (unT (flatT (stO
(unT (flatR l)))))))))∧Cont.vals (flatT (stT (unT (flatT (stO (unT (flatR l)))))))=Cont.vals (flatT (stT (unT (flatT (stO (unT (flatR l)))))))∧List.length (stT (unT (flatT (stO (unT (flatR
l))))))=List.length (stT (unT (flatT (stO (unT (flatR l))))))∧b_3.i+1=b_3.i+1∧(∃(n:Nat),b_3.i+1=(↑n:Int)∧n≤List.length (stT (stO l)))∧List.length (stT (stO l))-Int.toNat
(b_3.i+1)<List.length (stT (stO l))-Int.toNat b_3.i∧True)∧(ltb b_3.i (↑(List.length (unT (flatC (stT (mvS t a b (unT (flatT (stO (unT (flatR l)))))))))):Int)=false→true=true∧
True)))):=by kernel_rfl

end Go.Proofs.YtmnaghfndigfkaaDoor.X
