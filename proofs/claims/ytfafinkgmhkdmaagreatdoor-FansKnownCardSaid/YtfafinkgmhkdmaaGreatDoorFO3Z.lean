/-
 What is to be shown of the functions (made by a program).
-/
import Derived.Test.YtfafinkgmhkdmaaGreatDoorFGZ
set_option maxRecDepth 1000000
set_option linter.unusedVariables false
namespace Go.Proofs.YtfafinkgmhkdmaaGreatDoor.X
open Go Go.Ab
theorem C39 (x y:Int):fnP (T32) G 10000 C50 (.r [] 0 (.r [] 3 (.r [] 0 (.lit (.r [yL 324,yL 325,yL 326,yL 327,yL 329,yL 330,yL 331,yL 332,yL 333,yL 334,yL 335,yL 337,yL 338,yL 339,yL 340,yL 341,yL 342,yL 343,yL 345,yL 346,yL 347,yL 348,yL 349,yL 350,yL 351,yL 352] 4397509377917 (.ff (.r [] 0 .nil))))))) ([.agg [.int .i64 2,.int .i64 2],.agg [.int .i64 x,.int .i64 y]]) ([.int .i64 0]) ([])=(
(!leb x 0)=true/\(!leb y 0)=true/\(!leb 4 x)=true/\(!leb 4 y)=true/\(Int.tmod x 2 !=Int.tmod y 2)=false/\iI 0=0/\True):=by kernel_rfl
theorem C4a (l:List AV)(n:Nat):fnP (T0) G 10000 C54 (.r [] 0 (.r [] 5 .nil)) ([.imm (.vals l) n none]) ([.imm (.vals l) n (some n)]) ([])=(
Int.toNat (↑n:Int)=n/\Int.toNat (↑n:Int)=n/\Cont.size (Cont.vals l)=n*2/\Cont.vals l=Cont.vals l/\n=n/\n=n/\True):=by kernel_rfl
theorem C4b (l:List Int):fnP (T0) G 10000 B9E (.r [] 0 (.r [] 5 .nil)) ([.imm (.ints .i64 l) l.length none]) ([.imm (.ints .i64 l) l.length (some l.length)]) ([])=(
Int.toNat (↑(List.length l):Int)=List.length l/\Int.toNat (↑(List.length l):Int)=List.length l/\Cont.size (Cont.ints IntKind.i64 l)=List.length l/\Cont.ints IntKind.i64 l=Cont.ints
IntKind.i64 l/\List.length l=List.length l/\List.length l=List.length l/\True):=by kernel_rfl
theorem C4c (l:List Int):fnP (T0) G 10000 B9F (.r [] 0 (.r [] 5 .nil)) ([.imm (.ints .u8 l) l.length none]) ([.imm (.ints .u8 l) l.length (some l.length)]) ([])=(
Int.toNat (↑(List.length l):Int)=List.length l/\Int.toNat (↑(List.length l):Int)=List.length l/\Cont.size (Cont.ints IntKind.u8 l)=List.length l/\Cont.ints IntKind.u8 l=Cont.ints
IntKind.u8 l/\List.length l=List.length l/\List.length l=List.length l/\True):=by kernel_rfl
theorem C4d (l:List P.Cr)(x y:Int):fnP (T8z l x y) G 10000 fe8 (.r [] 0 (.r [] 1 (.r [] 0 (.ff (.r [] 3 (.r [] 0 (.lit (.r [] 0 (.r [] 7 (.ghc 512 0 9001 2 (Cont.vals []) (.rf 9002 0 (.r [(897,.auto,Dr.heap)] 1 (.r [] 1 .nil))))))))))))) ([C6w l,.agg [.int .i64 x,.int .i64 y]]) ([.imm (.vals (flR (raysL l x y))) (raysL l x y).length (some (raysL l x y).length),.int .i64 0]) ([])=(
((P.flatC l=P.flatC (P.unC (P.flatC l))/\List.length l=List.length (P.unC (P.flatC l))/\List.length (P.unC (P.flatC l))<1000000000)/\∀(x:P.Cr),x∈P.unC (P.flatC l)->0<=x.snd.fst/\
x.snd.fst<=255)/\(P.chkI 2 2 (P.unC (P.flatC l)) !=0)=false/\ptZ x y/\([(37057,HO.blk (Blk.mk (Cont.cells [AV.int IntKind.i64 2,AV.int IntKind.i64 2]) 2 1 none (some false) true true)),
(37056,HO.blk (Blk.mk (Cont.cells [AV.int IntKind.i64 x,AV.int IntKind.i64 y]) 2 1 none (some false) true true)),(9001,HO.blk (Blk.mk (Cont.vals []) 2 0 (some 0) (some true) true false)),(512,
HO.blk (Blk.mk (Cont.cells [AV.full 9001 0]) 1 1 none (some false) true true)),(64,HO.blk (Blk.mk (Cont.cells [AV.int IntKind.i64 2,AV.int IntKind.i64 2,AV.imm (Cont.vals (P.flatC l)) (List.length
l) none]) 3 1 none (some false) true true)),(9002,HO.loop (LoopS.mk 0 none [(2,AV.ptr 64 0),(8,AV.ptr 512 0),(28,AV.fn 55 [] [AV.ptr 37056 0,AV.ptr 37057 0])] 55 [29,30] as8 bd8))]=[(37057,HO.blk (Blk.mk (Cont.cells [AV.int IntKind.i64 2,AV.int IntKind.i64 2]) 2 1 none (some false) true true)),
(37056,HO.blk (Blk.mk (Cont.cells [AV.int IntKind.i64 x,AV.int IntKind.i64 y]) 2 1 none (some false) true true)),(9001,HO.blk (Blk.mk (Cont.vals []) 2 0 (some 0) (some true) true false)),(512,
HO.blk (Blk.mk (Cont.cells [AV.full 9001 0]) 1 1 none (some false) true true)),(64,HO.blk (Blk.mk (Cont.cells [AV.int IntKind.i64 2,AV.int IntKind.i64 2,AV.imm (Cont.vals (P.flatC l)) (List.length
l) none]) 3 1 none (some false) true true)),(9002,HO.loop (LoopS.mk 0 none [(2,AV.ptr 64 0),(8,AV.ptr 512 0),(28,AV.fn 55 [] [AV.ptr 37056 0,AV.ptr 37057 0])] 55 [29,30] as8 bd8))]/\(∃(ks:List Int),(List.length ks=20/\∀(k:Int),k∈ks->0<=k/\k<=3)/\l=P.wthL [1,2,3,5,6,7,13,14,17,
18,19,25,26,27,29,31,37,38,41,43] ks)/\ptZ x y)/\([(9001,HO.blk (Blk.mk (Cont.vals (flR (A0Z l x y))) 2 (List.length (A0Z l x y)) none (some true) true false))]=[(9001,HO.blk
(Blk.mk (Cont.vals (flR (A0Z l x y))) 2 (List.length (A0Z l x y)) none (some true) true false))]/\List.length (A0Z l x y)=List.length (A0Z l x y)/\∀(z:Ry),z∈A0Z l x y->B1z z)/\
List.length (A0Z l x y)=List.length (A0Z l x y)/\List.length (flR (raysL l x y))=2*List.length (A0Z l x y)/\Cont.vals (flR (raysL l x y))=Cont.vals (flR (raysL l x y))/\List.length
(A0Z l x y)=List.length (raysL l x y)/\List.length (A0Z l x y)=List.length (raysL l x y)/\iI 0=0/\True):=by kernel_rfl
theorem C4e (l:List P.Cr)(R:List Ry)(x y:Int):fnP (T9z l R x y) G 10000 fe9 (.r [] 0 (.r [] 27 (.r [yL 195,yL 196,yL 197,yL 198] 31 (.cnd (.r [] 1 .nil) (.r [] 0 (.ghc 66 0 9001 1 (Cont.ints IntKind.i64 []) (.ghc 66 1 9002 1 (Cont.ints IntKind.u8 []) (.lp (l9z R) [] [] (fun b=>(.r [] 0 (.cnd (.r [(450,.auto,Dr.val [AV.int IntKind.i64 (dR R b.i),AV.int IntKind.u8 (kR R b.i)])] 32 (.r [(520,.auto,Dr.val [AV.int IntKind.i64 (dR R (Int.tmod (b.i+1) (↑(List.length R):Int)))])] 0 (.jn (jI 10 IntKind.i64 (nxR R b.i)) [8] [] (.r [] 0 (.cnd (.r [] 0 .nil) .nil)) (fun b_1=>(.r [] 7395 (.r [] 0 .nil)))))) (.r [(842,.auto,Dr.val [AV.int IntKind.i64 (dR R 0)])] 1097 .nil)))))))))))) ([C6w l,.agg [.int .i64 x,.int .i64 y]]) ([A89 (angR R R.length) (kndR R),.int .i64 (dR R 0),.int .i64 0]) ([])=(
(P.flatC l=P.flatC l/\List.length l=List.length l/\x=x/\y=y)/\(((↑(List.length R):Int)==0)=true->Cont.size (Cont.ints IntKind.i64 (angR R (List.length R)))=0/\List.length (angR R
(List.length R))=0/\List.length (angR R (List.length R))=0/\Cont.size (Cont.ints IntKind.u8 (kndR R))=0/\List.length (kndR R)=0/\List.length (kndR R)=0/\0=dR R 0/\iI 0=0/\True)/\
(((↑(List.length R):Int)==0)=false->1=1/\iI 2=2/\iI 2=2/\Cont.vals (P.flatC l)=Cont.vals (P.flatC l)/\List.length l=List.length l/\1=1/\x=x/\y=y/\1=1/\0=0/\0=0/\
0=0/\iL []=[]/\0=0/\iL []=[]/\0=0/\Cont.vals (flR R)=Cont.vals (flR R)/\List.length R=List.length R/\List.length R=List.length R/\Cont.vals (flR R)=Cont.vals (flR R)/\
List.length R=List.length R/\List.length R=List.length R/\(↑(List.length R):Int)=(↑(List.length R):Int)/\iI 0=0/\(∃(n:Nat),0=(↑n:Int)/\n<=List.length R/\[]=angR R n/\[]=
List.take n (kndR R))/\∀(b:L9z),(∃(n:Nat),b.i=(↑n:Int)/\n<=List.length R/\b.a=angR R n/\b.k=List.take n (kndR R))->(ltb b.i (↑(List.length R):Int)=true->leb 0 b.i=true/\
ltb b.i (↑(List.length R):Int)=true/\ltn 0 (Cont.size (Cont.vals (flR R)))=true/\(List.drop (Int.toNat b.i*2) (flR R))[0]? =some (AV.int IntKind.i64 (dR R b.i))/\(List.drop (Int.toNat b.i
*2) (flR R))[1]? =some (AV.int IntKind.u8 (kR R b.i))/\inR IntKind.i64 (b.i+1)=true/\(!(↑(List.length R):Int)==0)=true/\leb 0 (Int.tmod (b.i+1) (↑(List.length R):Int))=true/\ltb
(Int.tmod (b.i+1) (↑(List.length R):Int)) (↑(List.length R):Int)=true/\ltn 0 (Cont.size (Cont.vals (flR R)))=true/\(List.drop 0 (List.drop (Int.toNat (Int.tmod (b.i+1) (↑(List.length R)
:Int))*2) (flR R)))[0]? =some (AV.int IntKind.i64 (dR R (Int.tmod (b.i+1) (↑(List.length R):Int))))/\(inR IntKind.i64 (b.i+1)=true/\((b.i+1==(↑(List.length R):Int))=true->inR
IntKind.i64 (dR R (Int.tmod (b.i+1) (↑(List.length R):Int))+8)=true/\1=1/\iI 2=2/\iI 2=2/\Cont.vals (P.flatC l)=Cont.vals (P.flatC l)/\List.length l=List.length l/\1=1/\x=
x/\y=y/\1=1/\List.length b.a=List.length b.a/\List.length b.k=List.length b.k/\List.length b.a=List.length b.a/\b.a=b.a/\List.length b.k=List.length b.k/\b.k=b.k/\1=1/\dR R
b.i=dR R b.i/\kR R b.i=kR R b.i/\0=0/\Cont.vals (flR R)=Cont.vals (flR R)/\List.length R=List.length R/\List.length R=List.length R/\Cont.vals (flR R)=Cont.vals (flR R)/\
List.length R=List.length R/\List.length R=List.length R/\(↑(List.length R):Int)=(↑(List.length R):Int)/\b.i=b.i/\0=0/\dR R (Int.tmod (b.i+1) (↑(List.length R):Int))+8=dR R
(Int.tmod (b.i+1) (↑(List.length R):Int))+8/\dR R (Int.tmod (b.i+1) (↑(List.length R):Int))+8=nxR R b.i/\True)/\((b.i+1==(↑(List.length R):Int))=false->1=1/\iI 2=2/\iI
2=2/\Cont.vals (P.flatC l)=Cont.vals (P.flatC l)/\List.length l=List.length l/\1=1/\x=x/\y=y/\1=1/\List.length b.a=List.length b.a/\List.length b.k=List.length b.k/\
List.length b.a=List.length b.a/\b.a=b.a/\List.length b.k=List.length b.k/\b.k=b.k/\1=1/\dR R b.i=dR R b.i/\kR R b.i=kR R b.i/\0=0/\Cont.vals (flR R)=Cont.vals (flR R)/\
List.length R=List.length R/\List.length R=List.length R/\Cont.vals (flR R)=Cont.vals (flR R)/\List.length R=List.length R/\List.length R=List.length R/\(↑(List.length R):Int)=
(↑(List.length R):Int)/\b.i=b.i/\0=0/\dR R (Int.tmod (b.i+1) (↑(List.length R):Int))=dR R (Int.tmod (b.i+1) (↑(List.length R):Int))/\dR R (Int.tmod (b.i+1) (↑(List.length R):
Int))=nxR R b.i/\True))/\∀(b_1:VI),b_1.v=nxR R b.i->inR IntKind.i64 (b_1.v-dR R b.i)=true/\List.length b.a=List.length b.a/\A0X ((List.length b.a+1)*8) 140737488355328=true/\
List.length b.k=List.length b.k/\A0X ((List.length b.k+1)*1) 140737488355328=true/\inR IntKind.i64 (b.i+1)=true/\1=1/\iI 2=2/\iI 2=2/\Cont.vals (P.flatC l)=Cont.vals
(P.flatC l)/\List.length l=List.length l/\1=1/\x=x/\y=y/\1=1/\List.length b.a+1=List.length (b.a++[b_1.v-dR R b.i])/\List.length b.k+1=List.length (b.k++[kR R b.i])/\
List.length b.a+1=List.length (b.a++[b_1.v-dR R b.i])/\b.a++[b_1.v-dR R b.i]=b.a++[b_1.v-dR R b.i]/\List.length b.k+1=List.length (b.k++[kR R b.i])/\b.k++[kR R b.i]=b.k
++[kR R b.i]/\0=0/\Cont.vals (flR R)=Cont.vals (flR R)/\List.length R=List.length R/\List.length R=List.length R/\Cont.vals (flR R)=Cont.vals (flR R)/\List.length R=List.length R/\
List.length R=List.length R/\(↑(List.length R):Int)=(↑(List.length R):Int)/\b.i+1=b.i+1/\(∃(n:Nat),b.i+1=(↑n:Int)/\n<=List.length R/\b.a++[b_1.v-dR R b.i]=angR R n
/\b.k++[kR R b.i]=List.take n (kndR R))/\List.length R-Int.toNat (b.i+1)<List.length R-Int.toNat b.i/\True)/\(ltb b.i (↑(List.length R):Int)=false->List.length b.a=List.length
b.a/\List.length b.a=List.length b.a/\List.length b.k=List.length b.k/\List.length b.k=List.length b.k/\ltb 0 (↑(List.length R):Int)=true/\ltn 0 (Cont.size (Cont.vals (flR R)))=true/\
(List.drop 0 (List.drop 0 (flR R)))[0]? =some (AV.int IntKind.i64 (dR R 0))/\Cont.ints IntKind.i64 b.a=Cont.ints IntKind.i64 (angR R (List.length R))/\List.length b.a=List.length (angR R
(List.length R))/\List.length b.a=List.length (angR R (List.length R))/\Cont.ints IntKind.u8 b.k=Cont.ints IntKind.u8 (kndR R)/\List.length b.k=List.length (kndR R)/\List.length b.k=
List.length (kndR R)/\dR R 0=dR R 0/\iI 0=0/\True))):=by kernel_rfl
end Go.Proofs.YtfafinkgmhkdmaaGreatDoor.X
