/-
 What is to be shown of the functions (made by a program).
-/
import Derived.Test.YthiammkiobbclaaD36Z
import Derived.KernelRfl
set_option maxRecDepth 1000000
set_option linter.unusedVariables false
namespace Go.Proofs.Ythiammkiobbclaa.X
open Go Go.Ab
open List IntKind

theorem ob_g42 (a k r o:List Int):fnP (TR42) G 10000 fe30 (.r [] 0 (.jn (j42 o) [] [] (.r [] 2 .nil) (fun b=>(.r [] 3 (.r [] 0 (.lp (l42 r o) [] [] (fun b_1=>(.r [] 0 (.cnd (.r [] 0 (.lp (m42 r o b_1.o b_1.t) [] [] (fun b_2=>(.r [] 0 (.cnd (.r [] 0 (.r [] 0 (.r [] 0 (.lp (n42 r o b_1.o b_2.i) [] [] (fun b_3=>(.r [] 0 (.cnd (.r [] 0 (.br (b_3.f) (.br (memB b_1.o b_3.k) (.r [yO 834,yO 835,yO 836,yO 837,(838,.off,Dr.plain),(839,.off,Dr.plain),(840,.off,Dr.plain),(841,.off,Dr.plain),(842,.off,Dr.plain),(843,.off,Dr.plain),(844,.off,Dr.plain),(845,.on,Dr.pk true),yO 846,(847,.off,Dr.plain),(848,.off,Dr.plain),(849,.off,Dr.plain),(850,.off,Dr.plain),(851,.off,Dr.plain),(852,.off,Dr.plain),(853,.off,Dr.plain),(854,.on,Dr.pk true),yO 855,(856,.off,Dr.plain),(857,.off,Dr.plain),(858,.off,Dr.plain),(859,.off,Dr.plain),(860,.off,Dr.plain),(861,.off,Dr.plain),(862,.off,Dr.plain),(863,.on,Dr.pk true),(864,.auto,Dr.pk true)] 26112259948544 (.r [] 0 .nil)) (.br (leb (gR (rkF o) b_2.i) (gR (rkF o) b_3.k)) (.r [yO 834,yO 835,yO 836,yO 837,yO 838,yO 839,yO 840,yO 841,yO 842,yO 843,yO 844,(845,.on,Dr.pk false),yO 846,(847,.off,Dr.plain),(848,.off,Dr.plain),(849,.off,Dr.plain),(850,.off,Dr.plain),(851,.off,Dr.plain),(852,.off,Dr.plain),(853,.off,Dr.plain),(854,.on,Dr.pk true),yO 855,(856,.off,Dr.plain),(857,.off,Dr.plain),(858,.off,Dr.plain),(859,.off,Dr.plain),(860,.off,Dr.plain),(861,.off,Dr.plain),(862,.off,Dr.plain),(863,.on,Dr.pk true),(864,.auto,Dr.pk true)] 1671163195424768 (.r [] 0 .nil)) (.br (leb (mxI (gR r b_2.i) (gR r (b_2.i+1))) (mnI (gR r b_3.k) (gR r (b_3.k+1)))) (.r [yO 834,yO 835,yO 836,yO 837,yO 838,yO 839,yO 840,yO 841,yO 842,yO 843,yO 844,(845,.on,Dr.pk false),yO 846,yO 847,yO 848,yO 849,yO 850,yO 851,yO 852,yO 853,(854,.on,Dr.pk false),yO 855,(856,.off,Dr.plain),(857,.off,Dr.plain),(858,.off,Dr.plain),(859,.off,Dr.plain),(860,.off,Dr.plain),(861,.off,Dr.plain),(862,.off,Dr.plain),(863,.on,Dr.pk true),(864,.auto,Dr.pk true)] 25333437323804672 (.r [] 0 .nil)) (.r [yO 834,yO 835,yO 836,yO 837,yO 838,yO 839,yO 840,yO 841,yO 842,yO 843,yO 844,(845,.on,Dr.pk false),yO 846,yO 847,yO 848,yO 849,yO 850,yO 851,yO 852,yO 853,(854,.on,Dr.pk false),yO 855,yO 856,yO 857,yO 858,yO 859,yO 860,yO 861,yO 862,(863,.on,Dr.pk false),(864,.auto,Dr.pk true)] 405469791418056704 (.r [] 0 .nil))))) (.r [(834,.off,Dr.plain),(835,.off,Dr.plain),(836,.off,Dr.plain),(837,.off,Dr.plain),(838,.off,Dr.plain),(839,.off,Dr.plain),(840,.off,Dr.plain),(841,.off,Dr.plain),(842,.off,Dr.plain),(843,.off,Dr.plain),(844,.off,Dr.plain),(845,.off,Dr.plain),(846,.off,Dr.plain),(847,.off,Dr.plain),(848,.off,Dr.plain),(849,.off,Dr.plain),(850,.off,Dr.plain),(851,.off,Dr.plain),(852,.off,Dr.plain),(853,.off,Dr.plain),(854,.off,Dr.plain),(855,.off,Dr.plain),(856,.off,Dr.plain),(857,.off,Dr.plain),(858,.off,Dr.plain),(859,.off,Dr.plain),(860,.off,Dr.plain),(861,.off,Dr.plain),(862,.off,Dr.plain),(863,.off,Dr.plain),(864,.auto,Dr.pk false)] 5902428144 (.r [] 0 .nil)))) (.r [] 0 (.cnd (.r [] 0 (.r [(1091,.auto,Dr.pk true)] 8 .nil)) (.r [] 0 .nil)))))))))) .nil))))) (.r [] 0 (.frz 4 0 .nil))))))))))) ([conV a k r,immN .i64 o]) ([immL .i64 (leastL r o)]) ([])=(
 ((length o=length o∧okO o)∧1=1∧qs i64 a (qs u8 k (qs i64 r (32=32∧[rkO o 0,rkO o 1,rkO o 2,rkO o 3,rkO o 4,rkO o 5,rkO o 6,rkO o 7,-1,-1,-1,-1,-1,-1,-1,-1,-1,
 -1,-1,-1,-1,-1,-1,-1,-1,-1,-1,-1,-1,-1,-1,-1]=rkG o∧qs i64 o (0=0∧0=0∧True∧True)))))∧∀(b:Unit),True→leb ((↑(length o):Int)*8) 140737488355328=true∧
 1=1∧qs i64 a (qs u8 k (qs i64 r (32=32∧rkG o=rkG o∧0=0∧Int.toNat (↑(length o):Int)=length o∧iL []=[]∧32=32∧[false,false,false,false,false,false,false,
 false,false,false,false,false,false,false,false,false,false,false,false,false,false,false,false,false,false,false,false,false,false,false,false,false]=[false,
 false,false,false,false,false,false,false,false,false,false,false,false,false,false,false,false,false,false,false,false,false,false,false,false,false,false,false,
 false,false,false,false]∧qs i64 o (0=0∧0=0∧0=0∧0=0∧(∃(m:Nat),m≤length o∧[]=lstN r (rkF o) (length o) m∧[false,false,false,false,false,false,false,
 false,false,false,false,false,false,false,false,false,false,false,false,false,false,false,false,false,false,false,false,false,false,false,false,false]=[false,
 false,false,false,false,false,false,false,false,false,false,false,false,false,false,false,false,false,false,false,false,false,false,false,false,false,false,false,
 false,false,false,false])∧∀(b_1:L42),(fun(zz4:Prop)=>zz4→qx (length b_1.o) ((ltb (↑(length b_1.o):Int) (↑(length o):Int)=true→1=1∧qs i64 a (qs u8 k (qs i64 r (32
 =32∧rkG o=rkG o∧qx (length b_1.o) (length o=length o∧b_1.o=b_1.o∧32=32∧b_1.t=b_1.t∧qs i64 o (0=0∧0=0∧qx (length b_1.o) (0=0∧ql o (iI 0=0∧(∃(m:Nat),
 0=(↑m:Int)∧m≤length o∧∀(j:Nat),j<m→frK r (rkF o) b_1.o (↑j:Int) (length o)=false)∧∀(b_2:L83),(fun(zz8:Nat)=>(fun(zz2:Int)=>(∃(m:Nat),b_2.i=(↑m:
 Int)∧m≤length o∧∀(j:Nat),j<m→frK r (rkF o) b_1.o (↑j:Int) (length o)=false)→(ltb b_2.i (↑(length o):Int)=true→leb 0 b_2.i=true∧ltb b_2.i 32=true∧ltn zz8
 (Cont.size (Cont.bools b_1.t))=true∧1=1∧qs i64 a (qs u8 k (qs i64 r (32=32∧rkG o=rkG o∧qx (length b_1.o) (length o=length o∧b_1.o=b_1.o∧32=32∧b_1.t=b_1.t∧qs
 i64 o (0=0∧0=0∧qx (length b_1.o) (0=0∧ql o (b_2.i=b_2.i∧b_2.i=b_2.i∧(!getD b_1.t zz8 false)= !getD b_1.t zz8 false∧ql o (iI 0=0∧(∃(m:Nat),0=(↑m:Int)∧m≤
 length o∧(!getD b_1.t zz8 false)=frK r (rkF o) b_1.o b_2.i m)∧∀(b_3:N60),(fun(zz7:Prop)=>(fun(zz6:Nat)=>(fun(zz9:Bool)=>(fun(zz5:Bool)=>(fun(zz3:Int)=>(fun
 (zz1:Bool)=>(fun(zz0:Bool)=>(∃(m:Nat),b_3.k=(↑m:Int)∧m≤length o∧b_3.f=frK r (rkF o) b_1.o b_2.i m)→(ltb b_3.k (↑(length o):Int)=true→(b_3.f=true→(memB
 b_1.o b_3.k=true→b_3.f=true∧b_3.f=true∧leb 0 b_3.k=true∧ltb b_3.k 32=true∧b_3.f=true∧ltn zz6 (Cont.size (Cont.bools b_1.t))=true∧b_3.f=true∧zz9=true∧zz9=
 true∧zz9=true∧zz9=true∧zz9=true∧zz9=true∧zz9=true∧b_3.f=true∧getD b_1.t zz6 false=true∧b_3.f=true∧b_3.f=true∧b_3.f=true∧b_3.f=true∧b_3.f=true
 ∧inR i64 (b_3.k+1)=true∧1=1∧qs i64 a (qs u8 k (qs i64 r (32=32∧rkG o=rkG o∧qx (length b_1.o) (length o=length o∧b_1.o=b_1.o∧32=32∧b_1.t=b_1.t∧qs i64 o (0=
 0∧0=0∧qx (length b_1.o) (0=0∧ql o (b_2.i=b_2.i∧b_2.i=b_2.i∧true=true∧ql o (qx (b_3.k+1) (zz7∧length o-Int.toNat (b_3.k+1)<length o-Int.toNat b_3.k∧
 True))))))))))∧(memB b_1.o b_3.k=false→(leb (gR (rkF o) b_2.i) (gR (rkF o) b_3.k)=true→b_3.f=true∧b_3.f=true∧leb 0 b_3.k=true∧ltb b_3.k 32=true∧b_3.f=true∧ltn
 zz6 (Cont.size (Cont.bools b_1.t))=true∧b_3.f=true∧zz1=true∧zz1=true∧leb 0 b_3.k=true∧ltb b_3.k 32=true∧zz1=true∧ltn zz6 (Cont.size (Cont.ints i64 (rkG o)))=
 true∧zz1=true∧zz1=true∧leb 0 b_2.i=true∧ltb b_2.i 32=true∧zz1=true∧ltn zz8 (Cont.size (Cont.ints i64 (rkG o)))=true∧zz1=true∧b_3.f=true∧zz1=true∧b_3.f=
 true∧zz5=true∧zz5=true∧zz5=true∧zz5=true∧zz5=true∧zz5=true∧zz5=true∧b_3.f=true∧leb (getD (rkG o) zz8 0) (getD (rkG o) zz6 0)=true∧b_3.f=true∧b_3.f=
 true∧b_3.f=true∧inR i64 (b_3.k+1)=true∧1=1∧qs i64 a (qs u8 k (qs i64 r (32=32∧rkG o=rkG o∧qx (length b_1.o) (length o=length o∧b_1.o=b_1.o∧32=32∧b_1.t=
 b_1.t∧qs i64 o (0=0∧0=0∧qx (length b_1.o) (0=0∧ql o (b_2.i=b_2.i∧b_2.i=b_2.i∧true=true∧ql o (qx (b_3.k+1) (zz7∧length o-Int.toNat (b_3.k+1)<length o-
 Int.toNat b_3.k∧True))))))))))∧(leb (gR (rkF o) b_2.i) (gR (rkF o) b_3.k)=false→(leb zz2 zz3=true→b_3.f=true∧b_3.f=true∧leb 0 b_3.k=true∧ltb b_3.k 32=true∧b_3.f=
 true∧ltn zz6 (Cont.size (Cont.bools b_1.t))=true∧b_3.f=true∧zz1=true∧zz1=true∧leb 0 b_3.k=true∧ltb b_3.k 32=true∧zz1=true∧ltn zz6 (Cont.size (Cont.ints i64 (rkG
 o)))=true∧zz1=true∧zz1=true∧leb 0 b_2.i=true∧ltb b_2.i 32=true∧zz1=true∧ltn zz8 (Cont.size (Cont.ints i64 (rkG o)))=true∧zz1=true∧b_3.f=true∧zz1=true∧
 b_3.f=true∧zz0=true∧zz0=true∧zz0=true∧(cok a k r (length a) (length k) (length r)∧0≤b_3.k∧b_3.k+1<(↑(length r):Int)∧length r≤9)∧zz0=true∧zz0=true∧
 zz0=true∧(cok a k r (length a) (length k) (length r)∧0≤b_2.i∧b_2.i+1<(↑(length r):Int)∧length r≤9)∧zz0=true∧b_3.f=true∧zz0=true∧b_3.f=true∧(!!leb zz2
 zz3)=true∧(!!leb zz2 zz3)=true∧(!!leb zz2 zz3)=true∧(!!leb zz2 zz3)=true∧(!!leb zz2 zz3)=true∧(!!leb zz2 zz3)=true∧(!!leb zz2 zz3)=true∧b_3.f=true∧leb zz2 zz3
 =true∧b_3.f=true∧inR i64 (b_3.k+1)=true∧1=1∧qs i64 a (qs u8 k (qs i64 r (32=32∧rkG o=rkG o∧qx (length b_1.o) (length o=length o∧b_1.o=b_1.o∧32=32∧b_1.t=
 b_1.t∧qs i64 o (0=0∧0=0∧qx (length b_1.o) (0=0∧ql o (b_2.i=b_2.i∧b_2.i=b_2.i∧true=true∧ql o (qx (b_3.k+1) (zz7∧length o-Int.toNat (b_3.k+1)<length o-
 Int.toNat b_3.k∧True))))))))))∧(leb zz2 zz3=false→b_3.f=true∧b_3.f=true∧leb 0 b_3.k=true∧ltb b_3.k 32=true∧b_3.f=true∧ltn zz6 (Cont.size (Cont.bools b_1.t))=
 true∧b_3.f=true∧zz1=true∧zz1=true∧leb 0 b_3.k=true∧ltb b_3.k 32=true∧zz1=true∧ltn zz6 (Cont.size (Cont.ints i64 (rkG o)))=true∧zz1=true∧zz1=true∧leb 0
 b_2.i=true∧ltb b_2.i 32=true∧zz1=true∧ltn zz8 (Cont.size (Cont.ints i64 (rkG o)))=true∧zz1=true∧b_3.f=true∧zz1=true∧b_3.f=true∧zz0=true∧zz0=true∧zz0=
 true∧(cok a k r (length a) (length k) (length r)∧0≤b_3.k∧b_3.k+1<(↑(length r):Int)∧length r≤9)∧zz0=true∧zz0=true∧zz0=true∧(cok a k r (length a) (length k)
 (length r)∧0≤b_2.i∧b_2.i+1<(↑(length r):Int)∧length r≤9)∧zz0=true∧b_3.f=true∧zz0=true∧b_3.f=true∧(!leb zz2 zz3)=true∧(!leb zz2 zz3)=true∧(!leb zz2
 zz3)=true∧(cok a k r (length a) (length k) (length r)∧0≤b_2.i∧b_2.i+1<(↑(length r):Int)∧length r≤9)∧(!leb zz2 zz3)=true∧(!leb zz2 zz3)=true∧(!leb zz2 zz3)=
 true∧(cok a k r (length a) (length k) (length r)∧0≤b_3.k∧b_3.k+1<(↑(length r):Int)∧length r≤9)∧(!leb zz2 zz3)=true∧b_3.f=true∧(!leb zz2 zz3)=true∧b_3.f=true
 ∧inR i64 (b_3.k+1)=true∧1=1∧qs i64 a (qs u8 k (qs i64 r (32=32∧rkG o=rkG o∧qx (length b_1.o) (length o=length o∧b_1.o=b_1.o∧32=32∧b_1.t=b_1.t∧qs i64 o (0=
 0∧0=0∧qx (length b_1.o) (0=0∧ql o (b_2.i=b_2.i∧b_2.i=b_2.i∧qx (leb (mxI (gR r b_3.k) (gR r (b_3.k+1))) (mnI (gR r b_2.i) (gR r (b_2.i+1)))) (ql o (qx (b_3.k+1) ((∃(m
 :Nat),b_3.k+1=(↑m:Int)∧m≤length o∧leb (mxI (gR r b_3.k) (gR r (b_3.k+1))) (mnI (gR r b_2.i) (gR r (b_2.i+1)))=frK r (rkF o) b_1.o b_2.i m)∧length o-Int.toNat (b_3.k+
 1)<length o-Int.toNat b_3.k∧True))))))))))))))∧(b_3.f=false→(!b_3.f)=true∧(!b_3.f)=true∧(!b_3.f)=true∧(!b_3.f)=true∧(!b_3.f)=true∧(!b_3.f)=true∧(!b_3.f)=
 true∧(!b_3.f)=true∧(!b_3.f)=true∧(!b_3.f)=true∧inR i64 (b_3.k+1)=true∧1=1∧qs i64 a (qs u8 k (qs i64 r (32=32∧rkG o=rkG o∧qx (length b_1.o) (length o=length
 o∧b_1.o=b_1.o∧32=32∧b_1.t=b_1.t∧qs i64 o (0=0∧0=0∧qx (length b_1.o) (0=0∧ql o (b_2.i=b_2.i∧b_2.i=b_2.i∧false=false∧ql o (qx (b_3.k+1) ((∃(m:Nat),
 b_3.k+1=(↑m:Int)∧m≤length o∧false=frK r (rkF o) b_1.o b_2.i m)∧length o-Int.toNat (b_3.k+1)<length o-Int.toNat b_3.k∧True)))))))))))∧(ltb b_3.k (↑(length o):
 Int)=false→(b_3.f=true→leb 0 b_2.i=true∧ltb b_2.i 32=true∧len' (Int.toNat b_2.i+1) (Cont.size (Cont.bools b_1.t))=true∧qx (length b_1.o) (len' ((length b_1.o+1)*8)
 140737488355328=true∧len' (length b_1.o+1) (length o)=true∧1=1∧qs i64 a (qs u8 k (qs i64 r (32=32∧rkG o=rkG o∧length b_1.o+1=length (b_1.o++[b_2.i])∧length o=
 length o∧b_1.o++[b_2.i]=b_1.o++[b_2.i]∧32=32∧qx (set b_1.t zz8 true) (qs i64 o (0=0∧0=0∧length b_1.o+1=length (b_1.o++[b_2.i])∧0=0∧(∃(m:Nat),m≤length
 o∧b_1.o++[b_2.i]=lstN r (rkF o) (length o) m∧set b_1.t zz8 true=[memB (b_1.o++[b_2.i]) 0,memB (b_1.o++[b_2.i]) 1,memB (b_1.o++[b_2.i]) 2,memB (b_1.o++[b_2.i]) 3,memB
 (b_1.o++[b_2.i]) 4,memB (b_1.o++[b_2.i]) 5,memB (b_1.o++[b_2.i]) 6,memB (b_1.o++[b_2.i]) 7,memB (b_1.o++[b_2.i]) 8,memB (b_1.o++[b_2.i]) 9,memB (b_1.o++[b_2.i]) 10,memB
 (b_1.o++[b_2.i]) 11,memB (b_1.o++[b_2.i]) 12,memB (b_1.o++[b_2.i]) 13,memB (b_1.o++[b_2.i]) 14,memB (b_1.o++[b_2.i]) 15,memB (b_1.o++[b_2.i]) 16,memB (b_1.o++[b_2.i]) 17,
 memB (b_1.o++[b_2.i]) 18,memB (b_1.o++[b_2.i]) 19,memB (b_1.o++[b_2.i]) 20,memB (b_1.o++[b_2.i]) 21,memB (b_1.o++[b_2.i]) 22,memB (b_1.o++[b_2.i]) 23,memB (b_1.o++
 [b_2.i]) 24,memB (b_1.o++[b_2.i]) 25,memB (b_1.o++[b_2.i]) 26,memB (b_1.o++[b_2.i]) 27,memB (b_1.o++[b_2.i]) 28,memB (b_1.o++[b_2.i]) 29,memB (b_1.o++[b_2.i]) 30,memB
 (b_1.o++[b_2.i]) 31])∧length o-length (b_1.o++[b_2.i])<length o-length b_1.o∧True)))))))∧(b_3.f=false→inR i64 (b_2.i+1)=true∧1=1∧qs i64 a (qs u8 k (qs i64 r (32
 =32∧rkG o=rkG o∧qx (length b_1.o) (length o=length o∧b_1.o=b_1.o∧32=32∧b_1.t=b_1.t∧qs i64 o (0=0∧0=0∧qx (length b_1.o) (0=0∧ql o (qx (b_2.i+1) ((∃(m:
 Nat),b_2.i+1=(↑m:Int)∧m≤length o∧∀(j:Nat),j<m→frK r (rkF o) b_1.o (↑j:Int) (length o)=false)∧length o-Int.toNat (b_2.i+1)<length o-Int.toNat b_2.i∧
 True))))))))))) (!leb (getD (rkG o) zz8 0) (getD (rkG o) zz6 0))) (!getD b_1.t zz6 false)) (mnI (gR r b_3.k) (gR r (b_3.k+1)))) (!!leb (getD (rkG o) zz8 0) (getD (rkG o) zz6 0))) (!!getD
 b_1.t zz6 false)) (Int.toNat b_3.k)) (∃(m:Nat),b_3.k+1=(↑m:Int)∧m≤length o∧true=frK r (rkF o) b_1.o b_2.i m))))))))))∧(ltb b_2.i (↑(length o):Int)=false→1=1∧qs
 i64 a (qs u8 k (qs i64 r (32=32∧rkG o=rkG o∧qx (length b_1.o) (length o=length o∧b_1.o=b_1.o∧32=32∧b_1.t=b_1.t∧qs i64 o (0=0∧0=0∧qx (length b_1.o) (0=0∧
 zz4∧length o-length b_1.o<length o-length b_1.o∧True)))))))) (mxI (gR r b_2.i) (gR r (b_2.i+1)))) (Int.toNat b_2.i)))))))))∧(ltb (↑(length b_1.o):Int) (↑(length o):Int)=
 false→qx (length b_1.o) (Cont.ints i64 b_1.o=Cont.ints i64 (leastL r o)∧length b_1.o=length (leastL r o)∧length o=length (leastL r o)∧True)))) (∃(m:Nat),m≤length o∧
 b_1.o=lstN r (rkF o) (length o) m∧b_1.t=[memB b_1.o 0,memB b_1.o 1,memB b_1.o 2,memB b_1.o 3,memB b_1.o 4,memB b_1.o 5,memB b_1.o 6,memB b_1.o 7,memB b_1.o 8,memB b_1.o 9,
 memB b_1.o 10,memB b_1.o 11,memB b_1.o 12,memB b_1.o 13,memB b_1.o 14,memB b_1.o 15,memB b_1.o 16,memB b_1.o 17,memB b_1.o 18,memB b_1.o 19,memB b_1.o 20,memB b_1.o 21,memB b_1.o
 22,memB b_1.o 23,memB b_1.o 24,memB b_1.o 25,memB b_1.o 26,memB b_1.o 27,memB b_1.o 28,memB b_1.o 29,memB b_1.o 30,memB b_1.o 31])))))):=by kernel_rfl

theorem ob_g42z (a k r:List Int):fnP (TR42z) G 10000 fe30 (.r [] 0 (.r [] 3 (.r [] 7 (.r [] 0 (.un (.r [] 1 (.lit (.r [] 0 (.frz 4 1 .nil))))))))) ([conV a k r,.nils]) ([immL .i64 []]) ([])=(
 Cont.ints i64 []=Cont.ints i64 []∧0=0∧0=0∧True):=by kernel_rfl

theorem ob_d_38 (a k r o:List Int)(L:List (List Int)):fnD (TGr a k r (o.length+1)) G 10000 (fe24) (.r [] 0 (.r [] 2 (.rs 4 [] 3 19 (.r [] 3 (.lit .nil)) (.r [] 27 (.cnd .nil (.r [] 1 (.cnd (.r [] 0 (.lp (lr38 a k r o L) [] [] (fun b=>(.r [] 0 (.cnd (.r [] 0 (.r [(518,.auto,Dr.heap),(519,.auto,Dr.heap)] 1 (.r [] 0 .nil))) .nil))))) (.r [] 1 (.r [] 0 (.r [] 6 (.r [] 1 (.cnd (.r [] 1 (.r [] 25 .nil)) .nil)))))))))))) ([immN .i64 o,.ptr 9130 0,.ptr 64 0,.ptr 320 0,.ptr 193 0,.ptr 256 0]) (hrG a k r L) ([]) (wrG (grwO a.length r (rotR k) L o))=(
 (fun(zz0:Bool)=>(length o=length o∧okO o)∧(cok a k r (length a) (length k) (length r)∧okR a k r)∧(crsB (length a) r (rkL o)=true→length L=length (grwO (length a) r (rotR
 k) L o)∧outV L=outV (grwO (length a) r (rotR k) L o)∧1=1∧length L=length (grwO (length a) r (rotR k) L o)∧0=0∧fpE L=fpE (grwO (length a) r (rotR k) L o)∧fpK L=fpK
 (grwO (length a) r (rotR k) L o)∧1=1∧1=1∧0=0∧0=0∧0=0∧0=0∧0=0∧1=1∧qs i64 a (qs u8 k (1=1∧qs i64 a (qs u8 k (qs i64 r (True))))))∧(crsB (length a) r
 (rkL o)=false→(cok a k r (length a) (length k) (length r)∧0<length a∧length a%2=0∧length a≤8∧length k=length a)∧(wrgB (rotR k) (rkL o)=true→length L=length
 (grwO (length a) r (rotR k) L o)∧outV L=outV (grwO (length a) r (rotR k) L o)∧1=1∧length L=length (grwO (length a) r (rotR k) L o)∧0=0∧fpE L=fpE (grwO (length a) r (rotR
 k) L o)∧fpK L=fpK (grwO (length a) r (rotR k) L o)∧1=1∧1=1∧0=0∧0=0∧0=0∧0=0∧0=0∧1=1∧qs i64 a (qs u8 k (1=1∧qs i64 a (qs u8 k (qs i64 r (True))))))∧
 (wrgB (rotR k) (rkL o)=false→(ltb (↑(length o):Int) (↑(length a):Int)=true→inR i64 ((↑(length o):Int)+1)=true∧length L=length (unO (outV L))∧outV L=outV (unO (outV
 L))∧1=1∧length L=length (unO (outV L))∧0=0∧fpE L=fpE (unO (outV L))∧fpK L=fpK (unO (outV L))∧1=1∧1=1∧0=0∧0=0∧0=0∧0=0∧0=0∧1=1∧qs i64 a
 (qs u8 k (1=1∧qs i64 a (qs u8 k (qs i64 r (32=32∧[rkO o 0,rkO o 1,rkO o 2,rkO o 3,rkO o 4,rkO o 5,rkO o 6,rkO o 7,-1,-1,-1,-1,-1,-1,-1,-1,-1,-1,-1,-1,-1,-1,-1,
 -1,-1,-1,-1,-1,-1,-1,-1,-1]=[rkO o 0,rkO o 1,rkO o 2,rkO o 3,rkO o 4,rkO o 5,rkO o 6,rkO o 7,-1,-1,-1,-1,-1,-1,-1,-1,-1,-1,-1,-1,-1,-1,-1,-1,-1,-1,-1,-1,
 -1,-1,-1,-1]∧qs i64 o (0=0∧ql o (qx ((↑(length o):Int)+1) (iI 0=0∧(∃(m:Nat),0=(↑m:Int)∧m≤length o+1∧unO (outV L)=grwM (length a) r (rotR k) L o m∧okL a
 (unO (outV L)))∧∀(b:L58),(∃(m:Nat),b.i=(↑m:Int)∧m≤length o+1∧b.L=grwM (length a) r (rotR k) L o m∧okL a b.L)→(ltb b.i ((↑(length o):Int)+1)=true→(length o
 =length o∧0<length o∧length o<100000000000)∧([(517,HO.blk (Blk.mk (Cont.ints i64 [(↑(length o):Int)]) 1 1 (some 1) (some false) true false)),(32896,HO.blk (Blk.mk (Cont.ints
 i64 o) 1 (length o) none (some false) true false))]=[(517,HO.blk (Blk.mk (Cont.ints i64 [(↑(length o):Int)]) 1 1 (some 1) (some false) true false)),(32896,HO.blk (Blk.mk (Cont.ints
 i64 o) 1 (length o) none (some false) true false))]∧length o=length o∧1=1∧0<length o∧length o<1000000∧0≤b.i∧b.i≤(↑(length o):Int))∧([(9700,HO.blk (Blk.mk
 (Cont.vals (outV b.L)) 1 (length b.L) none (some true) true false)),(256,HO.blk (Blk.mk (Cont.cells [AV.full 9700 (length b.L)]) 1 1 none (some false) true true)),(192,HO.blk (Blk.mk
 (Cont.maps (MV.mk true [some i64,some i64,some i64,some i64,some i64,some i64,some i64,some i64]) (MV.mk false [none]) (fpE b.L) (fpK b.L)) 1 0 none (some false) true true)),(193,
 HO.blk (Blk.mk (Cont.cells [AV.mp 192]) 1 1 none (some false) true true)),(320,HO.blk (Blk.mk (Cont.cells [AV.fn 24 [] [AV.ptr 9130 0,AV.ptr 64 0,AV.ptr 320 0,AV.ptr 193 0,AV.ptr 256
 0]]) 1 1 none (some false) true true)),(64,HO.blk (Blk.mk (Cont.cells [AV.imm (Cont.ints i64 a) (length a) none,AV.imm (Cont.ints u8 k) (length k) none]) 2 1 none (some false) true
 true)),(9130,HO.blk (Blk.mk (Cont.cells [AV.imm (Cont.ints i64 a) (length a) none,AV.imm (Cont.ints u8 k) (length k) none,AV.imm (Cont.ints i64 r) (length r) none]) 3 1 none (some false)
 true true))]=[(9700,HO.blk (Blk.mk (Cont.vals (outV (unO (outV b.L)))) 1 (length (unO (outV b.L))) none (some true) true false)),(256,HO.blk (Blk.mk (Cont.cells [AV.full 9700 (length
 (unO (outV b.L)))]) 1 1 none (some false) true true)),(192,HO.blk (Blk.mk (Cont.maps (MV.mk true [some i64,some i64,some i64,some i64,some i64,some i64,some i64,some i64]) (MV.mk
 false [none]) (fpE (unO (outV b.L))) (fpK (unO (outV b.L)))) 1 0 none (some false) true true)),(193,HO.blk (Blk.mk (Cont.cells [AV.mp 192]) 1 1 none (some false) true true)),(320,HO.blk
 (Blk.mk (Cont.cells [AV.fn 24 [] [AV.ptr 9130 0,AV.ptr 64 0,AV.ptr 320 0,AV.ptr 193 0,AV.ptr 256 0]]) 1 1 none (some false) true true)),(64,HO.blk (Blk.mk (Cont.cells [AV.imm
 (Cont.ints i64 a) (length a) none,AV.imm (Cont.ints u8 k) (length k) none]) 2 1 none (some false) true true)),(9130,HO.blk (Blk.mk (Cont.cells [AV.imm (Cont.ints i64 a) (length a) none,
 AV.imm (Cont.ints u8 k) (length k) none,AV.imm (Cont.ints i64 r) (length r) none]) 3 1 none (some false) true true))]∧qx (length (insA o (Int.toNat b.i) (↑(length o):Int))) (length
 (insA o (Int.toNat b.i) (↑(length o):Int))=length o+1∧length o+1≤length a∧0<length o+1∧okG (insA o (Int.toNat b.i) (↑(length o):Int))∧okL a (unO (outV b.L))))∧inR
 i64 (b.i+1)=true∧length (grwO (length a) r (rotR k) (unO (outV b.L)) (insA o (Int.toNat b.i) (↑(length o):Int)))=length (unO (outV (grwO (length a) r (rotR k) (unO (outV b.L))
 (insA o (Int.toNat b.i) (↑(length o):Int)))))∧outV (grwO (length a) r (rotR k) (unO (outV b.L)) (insA o (Int.toNat b.i) (↑(length o):Int)))=outV (unO (outV (grwO (length a) r (rotR
 k) (unO (outV b.L)) (insA o (Int.toNat b.i) (↑(length o):Int)))))∧1=1∧length (grwO (length a) r (rotR k) (unO (outV b.L)) (insA o (Int.toNat b.i) (↑(length o):Int)))=length (unO
 (outV (grwO (length a) r (rotR k) (unO (outV b.L)) (insA o (Int.toNat b.i) (↑(length o):Int)))))∧0=0∧fpE (grwO (length a) r (rotR k) (unO (outV b.L)) (insA o (Int.toNat b.i)
 (↑(length o):Int)))=fpE (unO (outV (grwO (length a) r (rotR k) (unO (outV b.L)) (insA o (Int.toNat b.i) (↑(length o):Int)))))∧fpK (grwO (length a) r (rotR k) (unO (outV b.L)) (insA o
 (Int.toNat b.i) (↑(length o):Int)))=fpK (unO (outV (grwO (length a) r (rotR k) (unO (outV b.L)) (insA o (Int.toNat b.i) (↑(length o):Int)))))∧1=1∧1=1∧0=0∧0=0∧0=0∧
 0=0∧0=0∧1=1∧qs i64 a (qs u8 k (1=1∧qs i64 a (qs u8 k (qs i64 r (32=32∧[rkO o 0,rkO o 1,rkO o 2,rkO o 3,rkO o 4,rkO o 5,rkO o 6,rkO o 7,-1,-1,-1,-1,-1,-1,-1,
 -1,-1,-1,-1,-1,-1,-1,-1,-1,-1,-1,-1,-1,-1,-1,-1,-1]=[rkO o 0,rkO o 1,rkO o 2,rkO o 3,rkO o 4,rkO o 5,rkO o 6,rkO o 7,-1,-1,-1,-1,-1,-1,-1,-1,-1,-1,-1,-1,
 -1,-1,-1,-1,-1,-1,-1,-1,-1,-1,-1,-1]∧qs i64 o (0=0∧ql o (qx ((↑(length o):Int)+1) (b.i+1=b.i+1∧(∃(m:Nat),b.i+1=(↑m:Int)∧m≤length o+1∧unO (outV
 (grwO (length a) r (rotR k) (unO (outV b.L)) (insA o (Int.toNat b.i) (↑(length o):Int))))=grwM (length a) r (rotR k) L o m∧okL a (unO (outV (grwO (length a) r (rotR k) (unO (outV b.L))
 (insA o (Int.toNat b.i) (↑(length o):Int))))))∧length o+1-Int.toNat (b.i+1)<length o+1-Int.toNat b.i∧True)))))))))∧(ltb b.i ((↑(length o):Int)+1)=false→length b.L
 =length (grwO (length a) r (rotR k) L o)∧outV b.L=outV (grwO (length a) r (rotR k) L o)∧1=1∧length b.L=length (grwO (length a) r (rotR k) L o)∧0=0∧fpE b.L=fpE (grwO
 (length a) r (rotR k) L o)∧fpK b.L=fpK (grwO (length a) r (rotR k) L o)∧1=1∧1=1∧0=0∧0=0∧0=0∧0=0∧0=0∧1=1∧qs i64 a (qs u8 k (1=1∧qs i64 a (qs u8 k (qs
 i64 r (True)))))))))))))))∧(ltb (↑(length o):Int) (↑(length a):Int)=false→(cok a k r (length a) (length k) (length r)∧length o=length o∧okO o∧length o<length r∧length r
 ≤9∧wideR r (length o))∧Nat.ble (length (leastL r o)) 8=true∧Cont.size (Cont.ints i64 (leastL r o))=length (leastL r o)∧len' 8 (Cont.size (Cont.ints i64 (padK (leastL r o))))=
 true∧(zz0=true→len' 8 (Cont.size (Cont.ints i64 (padK (leastL r o))))=true∧length L=length L∧len' ((length L+1)*24) 140737488355328=true∧length L+1=length (grwO
 (length a) r (rotR k) L o)∧outV L++[AV.imm (Cont.ints i64 (leastL r o)) (length (leastL r o)) (some (length (leastL r o)))]=outV (grwO (length a) r (rotR k) L o)∧1=1∧length L+1
 =length (grwO (length a) r (rotR k) L o)∧0=0∧mput (fpE L) (pad8 (leastL r o)) [1] (fpK L)=fpE (grwO (length a) r (rotR k) L o)∧mck (fpE L) (pad8 (leastL r o)) (fpK L)=fpK (grwO
 (length a) r (rotR k) L o)∧1=1∧1=1∧0=0∧0=0∧0=0∧0=0∧0=0∧1=1∧qs i64 a (qs u8 k (1=1∧qs i64 a (qs u8 k (qs i64 r (True))))))∧(zz0=false→length L=
 length (grwO (length a) r (rotR k) L o)∧outV L=outV (grwO (length a) r (rotR k) L o)∧1=1∧length L=length (grwO (length a) r (rotR k) L o)∧0=0∧fpE L=fpE (grwO (length a) r
 (rotR k) L o)∧fpK L=fpK (grwO (length a) r (rotR k) L o)∧1=1∧1=1∧0=0∧0=0∧0=0∧0=0∧0=0∧1=1∧qs i64 a (qs u8 k (1=1∧qs i64 a (qs u8 k (qs i64 r
 (True)))))))))) (!getD (Option.getD (mget (fpE L) (pad8 (leastL r o))) []) 0 0 !=0)):=by kernel_rfl

theorem ob_d_38n (a k r:List Int):fnD (TGrn a k r) G 10000 (fe24) (.r [] 0 (.r [] 3 (.rs 4 [] 3 19 (.r [] 3 (.lit .nil)) (.r [] 27 (.cnd .nil (.r [] 1 (.cnd (.r [] 1 (.un (.r [] 0 (.lit (.r [] 0 (.r [(518,.auto,Dr.heap),(519,.auto,Dr.heap)] 3 (.r [] 1 (.un (.r [] 0 (.lit .nil)))))))))) (.r [] 1 (.r [] 0 (.r [] 15 (.r [] 3 (.lit (.r [] 3 (.r [] 31 .nil)))))))))))))) ([.nils,.ptr 9130 0,.ptr 64 0,.ptr 320 0,.ptr 193 0,.ptr 256 0]) (hrG a k r []) ([]) (wrG (grwO a.length r (rotR k) [] []))=(
 (cok a k r (length a) (length k) (length r)∧okR a k r)∧(crsB (length a) r [-1,-1,-1,-1,-1,-1,-1,-1]=true→0=length (grwO (length a) r (rotR k) [] [])∧[]=outV (grwO
 (length a) r (rotR k) [] [])∧1=1∧0=length (grwO (length a) r (rotR k) [] [])∧0=0∧[]=fpE (grwO (length a) r (rotR k) [] [])∧0=fpK (grwO (length a) r (rotR k) [] [])∧1=
 1∧1=1∧0=0∧0=0∧0=0∧0=0∧0=0∧1=1∧qs i64 a (qs u8 k (1=1∧qs i64 a (qs u8 k (qs i64 r (True))))))∧(crsB (length a) r [-1,-1,-1,-1,-1,-1,-1,-1]=false→
 (cok a k r (length a) (length k) (length r)∧0<length a∧length a%2=0∧length a≤8∧length k=length a)∧(wrgB (rotR k) [-1,-1,-1,-1,-1,-1,-1,-1]=true→0=length
 (grwO (length a) r (rotR k) [] [])∧[]=outV (grwO (length a) r (rotR k) [] [])∧1=1∧0=length (grwO (length a) r (rotR k) [] [])∧0=0∧[]=fpE (grwO (length a) r (rotR k) []
 [])∧0=fpK (grwO (length a) r (rotR k) [] [])∧1=1∧1=1∧0=0∧0=0∧0=0∧0=0∧0=0∧1=1∧qs i64 a (qs u8 k (1=1∧qs i64 a (qs u8 k (qs i64 r (True))))))∧(wrgB
 (rotR k) [-1,-1,-1,-1,-1,-1,-1,-1]=false→(ltb 0 (↑(length a):Int)=true→([(517,HO.blk (Blk.mk (Cont.ints i64 [0]) 1 1 (some 1) (some false) true false))]=[(517,HO.blk
 (Blk.mk (Cont.ints i64 [0]) 1 1 (some 1) (some false) true false))]∧1=1∧iI 0=0)∧([(9700,HO.blk (Blk.mk (Cont.vals []) 1 0 none (some true) true false)),(256,HO.blk (Blk.mk
 (Cont.cells [AV.full 9700 0]) 1 1 none (some false) true true)),(192,HO.blk (Blk.mk (Cont.maps (MV.mk true [some i64,some i64,some i64,some i64,some i64,some i64,some i64,some i64])
 (MV.mk false [none]) [] 0) 1 0 none (some false) true true)),(193,HO.blk (Blk.mk (Cont.cells [AV.mp 192]) 1 1 none (some false) true true)),(320,HO.blk (Blk.mk (Cont.cells [AV.fn 24 []
 [AV.ptr 9130 0,AV.ptr 64 0,AV.ptr 320 0,AV.ptr 193 0,AV.ptr 256 0]]) 1 1 none (some false) true true)),(64,HO.blk (Blk.mk (Cont.cells [AV.imm (Cont.ints i64 a) (length a) none,AV.imm
 (Cont.ints u8 k) (length k) none]) 2 1 none (some false) true true)),(9130,HO.blk (Blk.mk (Cont.cells [AV.imm (Cont.ints i64 a) (length a) none,AV.imm (Cont.ints u8 k) (length k) none,
 AV.imm (Cont.ints i64 r) (length r) none]) 3 1 none (some false) true true))]=[(9700,HO.blk (Blk.mk (Cont.vals []) 1 0 none (some true) true false)),(256,HO.blk (Blk.mk (Cont.cells
 [AV.full 9700 0]) 1 1 none (some false) true true)),(192,HO.blk (Blk.mk (Cont.maps (MV.mk true [some i64,some i64,some i64,some i64,some i64,some i64,some i64,some i64]) (MV.mk
 false [none]) [] 0) 1 0 none (some false) true true)),(193,HO.blk (Blk.mk (Cont.cells [AV.mp 192]) 1 1 none (some false) true true)),(320,HO.blk (Blk.mk (Cont.cells [AV.fn 24 [] [AV.ptr
 9130 0,AV.ptr 64 0,AV.ptr 320 0,AV.ptr 193 0,AV.ptr 256 0]]) 1 1 none (some false) true true)),(64,HO.blk (Blk.mk (Cont.cells [AV.imm (Cont.ints i64 a) (length a) none,AV.imm
 (Cont.ints u8 k) (length k) none]) 2 1 none (some false) true true)),(9130,HO.blk (Blk.mk (Cont.cells [AV.imm (Cont.ints i64 a) (length a) none,AV.imm (Cont.ints u8 k) (length k) none,
 AV.imm (Cont.ints i64 r) (length r) none]) 3 1 none (some false) true true))]∧1=1∧1=1∧1≤length a∧0<1∧okG [0]∧okL a [])∧length (grwO (length a) r (rotR k) [] [0])=
 length (grwO (length a) r (rotR k) [] [])∧outV (grwO (length a) r (rotR k) [] [0])=outV (grwO (length a) r (rotR k) [] [])∧1=1∧length (grwO (length a) r (rotR k) [] [0])=length
 (grwO (length a) r (rotR k) [] [])∧0=0∧fpE (grwO (length a) r (rotR k) [] [0])=fpE (grwO (length a) r (rotR k) [] [])∧fpK (grwO (length a) r (rotR k) [] [0])=fpK (grwO (length a)
 r (rotR k) [] [])∧1=1∧1=1∧0=0∧0=0∧0=0∧0=0∧0=0∧1=1∧qs i64 a (qs u8 k (1=1∧qs i64 a (qs u8 k (qs i64 r (True))))))∧(ltb 0 (↑(length a):Int)=false→
 cok a k r (length a) (length k) (length r)∧1=length (grwO (length a) r (rotR k) [] [])∧[AV.imm (Cont.ints i64 []) 0 (some 0)]=outV (grwO (length a) r (rotR k) [] [])∧1=1∧1=
 length (grwO (length a) r (rotR k) [] [])∧0=0∧[([0,0,0,0,0,0,0,0],[1],0)]=fpE (grwO (length a) r (rotR k) [] [])∧1=fpK (grwO (length a) r (rotR k) [] [])∧1=1∧1=1
 ∧0=0∧0=0∧0=0∧0=0∧0=0∧1=1∧qs i64 a (qs u8 k (1=1∧qs i64 a (qs u8 k (qs i64 r (True))))))))):=by kernel_rfl

theorem ob_g37 (a k:List Int):fnP (T0) G 10000 fe11 (.r [] 0 (.r [] 3 (.r [] 1 (.lp (lr37 a [AV.imm (Cont.ints i64 a) (length a) none,AV.imm (Cont.ints u8 k) (length k) none]) [] [] (fun b=>(.r [] 0 (.cnd (.r [] 0 (.r [] 49283 (.r [] 0 .nil))) (.frz 3 0 (.r [] 3 .nil))))))))) ([fanV a k]) ([conV a k (raysL a)]) ([])=(
 1=1∧qs i64 a (qs u8 k (1=1∧1=1∧iL [0]=[0]∧1=1∧qs i64 a (qs u8 k (1=1∧0=0∧0=0∧qs i64 a (ql a (iI 0=0∧(∃(m:Nat),0=(↑m:Int)∧m≤length a∧[0]=
 take (m+1) (raysL a))∧∀(b:L37r),(fun(zz0:List Int)=>(∃(m:Nat),b.i=(↑m:Int)∧m≤length a∧b.r=take (m+1) (raysL a))→(ltb b.i (↑(length a):Int)=true→rd i64
 a b.i (leb 0 b.i=true∧ltb b.i (↑(length b.r):Int)=true∧qx (length b.r) (qx (length b.r) (ltn (Int.toNat b.i) (Cont.size (Cont.ints i64 b.r))=true∧inR i64 (2*Int.tmod b.i 2)=
 true∧inR i64 (1-2*Int.tmod b.i 2)=true∧inR i64 (getD zz0 0 0*(1-2*Int.tmod b.i 2))=true∧inR i64 (getD b.r (Int.toNat b.i) 0+getD zz0 0 0*(1-2*Int.tmod b.i 2))=
 true∧qx (length b.r) (len' ((length b.r+1)*8) 140737488355328=true∧inR i64 (b.i+1)=true∧1=1∧qs i64 a (qs u8 k (1=1∧length b.r+1=length (b.r++[getD b.r
 (Int.toNat b.i) 0+getD zz0 0 0*(1-2*Int.tmod b.i 2)])∧b.r++[getD b.r (Int.toNat b.i) 0+getD zz0 0 0*(1-2*Int.tmod b.i 2)]=b.r++[getD b.r (Int.toNat b.i) 0+getD zz0
 0 0*(1-2*Int.tmod b.i 2)]∧1=1∧qs i64 a (qs u8 k (length b.r+1=length (b.r++[getD b.r (Int.toNat b.i) 0+getD zz0 0 0*(1-2*Int.tmod b.i 2)])∧0=0∧0=0∧qs i64
 a (ql a (b.i+1=b.i+1∧(∃(m:Nat),b.i+1=(↑m:Int)∧m≤length a∧b.r++[getD b.r (Int.toNat b.i) 0+getD zz0 0 0*(1-2*Int.tmod b.i 2)]=take (m+1) (raysL a))∧
 length a-Int.toNat (b.i+1)<length a-Int.toNat b.i∧True)))))))))))∧(ltb b.i (↑(length a):Int)=false→qx (length b.r) (qs i64 a (qs u8 k (Cont.ints i64 b.r=Cont.ints i64
 (raysL a)∧length b.r=length (raysL a)∧True))))) (drop (Int.toNat b.i) a)))))))):=by kernel_rfl

theorem ob_g36 (a k:List Int):fnP (T0) G 10000 fe10 (.r [] 0 (.r [] 1 (.ff (.r [] 3 (.ff (.rs 5 [] 1 24 (.r [] 3 (.lit (.r [] 0 .nil))) (.r [] 15 (.ff (.r [] 0 (.r [] 1 (.lp (lr36 a) [] [] (fun b=>(.r [] 0 (.cnd (.r [] 0 (.rs 3 [] 0 41 (.r [] 63 (.lit (.r [] 0 .nil))) (.rs 4 [] 3 45 (.r [] 15 (.lit (.r [] 0 .nil))) (.rs 8 [] 97 53 (.r [] 3 (.lit (.r [] 0 .nil))) (.r [] 97 (.ff (.r [] 1 (.r [] 0 .nil)))))))) (.r [] 0 (.ff (.r [] 0 .nil))))))))))))))))) ([fanV a k]) ([.int .i64 0]) ([])=(
 ltb 32 (↑(length a):Int)=false∧((↑(length k):Int) !=(↑(length a):Int))=false∧(ltb (↑(length a):Int) 2=true→iI 1=0∧True)∧(ltb (↑(length a):Int) 2=false→
 (Int.tmod (↑(length a):Int) 2==1)=false∧1=1∧qs i64 a (qs u8 k (0=0∧iI 0=0∧qs i64 a (ql a (iI 0=0∧(∃(m:Nat),0=(↑m:Int)∧m≤length a∧0=gR (raysL a) (↑m:
 Int))∧∀(b:L36r),(fun(zz1:Int)=>(fun(zz0:List Int)=>(∃(m:Nat),b.i=(↑m:Int)∧m≤length a∧b.s=gR (raysL a) (↑m:Int))→(ltb b.i (↑(length a):Int)=true→rd
 i64 a b.i ((ltb (getD zz0 0 0) 1=true→iI 1=0∧True)∧(ltb (getD zz0 0 0) 1=false→(ltb 64 (getD zz0 0 0)=true→iI 1=0∧True)∧(ltb 64 (getD zz0 0 0)=false→rd u8 k b.i
 ((ltb zz1 1=true→iI 1=0∧True)∧(ltb zz1 1=false→rd u8 k b.i (ltb 3 zz1=false∧inR i64 (2*Int.tmod b.i 2)=true∧inR i64 (1-2*Int.tmod b.i 2)=true∧inR i64 (getD
 zz0 0 0*(1-2*Int.tmod b.i 2))=true∧inR i64 (b.s+getD zz0 0 0*(1-2*Int.tmod b.i 2))=true∧inR i64 (b.i+1)=true∧1=1∧qs i64 a (qs u8 k (0=0∧qx (b.s+getD zz0
 0 0*(1-2*Int.tmod b.i 2)) (qs i64 a (ql a (b.i+1=b.i+1∧(∃(m:Nat),b.i+1=(↑m:Int)∧m≤length a∧b.s+getD zz0 0 0*(1-2*Int.tmod b.i 2)=gR (raysL a) (↑m:
 Int))∧length a-Int.toNat (b.i+1)<length a-Int.toNat b.i∧True))))))))))))∧(ltb b.i (↑(length a):Int)=false→(b.s !=0)=false∧iI 0=0∧True)) (drop (Int.toNat b.i) a))
 (getD (drop (Int.toNat b.i) k) 0 0))))))):=by kernel_rfl

theorem ob_g18 (a k:List Int):fnP (TR18) G 10000 fe16 (.r [] 0 (.r [] 1 (.r [] 0 (.lit (.r [] 1 (.ff (.r [] 0 .nil))))))) ([fanV a k]) ([.int .i64 0]) ([])=(
 (length a=length a∧length k=length k∧okRing a k)∧ltb 8 (↑(length a):Int)=false∧iI 0=0∧True):=by kernel_rfl

theorem ob_g19 (a k:List Int):fnP (TWr a k) G 10000 fe17 (.r [] 0 (.jn (j19a a k (raysL a)) [] [] (.r [] 5 .nil) (fun b=>(.r [] 1 (.r [] 0 (.r [] 0 (.ghc 256 0 9700 1 (Cont.vals []) (.jn (j19) [1,3,4] [] (.r [] 1 .nil) (fun b_1=>(.r [(449,.auto,Dr.heap)] 1 (.r [(513,.auto,Dr.heap)] 1 (.r [] 1 (.frz 2 0 .nil))))))))))))) ([fanV a k]) ([.imm (.vals (outV (rwL a k))) (rwL a k).length none]) ([])=(
 ((length a=length a∧length k=length k∧okRing a k)∧1=1∧qs i64 a (qs u8 k (1=1∧qs i64 a (qs u8 k (qs i64 (raysL a) (0=0∧0=0∧True∧True))))))∧∀(b:Unit),True→
 (1=1∧qs i64 a (qs u8 k (1=1∧qs i64 a (qs u8 k (qs i64 (raysL a) (0=0∧([]:List (List Int×List Int×Nat))=[]∧0=0∧1=1∧1=1∧0=0∧1=1∧0=0∧0=0∧0=0
 ∧0=0∧0=0∧0=0∧([]:List AV)=[]∧0=0∧0=0∧True∧True))))))∧∀(b_1:Unit),True→([(9700,HO.blk (Blk.mk (Cont.vals []) 1 0 none (some true) true false)),(256,
 HO.blk (Blk.mk (Cont.cells [AV.full 9700 0]) 1 1 none (some false) true true)),(192,HO.blk (Blk.mk (Cont.maps (MV.mk true [some i64,some i64,some i64,some i64,some i64,some i64,some
 i64,some i64]) (MV.mk false [none]) [] 0) 1 0 none (some false) true true)),(193,HO.blk (Blk.mk (Cont.cells [AV.mp 192]) 1 1 none (some false) true true)),(320,HO.blk (Blk.mk
 (Cont.cells [AV.fn 24 [] [AV.ptr 9130 0,AV.ptr 64 0,AV.ptr 320 0,AV.ptr 193 0,AV.ptr 256 0]]) 1 1 none (some false) true true)),(64,HO.blk (Blk.mk (Cont.cells [AV.imm (Cont.ints i64 a)
 (length a) none,AV.imm (Cont.ints u8 k) (length k) none]) 2 1 none (some false) true true)),(9130,HO.blk (Blk.mk (Cont.cells [AV.imm (Cont.ints i64 a) (length a) none,AV.imm (Cont.ints
 u8 k) (length k) none,AV.imm (Cont.ints i64 (raysL a)) (length (raysL a)) none]) 3 1 none (some false) true true))]=[(9700,HO.blk (Blk.mk (Cont.vals []) 1 0 none (some true) true
 false)),(256,HO.blk (Blk.mk (Cont.cells [AV.full 9700 0]) 1 1 none (some false) true true)),(192,HO.blk (Blk.mk (Cont.maps (MV.mk true [some i64,some i64,some i64,some i64,some i64,
 some i64,some i64,some i64]) (MV.mk false [none]) [] 0) 1 0 none (some false) true true)),(193,HO.blk (Blk.mk (Cont.cells [AV.mp 192]) 1 1 none (some false) true true)),(320,HO.blk
 (Blk.mk (Cont.cells [AV.fn 24 [] [AV.ptr 9130 0,AV.ptr 64 0,AV.ptr 320 0,AV.ptr 193 0,AV.ptr 256 0]]) 1 1 none (some false) true true)),(64,HO.blk (Blk.mk (Cont.cells [AV.imm
 (Cont.ints i64 a) (length a) none,AV.imm (Cont.ints u8 k) (length k) none]) 2 1 none (some false) true true)),(9130,HO.blk (Blk.mk (Cont.cells [AV.imm (Cont.ints i64 a) (length a) none,
 AV.imm (Cont.ints u8 k) (length k) none,AV.imm (Cont.ints i64 (raysL a)) (length (raysL a)) none]) 3 1 none (some false) true true))]∧okR a k (raysL a))∧([(9700,HO.blk (Blk.mk
 (Cont.vals (outV (grwO (length a) (raysL a) (rotR k) [] []))) 1 (length (grwO (length a) (raysL a) (rotR k) [] [])) none (some true) true false))]=[(9700,HO.blk (Blk.mk (Cont.vals (outV
 (unO (outV (grwO (length a) (raysL a) (rotR k) [] []))))) 1 (length (unO (outV (grwO (length a) (raysL a) (rotR k) [] [])))) none (some true) true false))]∧length (grwO (length a) (raysL
 a) (rotR k) [] [])=length (unO (outV (grwO (length a) (raysL a) (rotR k) [] [])))∧okL a (unO (outV (grwO (length a) (raysL a) (rotR k) [] []))))∧length (unO (outV (grwO (length a)
 (raysL a) (rotR k) [] [])))=length (grwO (length a) (raysL a) (rotR k) [] [])∧Cont.vals (outV (srtL (unO (outV (grwO (length a) (raysL a) (rotR k) [] [])))))=Cont.vals (outV (rwL a k))
 ∧length (grwO (length a) (raysL a) (rotR k) [] [])=length (rwL a k)∧True):=by kernel_rfl

theorem ob_g8 (a k:List Int):fnP (TR8) G 10000 fe6 (.r [] 0 (.r [] 1 (.r [] 0 (.lit (.r [] 1 .nil))))) ([fanV a k]) ([.int .i64 ((rwL a k).length:Nat),.int .i64 0]) ([])=(
 (length a=length a∧length k=length k∧okRing a k)∧(length a=length a∧length k=length k∧okRing a k)∧(↑(length (rwL a k)):Int)=(↑(length (rwL a k)):Int)∧iI 0=0∧True):=by kernel_rfl

end Go.Proofs.Ythiammkiobbclaa.X
