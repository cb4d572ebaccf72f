/-
 What is to be shown of the functions (made by a program).
-/
import Derived.Test.YthiammkiobbclaaGreatD8Z
import Derived.KernelRfl
set_option maxRecDepth 1000000
set_option linter.unusedVariables false
namespace Go.Proofs.YthiammkiobbclaaGreat.X
open Go Go.Ab
open List IntKind

theorem ob_o60 (a k r o:List Int):fnP (T60 o.length) G 10000 fe33 (.r [] 0 (.jn (j60 o) [] [] (.r [] 2 .nil) (fun b=>(.r [] 3 (.lp (l60 r o) [] [] (fun b_1=>(.r [] 0 (.cnd (.r [] 0 (.lp (m60 r o b_1.o) [] [] (fun b_2=>(.r [] 0 (.cnd (.r [] 0 (.r [(514,.auto,Dr.heap)] 0 (.r [] 0 (.lp (n60 r o b_1.o b_2.i) [] [] (fun b_3=>(.r [] 0 (.cnd (.r [] 0 (.br (b_3.f) (.br (memB b_1.o b_3.k) (.r [yO 770,yO 771,(772,.on,Dr.heap),yO 773,(774,.off,Dr.plain),(775,.off,Dr.plain),(776,.off,Dr.plain),(777,.off,Dr.plain),(778,.off,Dr.plain),(779,.off,Dr.plain),(780,.off,Dr.plain),(781,.on,Dr.pk true),yO 782,(783,.off,Dr.plain),(784,.off,Dr.plain),(785,.off,Dr.plain),(786,.off,Dr.plain),(787,.off,Dr.plain),(788,.on,Dr.pk true),(789,.auto,Dr.pk true)] 398368768 (.r [] 0 .nil)) (.br (leb (gR (rkF o) b_2.i) (gR (rkF o) b_3.k)) (.r [yO 770,yO 771,(772,.on,Dr.heap),yO 773,yO 774,yO 775,yO 776,yO 777,yO 778,yO 779,yO 780,(781,.on,Dr.pk false),yO 782,(783,.off,Dr.plain),(784,.off,Dr.plain),(785,.off,Dr.plain),(786,.off,Dr.plain),(787,.off,Dr.plain),(788,.on,Dr.pk true),(789,.auto,Dr.pk true)] 24161812480 (.r [] 0 .nil)) (.r [yO 770,yO 771,(772,.on,Dr.heap),yO 773,yO 774,yO 775,yO 776,yO 777,yO 778,yO 779,yO 780,(781,.on,Dr.pk false),yO 782,yO 783,yO 784,yO 785,yO 786,yO 787,(788,.on,Dr.pk false),(789,.auto,Dr.pk true)] 96656162816 (.r [] 0 .nil)))) (.r [(770,.off,Dr.plain),(771,.off,Dr.plain),(772,.off,Dr.plain),(773,.off,Dr.plain),(774,.off,Dr.plain),(775,.off,Dr.plain),(776,.off,Dr.plain),(777,.off,Dr.plain),(778,.off,Dr.plain),(779,.off,Dr.plain),(780,.off,Dr.plain),(781,.off,Dr.plain),(782,.off,Dr.plain),(783,.off,Dr.plain),(784,.off,Dr.plain),(785,.off,Dr.plain),(786,.off,Dr.plain),(787,.off,Dr.plain),(788,.off,Dr.plain),(789,.auto,Dr.pk false)] 2877424 (.r [] 0 .nil)))) (.r [] 0 (.cnd (.r [(963,.auto,Dr.pk true)] 8 .nil) (.r [] 0 .nil)))))))))) .nil))))) (.r [] 0 (.frz 4 0 .nil)))))))))) ([conV a k r,immN .i64 o]) ([immL .i64 (leastL r o)]) ([])=(
 ((length o=length o∧okO o)∧1=1∧qs i64 a (qs u8 k (qs i64 r (8=8∧[rkO o 0,rkO o 1,rkO o 2,rkO o 3,rkO o 4,rkO o 5,rkO o 6,rkO o 7]=rkF o∧qs i64 o (0=0∧0=0∧
 True∧True)))))∧∀(b:Unit),True→leb ((↑(length o):Int)*8) 140737488355328=true∧1=1∧qs i64 a (qs u8 k (qs i64 r (8=8∧rkF o=rkF o∧0=0∧Int.toNat (↑(length o):
 Int)=length o∧iL []=[]∧qs i64 o (0=0∧0=0∧0=0∧(∃(m:Nat),m≤length o∧[]=lstN r (rkF o) (length o) m)∧∀(b_1:L60),(fun(zz7:Prop)=>zz7→qx (length b_1.o)
 ((ltb (↑(length b_1.o):Int) (↑(length o):Int)=true→1=1∧qs i64 a (qs u8 k (qs i64 r (8=8∧rkF o=rkF o∧qx (length b_1.o) (length o=length o∧b_1.o=b_1.o∧qs i64 o (0=
 0∧0=0∧qx (length b_1.o) (ql o (iI 0=0∧(∃(m:Nat),0=(↑m:Int)∧m≤length o∧∀(j:Nat),j<m→frK r (rkF o) b_1.o (↑j:Int) (length o)=false)∧∀(b_2:L83),(fun
 (zz5:Int)=>(∃(m:Nat),b_2.i=(↑m:Int)∧m≤length o∧∀(j:Nat),j<m→frK r (rkF o) b_1.o (↑j:Int) (length o)=false)→(ltb b_2.i (↑(length o):Int)=true→([(194,
 HO.blk (Blk.mk (Cont.ints i64 b_1.o) 1 (length b_1.o) (some (length o)) (some false) true false))]=[(194,HO.blk (Blk.mk (Cont.ints i64 b_1.o) 1 (length b_1.o) (some (length o)) (some
 false) true false))]∧qx (length b_1.o) (length b_1.o<1000000))∧1=1∧qs i64 a (qs u8 k (qs i64 r (8=8∧rkF o=rkF o∧qx (length b_1.o) (length o=length o∧b_1.o=b_1.o∧qs
 i64 o (0=0∧0=0∧qx (length b_1.o) (ql o (b_2.i=b_2.i∧b_2.i=b_2.i∧(!memB b_1.o b_2.i)= !memB b_1.o b_2.i∧ql o (iI 0=0∧(∃(m:Nat),0=(↑m:Int)∧m≤length o∧
 (!memB b_1.o b_2.i)=frK r (rkF o) b_1.o b_2.i m)∧∀(b_3:N60),(fun(zz6:Int)=>(fun(zz4:Prop)=>(fun(zz3:Bool)=>(fun(zz2:Bool)=>(fun(zz1:Bool)=>(fun(zz0:Bool)
 =>(∃(m:Nat),b_3.k=(↑m:Int)∧m≤length o∧b_3.f=frK r (rkF o) b_1.o b_2.i m)→(ltb b_3.k (↑(length o):Int)=true→(b_3.f=true→(memB b_1.o b_3.k=true→b_3.f=true∧
 b_3.f=true∧b_3.f=true∧([(194,HO.blk (Blk.mk (Cont.ints i64 b_1.o) 1 (length b_1.o) (some (length o)) (some false) true false))]=[(194,HO.blk (Blk.mk (Cont.ints i64 b_1.o) 1
 (length b_1.o) (some (length o)) (some false) true false))]∧qx (length b_1.o) (length b_1.o<1000000))∧b_3.f=true∧zz3=true∧zz3=true∧zz3=true∧zz3=true∧zz3=true∧
 zz3=true∧zz3=true∧b_3.f=true∧memB b_1.o b_3.k=true∧b_3.f=true∧b_3.f=true∧b_3.f=true∧inR i64 (b_3.k+1)=true∧1=1∧qs i64 a (qs u8 k (qs i64 r (8=8∧rkF
 o=rkF o∧qx (length b_1.o) (length o=length o∧b_1.o=b_1.o∧qs i64 o (0=0∧0=0∧qx (length b_1.o) (ql o (b_2.i=b_2.i∧b_2.i=b_2.i∧true=true∧ql o (qx (b_3.k+1)
 (zz4∧length o-Int.toNat (b_3.k+1)<length o-Int.toNat b_3.k∧True))))))))))∧(memB b_1.o b_3.k=false→(leb (gR (rkF o) b_2.i) (gR (rkF o) b_3.k)=true→b_3.f=true∧b_3.f=
 true∧b_3.f=true∧([(194,HO.blk (Blk.mk (Cont.ints i64 b_1.o) 1 (length b_1.o) (some (length o)) (some false) true false))]=[(194,HO.blk (Blk.mk (Cont.ints i64 b_1.o) 1 (length
 b_1.o) (some (length o)) (some false) true false))]∧qx (length b_1.o) (length b_1.o<1000000))∧b_3.f=true∧zz2=true∧zz2=true∧leb 0 b_3.k=true∧ltb b_3.k 8=true∧zz2=
 true∧ltn (Int.toNat b_3.k) (Cont.size (Cont.ints i64 (rkF o)))=true∧zz2=true∧zz2=true∧leb 0 b_2.i=true∧ltb b_2.i 8=true∧zz2=true∧ltn (Int.toNat b_2.i) (Cont.size
 (Cont.ints i64 (rkF o)))=true∧zz2=true∧b_3.f=true∧zz2=true∧b_3.f=true∧zz1=true∧zz1=true∧zz1=true∧zz1=true∧zz1=true∧b_3.f=true∧leb zz5 zz6=true∧
 b_3.f=true∧inR i64 (b_3.k+1)=true∧1=1∧qs i64 a (qs u8 k (qs i64 r (8=8∧rkF o=rkF o∧qx (length b_1.o) (length o=length o∧b_1.o=b_1.o∧qs i64 o (0=0∧0=0∧qx
 (length b_1.o) (ql o (b_2.i=b_2.i∧b_2.i=b_2.i∧true=true∧ql o (qx (b_3.k+1) (zz4∧length o-Int.toNat (b_3.k+1)<length o-Int.toNat b_3.k∧True))))))))))∧(leb (gR (rkF
 o) b_2.i) (gR (rkF o) b_3.k)=false→b_3.f=true∧b_3.f=true∧b_3.f=true∧([(194,HO.blk (Blk.mk (Cont.ints i64 b_1.o) 1 (length b_1.o) (some (length o)) (some false) true false))]
 =[(194,HO.blk (Blk.mk (Cont.ints i64 b_1.o) 1 (length b_1.o) (some (length o)) (some false) true false))]∧qx (length b_1.o) (length b_1.o<1000000))∧b_3.f=true∧zz2=true∧zz2=
 true∧leb 0 b_3.k=true∧ltb b_3.k 8=true∧zz2=true∧ltn (Int.toNat b_3.k) (Cont.size (Cont.ints i64 (rkF o)))=true∧zz2=true∧zz2=true∧leb 0 b_2.i=true∧ltb b_2.i 8=
 true∧zz2=true∧ltn (Int.toNat b_2.i) (Cont.size (Cont.ints i64 (rkF o)))=true∧zz2=true∧b_3.f=true∧zz2=true∧b_3.f=true∧zz0=true∧zz0=true∧zz0=true∧zz0=
 true∧(cok a k r (length a) (length k) (length r)∧0≤b_2.i∧b_2.i+1<(↑(length r):Int)∧0≤b_3.k∧b_3.k+1<(↑(length r):Int)∧length r≤9)∧zz0=true∧b_3.f=true∧
 zz0=true∧b_3.f=true∧inR i64 (b_3.k+1)=true∧1=1∧qs i64 a (qs u8 k (qs i64 r (8=8∧rkF o=rkF o∧qx (length b_1.o) (length o=length o∧b_1.o=b_1.o∧qs i64 o (0=0
 ∧0=0∧qx (length b_1.o) (ql o (b_2.i=b_2.i∧b_2.i=b_2.i∧(!ovlB r b_2.i b_3.k)= !ovlB r b_2.i b_3.k∧ql o (qx (b_3.k+1) ((∃(m:Nat),b_3.k+1=(↑m:Int)∧m≤length o∧
 (!ovlB r b_2.i b_3.k)=frK r (rkF o) b_1.o b_2.i m)∧length o-Int.toNat (b_3.k+1)<length o-Int.toNat b_3.k∧True))))))))))))∧(b_3.f=false→(!b_3.f)=true∧(!b_3.f)=true∧
 (!b_3.f)=true∧(!b_3.f)=true∧(!b_3.f)=true∧(!b_3.f)=true∧(!b_3.f)=true∧(!b_3.f)=true∧inR i64 (b_3.k+1)=true∧1=1∧qs i64 a (qs u8 k (qs i64 r (8=8∧rkF o=
 rkF o∧qx (length b_1.o) (length o=length o∧b_1.o=b_1.o∧qs i64 o (0=0∧0=0∧qx (length b_1.o) (ql o (b_2.i=b_2.i∧b_2.i=b_2.i∧false=false∧ql o (qx (b_3.k+1) ((∃
 (m:Nat),b_3.k+1=(↑m:Int)∧m≤length o∧false=frK r (rkF o) b_1.o b_2.i m)∧length o-Int.toNat (b_3.k+1)<length o-Int.toNat b_3.k∧True)))))))))))∧(ltb b_3.k
 (↑(length o):Int)=false→(b_3.f=true→qx (length b_1.o) (len' ((length b_1.o+1)*8) 140737488355328=true∧len' (length b_1.o+1) (length o)=true∧1=1∧qs i64 a (qs u8 k
 (qs i64 r (8=8∧rkF o=rkF o∧length b_1.o+1=length (b_1.o++[b_2.i])∧length o=length o∧b_1.o++[b_2.i]=b_1.o++[b_2.i]∧qs i64 o (0=0∧0=0∧length b_1.o+1=
 length (b_1.o++[b_2.i])∧(∃(m:Nat),m≤length o∧b_1.o++[b_2.i]=lstN r (rkF o) (length o) m)∧length o-length (b_1.o++[b_2.i])<length o-length b_1.o∧True))))))∧
 (b_3.f=false→inR i64 (b_2.i+1)=true∧1=1∧qs i64 a (qs u8 k (qs i64 r (8=8∧rkF o=rkF o∧qx (length b_1.o) (length o=length o∧b_1.o=b_1.o∧qs i64 o (0=0∧0=0∧
 qx (length b_1.o) (ql o (qx (b_2.i+1) ((∃(m:Nat),b_2.i+1=(↑m:Int)∧m≤length o∧∀(j:Nat),j<m→frK r (rkF o) b_1.o (↑j:Int) (length o)=false)∧length o-Int.toNat
 (b_2.i+1)<length o-Int.toNat b_2.i∧True))))))))))) (!leb zz5 zz6)) (!!leb zz5 zz6)) (!memB b_1.o b_3.k)) (!!memB b_1.o b_3.k)) (∃(m:Nat),b_3.k+1=(↑m:Int)∧m≤length o∧
 true=frK r (rkF o) b_1.o b_2.i m)) (getD (rkF o) (Int.toNat b_3.k) 0))))))))))∧(ltb b_2.i (↑(length o):Int)=false→1=1∧qs i64 a (qs u8 k (qs i64 r (8=8∧rkF o=rkF o∧qx
 (length b_1.o) (length o=length o∧b_1.o=b_1.o∧qs i64 o (0=0∧0=0∧qx (length b_1.o) (zz7∧length o-length b_1.o<length o-length b_1.o∧True)))))))) (getD (rkF o)
 (Int.toNat b_2.i) 0)))))))))∧(ltb (↑(length b_1.o):Int) (↑(length o):Int)=false→qx (length b_1.o) (Cont.ints i64 b_1.o=Cont.ints i64 (leastL r o)∧length b_1.o=length (leastL
 r o)∧length o=length (leastL r o)∧True)))) (∃(m:Nat),m≤length o∧b_1.o=lstN r (rkF o) (length o) m)))))):=by kernel_rfl

end Go.Proofs.YthiammkiobbclaaGreat.X
