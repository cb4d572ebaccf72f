/-
 What is to be shown of the functions (made by a program).
-/
import Derived.Test.YthiammkiobbclaaGreatD6Z
import Derived.KernelRfl
set_option maxRecDepth 1000000
set_option linter.unusedVariables false
namespace Go.Proofs.YthiammkiobbclaaGreat.X
open Go Go.Ab
open List IntKind

theorem ob_o73 (a k r:List Int)(c:Int):fnP (T0) G 10000 fe47 (.r [] 0 (.r [] 1 (.r [] 0 .nil))) ([conV a k r,.int .i64 c]) ([.int .i64 (bfI a.length c),.int .i64 c]) ([])=(
 inR i64 (c+(↑(length a):Int))=true∧inR i64 (c+(↑(length a):Int)-1)=true∧(!(↑(length a):Int)==0)=true∧Int.tmod (c+(↑(length a):Int)-1) (↑(length a):Int)=bfI
 (↑(length a):Int) c∧c=c∧True):=by kernel_rfl

theorem ob_o74 (a k r:List Int)(y s:Int):fnP (T0) G 10000 fe48 (.r [] 0 (.r [] 33 (.rs 6 [] 0 25 (.r [] 3 .nil) (.r [] 3 .nil)))) ([conV a k r,.int .i64 y,.int .i64 s]) ([.bool (insB r y s)]) ([])=(
 (fun(zz2:List Int)=>(fun(zz1:List Int)=>(fun(zz0:Int)=>rd i64 r s (inR i64 (s+1)=true∧rd i64 r (s+1) ((ltb zz0 y=true→ltb y (if getD zz1 0 0>getD zz2 0 0 then
 getD zz1 0 0 else getD zz2 0 0)=insB r y s∧True)∧(ltb zz0 y=false→false=insB r y s∧True)))) (if getD zz1 0 0<getD zz2 0 0 then getD zz1 0 0 else getD zz2 0 0)) (drop
 (Int.toNat (s+1)) r)) (drop (Int.toNat s) r)):=by kernel_rfl

theorem ob_o76 (a k r:List Int)(c:Int):fnP (T0) G 10000 fe50 (.r [] 0 (.r [] 65 .nil)) ([conV a k r,.int .i64 c]) ([.bool (sidB r c)]) ([])=(
 inR i64 (c+1)=true∧rd i64 r (c+1) (rd i64 r c (ltb (getD (drop (Int.toNat c) r) 0 0) (getD (drop (Int.toNat (c+1)) r) 0 0)=sidB r c∧True))):=by kernel_rfl

theorem ob_o82 (a k r:List Int)(c d:Int):fnP (T0) G 10000 fe55 (.r [] 0 (.r [] 283606321185 .nil)) ([conV a k r,.int .i64 c,.int .i64 d]) ([.bool (ovlB r c d)]) ([])=(
 (fun(zz3:List Int)=>(fun(zz2:List Int)=>(fun(zz1:List Int)=>(fun(zz0:List Int)=>rd i64 r c (inR i64 (c+1)=true∧rd i64 r (c+1) (rd i64 r d (inR i64 (d+1)=true
 ∧rd i64 r (d+1) (rd i64 r c (inR i64 (c+1)=true∧rd i64 r (c+1) (rd i64 r d (inR i64 (d+1)=true∧rd i64 r (d+1) (ltb (if(if getD zz0 0 0<getD zz2 0 0 then getD zz0 0 0
 else getD zz2 0 0)>if getD zz1 0 0<getD zz3 0 0 then getD zz1 0 0 else getD zz3 0 0 then if getD zz0 0 0<getD zz2 0 0 then getD zz0 0 0 else getD zz2 0 0 else if getD zz1 0 0<getD
 zz3 0 0 then getD zz1 0 0 else getD zz3 0 0) (if(if getD zz0 0 0>getD zz2 0 0 then getD zz0 0 0 else getD zz2 0 0)<if getD zz1 0 0>getD zz3 0 0 then getD zz1 0 0 else getD zz3 0 0
 then if getD zz0 0 0>getD zz2 0 0 then getD zz0 0 0 else getD zz2 0 0 else if getD zz1 0 0>getD zz3 0 0 then getD zz1 0 0 else getD zz3 0 0)=ovlB r c d∧True))))))))) (drop (Int.toNat
 (d+1)) r)) (drop (Int.toNat (c+1)) r)) (drop (Int.toNat d) r)) (drop (Int.toNat c) r)):=by kernel_rfl

theorem ob_o75 (a k r:List Int)(x0 x1 x2 x3 x4 x5 x6 x7 c s:Int):fnP (TA1) G 10000 fe49 (.r [] 0 (.r [] 13 (.r [(194,.auto,Dr.val [AV.int i64 (gR [x0,x1,x2,x3,x4,x5,x6,x7] (bfI (↑(length a):Int) c))]),(197,.auto,Dr.val [AV.int i64 (gR [x0,x1,x2,x3,x4,x5,x6,x7] c)]),(201,.auto,Dr.val [AV.int i64 (gR [x0,x1,x2,x3,x4,x5,x6,x7] (bfI (↑(length a):Int) c))]),(204,.auto,Dr.val [AV.int i64 (gR [x0,x1,x2,x3,x4,x5,x6,x7] c)])] 0 (.rs 3 [] 0 35 (.rs 7 [(262,.auto,Dr.val [AV.int i64 (gR [x0,x1,x2,x3,x4,x5,x6,x7] s)])] 24 42 (.r [(268,.auto,Dr.val [AV.int i64 (gR [x0,x1,x2,x3,x4,x5,x6,x7] s)])] 24 .nil) (.r [(268,.auto,Dr.val [AV.int i64 (gR [x0,x1,x2,x3,x4,x5,x6,x7] s)])] 3 .nil)) (.r [(262,.auto,Dr.val [AV.int i64 (gR [x0,x1,x2,x3,x4,x5,x6,x7] s)]),(268,.auto,Dr.val [AV.int i64 (gR [x0,x1,x2,x3,x4,x5,x6,x7] s)])] 15 .nil))))) ([conV a k r,r8V x0 x1 x2 x3 x4 x5 x6 x7,.int .i64 c,.int .i64 s]) ([.bool (btwB a.length [x0,x1,x2,x3,x4,x5,x6,x7] c s)]) ([])=(
 (fun(zz2:Int)=>(fun(zz1:Int)=>(fun(zz0:Int)=>(cok a k r (length a) (length k) (length r)∧0<length a∧length a≤8∧0≤c∧c<(↑(length a):Int))∧leb 0 zz1=true∧
 ltb zz1 8=true∧[AV.int i64 x0,AV.int i64 x1,AV.int i64 x2,AV.int i64 x3,AV.int i64 x4,AV.int i64 x5,AV.int i64 x6,AV.int i64 x7][Int.toNat zz1]? =some (AV.int i64 (gR [x0,x1,
 x2,x3,x4,x5,x6,x7] zz1))∧leb 0 c=true∧ltb c 8=true∧[AV.int i64 x0,AV.int i64 x1,AV.int i64 x2,AV.int i64 x3,AV.int i64 x4,AV.int i64 x5,AV.int i64 x6,AV.int i64
 x7][Int.toNat c]? =some (AV.int i64 (gR [x0,x1,x2,x3,x4,x5,x6,x7] c))∧leb 0 zz1=true∧ltb zz1 8=true∧[AV.int i64 x0,AV.int i64 x1,AV.int i64 x2,AV.int i64 x3,AV.int i64
 x4,AV.int i64 x5,AV.int i64 x6,AV.int i64 x7][Int.toNat zz1]? =some (AV.int i64 (gR [x0,x1,x2,x3,x4,x5,x6,x7] zz1))∧leb 0 c=true∧ltb c 8=true∧[AV.int i64 x0,AV.int i64
 x1,AV.int i64 x2,AV.int i64 x3,AV.int i64 x4,AV.int i64 x5,AV.int i64 x6,AV.int i64 x7][Int.toNat c]? =some (AV.int i64 (gR [x0,x1,x2,x3,x4,x5,x6,x7] c))∧(leb 0 zz0=true→
 leb 0 s=true∧ltb s 8=true∧[AV.int i64 x0,AV.int i64 x1,AV.int i64 x2,AV.int i64 x3,AV.int i64 x4,AV.int i64 x5,AV.int i64 x6,AV.int i64 x7][Int.toNat s]? =some (AV.int i64
 zz2)∧(ltb zz0 zz2=true→leb 0 s=true∧ltb s 8=true∧[AV.int i64 x0,AV.int i64 x1,AV.int i64 x2,AV.int i64 x3,AV.int i64 x4,AV.int i64 x5,AV.int i64 x6,AV.int i64
 x7][Int.toNat s]? =some (AV.int i64 zz2)∧ltb zz2 (if gR [x0,x1,x2,x3,x4,x5,x6,x7] c>gR [x0,x1,x2,x3,x4,x5,x6,x7] zz1 then gR [x0,x1,x2,x3,x4,x5,x6,x7] c else gR
 [x0,x1,x2,x3,x4,x5,x6,x7] zz1)=btwB (↑(length a):Int) [x0,x1,x2,x3,x4,x5,x6,x7] c s∧True)∧(ltb zz0 zz2=false→false=btwB (↑(length a):Int) [x0,x1,x2,x3,x4,
 x5,x6,x7] c s∧True))∧(leb 0 zz0=false→false=btwB (↑(length a):Int) [x0,x1,x2,x3,x4,x5,x6,x7] c s∧True)) (if gR [x0,x1,x2,x3,x4,x5,x6,x7] c<gR [x0,x1,x2,x3,
 x4,x5,x6,x7] zz1 then gR [x0,x1,x2,x3,x4,x5,x6,x7] c else gR [x0,x1,x2,x3,x4,x5,x6,x7] zz1)) (bfI (↑(length a):Int) c)) (gR [x0,x1,x2,x3,x4,x5,x6,x7] s)):=by kernel_rfl

theorem ob_o54 (a k r:List Int)(x0 x1 x2 x3 x4 x5 x6 x7 c:Int):fnP (TA1) G 10000 fe51 (.r [] 0 (.r [] 13 (.br (Int.tmod (bfI (↑(length a):Int) c) 2==0) (.r [] 1 (.tt (.r [] 0 (.r [(322,.auto,Dr.val [AV.int i64 (gR [x0,x1,x2,x3,x4,x5,x6,x7] c)]),(325,.auto,Dr.val [AV.int i64 (gR [x0,x1,x2,x3,x4,x5,x6,x7] (bfI (↑(length a):Int) c))])] 0 (.cnd (.r [] 0 .nil) (.r [] 0 .nil)))))) (.r [] 1 (.ff (.r [(322,.auto,Dr.val [AV.int i64 (gR [x0,x1,x2,x3,x4,x5,x6,x7] (bfI (↑(length a):Int) c))]),(325,.auto,Dr.val [AV.int i64 (gR [x0,x1,x2,x3,x4,x5,x6,x7] c)])] 0 (.cnd (.r [] 0 .nil) (.r [] 0 .nil)))))))) ([conV a k r,r8V x0 x1 x2 x3 x4 x5 x6 x7,.int .i64 c]) ([.int .u8 (kdI a.length [x0,x1,x2,x3,x4,x5,x6,x7] c)]) ([])=(
 (fun(zz2:Int)=>(fun(zz0:Int)=>(fun(zz3:Bool)=>(fun(zz1:Int)=>(cok a k r (length a) (length k) (length r)∧0<length a∧length a≤8∧0≤c∧c<(↑(length a):Int))
 ∧(zz3=true→zz3=true∧leb 0 c=true∧ltb c 8=true∧[AV.int i64 x0,AV.int i64 x1,AV.int i64 x2,AV.int i64 x3,AV.int i64 x4,AV.int i64 x5,AV.int i64 x6,AV.int i64
 x7][Int.toNat c]? =some (AV.int i64 zz2)∧leb 0 zz0=true∧ltb zz0 8=true∧[AV.int i64 x0,AV.int i64 x1,AV.int i64 x2,AV.int i64 x3,AV.int i64 x4,AV.int i64 x5,AV.int i64 x6,
 AV.int i64 x7][Int.toNat zz0]? =some (AV.int i64 zz1)∧(ltb zz1 zz2=true→2=kdI (↑(length a):Int) [x0,x1,x2,x3,x4,x5,x6,x7] c∧True)∧(ltb zz1 zz2=false→1=kdI
 (↑(length a):Int) [x0,x1,x2,x3,x4,x5,x6,x7] c∧True))∧(zz3=false→zz3=false∧leb 0 zz0=true∧ltb zz0 8=true∧[AV.int i64 x0,AV.int i64 x1,AV.int i64 x2,AV.int i64
 x3,AV.int i64 x4,AV.int i64 x5,AV.int i64 x6,AV.int i64 x7][Int.toNat zz0]? =some (AV.int i64 zz1)∧leb 0 c=true∧ltb c 8=true∧[AV.int i64 x0,AV.int i64 x1,AV.int i64 x2,
 AV.int i64 x3,AV.int i64 x4,AV.int i64 x5,AV.int i64 x6,AV.int i64 x7][Int.toNat c]? =some (AV.int i64 zz2)∧(ltb zz2 zz1=true→2=kdI (↑(length a):Int) [x0,x1,x2,x3,x4,x5,
 x6,x7] c∧True)∧(ltb zz2 zz1=false→1=kdI (↑(length a):Int) [x0,x1,x2,x3,x4,x5,x6,x7] c∧True))) (gR [x0,x1,x2,x3,x4,x5,x6,x7] zz0)) (Int.tmod zz0 2==0)) (bfI
 (↑(length a):Int) c)) (gR [x0,x1,x2,x3,x4,x5,x6,x7] c)):=by kernel_rfl

theorem ob_o51 (o:List Int):fnP (T0) G 10000 fe28 (.r [] 0 (.r [] 0 (.r [] 0 (.un (.r [] 0 (.lit (.r [] 0 (.r [] 7 (.r [] 1 (.un (.r [] 0 (.lit (.r [] 0 (.r [] 7 (.r [] 1 (.un (.r [] 0 (.lit (.r [] 0 (.r [] 7 (.r [] 1 (.un (.r [] 0 (.lit (.r [] 0 (.r [] 7 (.r [] 1 (.un (.r [] 0 (.lit (.r [] 0 (.r [] 7 (.r [] 1 (.un (.r [] 0 (.lit (.r [] 0 (.r [] 7 (.r [] 1 (.un (.r [] 0 (.lit (.r [] 0 (.r [] 7 (.r [] 1 (.un (.r [] 0 (.lit (.r [] 0 (.r [] 7 (.r [] 1 (.un (.r [] 0 (.lit (.r [] 0 (.lp (l51 o) [] [] (fun b=>(.r [] 0 (.cnd (.r [] 0 (.r [] 0 (.r [] 0 .nil))) (.r [] 2 .nil)))))))))))))))))))))))))))))))))))))))))))))))))))))))))))) ([.imm (.ints .i64 o) o.length none]) ([rkV o]) ([])=(
 8=8∧iL [0,0,0,0,0,0,0,0]=[0,0,0,0,0,0,0,0]∧8=8∧iL [-1,-1,-1,-1,-1,-1,-1,-1]=[-1,-1,-1,-1,-1,-1,-1,-1]∧0=0∧0=0∧false=false∧qs i64 o (ql
 o (iI 0=0∧(∃(m:Nat),0=(↑m:Int)∧m≤length o∧8=8∧rkA [-1,-1,-1,-1,-1,-1,-1,-1] (↑m:Int) (drop m o)=rkF o)∧∀(b:L51),(fun(zz0:Int)=>(∃(m:Nat),b.i=
 (↑m:Int)∧m≤length o∧length b.rk=8∧rkA b.rk (↑m:Int) (drop m o)=rkF o)→(ltb b.i (↑(length o):Int)=true→rd i64 o b.i (leb 0 zz0=true∧ltb zz0 8=true∧len'
 (Int.toNat zz0+1) (Cont.size (Cont.ints i64 b.rk))=true∧inR i64 (b.i+1)=true∧8=8∧iL [0,0,0,0,0,0,0,0]=[0,0,0,0,0,0,0,0]∧8=8∧qx (set b.rk (Int.toNat zz0)
 b.i) (0=0∧0=0∧false=false∧qs i64 o (ql o (b.i+1=b.i+1∧(∃(m:Nat),b.i+1=(↑m:Int)∧m≤length o∧length (set b.rk (Int.toNat zz0) b.i)=8∧rkA (set b.rk
 (Int.toNat zz0) b.i) (↑m:Int) (drop m o)=rkF o)∧length o-Int.toNat (b.i+1)<length o-Int.toNat b.i∧True)))))∧(ltb b.i (↑(length o):Int)=false→len' 8 (Cont.size
 (Cont.ints i64 b.rk))=true∧getD [getD b.rk 0 0,getD b.rk 1 0,getD b.rk 2 0,getD b.rk 3 0,getD b.rk 4 0,getD b.rk 5 0,getD b.rk 6 0,getD b.rk 7 0] 0 0=rkO o 0∧getD [getD b.rk 0
 0,getD b.rk 1 0,getD b.rk 2 0,getD b.rk 3 0,getD b.rk 4 0,getD b.rk 5 0,getD b.rk 6 0,getD b.rk 7 0] 1 0=rkO o 1∧getD [getD b.rk 0 0,getD b.rk 1 0,getD b.rk 2 0,getD b.rk 3 0,
 getD b.rk 4 0,getD b.rk 5 0,getD b.rk 6 0,getD b.rk 7 0] 2 0=rkO o 2∧getD [getD b.rk 0 0,getD b.rk 1 0,getD b.rk 2 0,getD b.rk 3 0,getD b.rk 4 0,getD b.rk 5 0,getD b.rk 6 0,
 getD b.rk 7 0] 3 0=rkO o 3∧getD [getD b.rk 0 0,getD b.rk 1 0,getD b.rk 2 0,getD b.rk 3 0,getD b.rk 4 0,getD b.rk 5 0,getD b.rk 6 0,getD b.rk 7 0] 4 0=rkO o 4∧getD [getD b.rk 0
 0,getD b.rk 1 0,getD b.rk 2 0,getD b.rk 3 0,getD b.rk 4 0,getD b.rk 5 0,getD b.rk 6 0,getD b.rk 7 0] 5 0=rkO o 5∧getD [getD b.rk 0 0,getD b.rk 1 0,getD b.rk 2 0,getD b.rk 3 0,
 getD b.rk 4 0,getD b.rk 5 0,getD b.rk 6 0,getD b.rk 7 0] 6 0=rkO o 6∧getD [getD b.rk 0 0,getD b.rk 1 0,getD b.rk 2 0,getD b.rk 3 0,getD b.rk 4 0,getD b.rk 5 0,getD b.rk 6 0,
 getD b.rk 7 0] 7 0=rkO o 7∧True)) (getD (drop (Int.toNat b.i) o) 0 0)))):=by kernel_rfl

theorem ob_o51z:fnP (T0) G 10000 fe28 (.r [] 0 (.r [] 0 (.r [] 0 (.un (.r [] 0 (.lit (.r [] 0 (.r [] 7 (.r [] 1 (.un (.r [] 0 (.lit (.r [] 0 (.r [] 7 (.r [] 1 (.un (.r [] 0 (.lit (.r [] 0 (.r [] 7 (.r [] 1 (.un (.r [] 0 (.lit (.r [] 0 (.r [] 7 (.r [] 1 (.un (.r [] 0 (.lit (.r [] 0 (.r [] 7 (.r [] 1 (.un (.r [] 0 (.lit (.r [] 0 (.r [] 7 (.r [] 1 (.un (.r [] 0 (.lit (.r [] 0 (.r [] 7 (.r [] 1 (.un (.r [] 0 (.lit (.r [] 0 (.r [] 7 (.r [] 1 (.un (.r [] 0 (.lit (.r [] 0 (.un (.r [] 0 (.lit (.r [] 3 .nil))))))))))))))))))))))))))))))))))))))))))))))))))))))))))) ([.nils]) ([rkV []]) ([])=(
 iI (-1)= -1∧iI (-1)= -1∧iI (-1)= -1∧iI (-1)= -1∧iI (-1)= -1∧iI (-1)= -1∧iI (-1)= -1∧iI (-1)= -1∧True):=by kernel_rfl

theorem ob_o52 (a k r:List Int)(x0 x1 x2 x3 x4 x5 x6 x7:Int):fnP (TA2) G 10000 fe29 (.r [] 0 (.r [] 1 (.lp (l52 (length a) r [x0,x1,x2,x3,x4,x5,x6,x7]) [] [] (fun b=>(.r [] 0 (.cnd (.r [] 0 (.r [] 1 (.lp (m52 (length a) r [x0,x1,x2,x3,x4,x5,x6,x7] b.i) [] [] (fun b_1=>(.r [] 0 (.cnd (.r [] 0 (.r [] 13 (.r [yM 585,yM 586,yM 587,yM 588,yM 589] 16771 (.cnd (.r [] 0 .nil) (.r [yM 708,yM 709,yM 710,yM 711,yM 712,yM 713,yM 714,yM 715,yM 716,yM 717,yM 718,yM 721,yM 722,yM 723,yM 724,yM 725,yM 726,yM 727,yM 730,yM 731,(732,.may,Dr.val [AV.int i64 (gR [x0,x1,x2,x3,x4,x5,x6,x7] (bfI (↑(length a):Int) b_1.i))]),yM 733,yM 734,(735,.may,Dr.val [AV.int i64 (gR [x0,x1,x2,x3,x4,x5,x6,x7] b_1.i)]),yM 736,yM 737,yM 740,yM 741,yM 742,yM 743,yM 744,yM 745,yM 746,yM 747,yM 748,yM 749,yM 750] 37111490521248826370 (.cnd (.r [] 0 .nil) (.r [] 0 .nil))))))) (.r [] 0 .nil))))))) (.r [] 0 .nil))))))) ([conV a k r,r8V x0 x1 x2 x3 x4 x5 x6 x7]) ([.bool (crsB a.length r [x0,x1,x2,x3,x4,x5,x6,x7])]) ([])=(
 1=1∧qs i64 a (qs u8 k (qs i64 r (1=1∧x0=x0∧x1=x1∧x2=x2∧x3=x3∧x4=x4∧x5=x5∧x6=x6∧x7=x7∧0=0∧0=0∧ql a (iI 0=0∧(∃(m:Nat),0=(↑m:Int)∧m
 ≤length a∧∀(j:Nat),j<m→(anyN (length a) fun(k:Int)=>crs1 (↑(length a):Int) r [x0,x1,x2,x3,x4,x5,x6,x7] (↑j:Int) k)=false)∧∀(b:L83),(fun(zz4:List Int)=>
 (∃(m:Nat),b.i=(↑m:Int)∧m≤length a∧∀(j:Nat),j<m→(anyN (length a) fun(k:Int)=>crs1 (↑(length a):Int) r [x0,x1,x2,x3,x4,x5,x6,x7] (↑j:Int) k)=false)→
 (ltb b.i (↑(length a):Int)=true→1=1∧qs i64 a (qs u8 k (qs i64 r (1=1∧x0=x0∧x1=x1∧x2=x2∧x3=x3∧x4=x4∧x5=x5∧x6=x6∧x7=x7∧0=0∧0=0∧ql a (b.i=
 b.i∧b.i=b.i∧ql a (iI 0=0∧(∃(m:Nat),0=(↑m:Int)∧m≤length a∧∀(j:Nat),j<m→crs1 (↑(length a):Int) r [x0,x1,x2,x3,x4,x5,x6,x7] b.i (↑j:Int)=false)∧∀
 (b_1:L83),(fun(zz8:Bool)=>(fun(zz7:List Int)=>(fun(zz6:Int)=>(fun(zz3:Int)=>(fun(zz5:Bool)=>(fun(zz2:Bool)=>(fun(zz1:Bool)=>(fun(zz0:Bool)=>(∃(m:
 Nat),b_1.i=(↑m:Int)∧m≤length a∧∀(j:Nat),j<m→crs1 (↑(length a):Int) r [x0,x1,x2,x3,x4,x5,x6,x7] b.i (↑j:Int)=false)→(ltb b_1.i (↑(length a):Int)=true→
 (cok a k r (length a) (length k) (length r)∧0<length a∧length a≤8∧0≤b_1.i∧b_1.i<(↑(length a):Int))∧rd i64 r b.i ((cok a k r (length a) (length k) (length r)∧0≤b_1.i∧
 b_1.i+1<(↑(length r):Int)∧length r≤9)∧(insB r (getD zz4 0 0) b_1.i=true→insB r (getD zz4 0 0) b_1.i=true)∧(insB r (getD zz4 0 0) b_1.i=true→insB r (getD zz4 0 0)
 b_1.i=true)∧(insB r (getD zz4 0 0) b_1.i=true→insB r (getD zz4 0 0) b_1.i=true)∧(insB r (getD zz4 0 0) b_1.i=true→insB r (getD zz4 0 0) b_1.i=true)∧(insB r (getD zz4 0 0)
 b_1.i=true→cok a k r (length a) (length k) (length r)∧0<length a∧length a≤8∧0≤b.i∧b.i<(↑(length a):Int)∧0≤b_1.i∧b_1.i<(↑(length a):Int))∧(bif insB r (getD
 zz4 0 0) b_1.i then insB r (getD zz4 0 0) b_1.i&&true else true)=true∧(zz8=true→true=crsB (length a) r [x0,x1,x2,x3,x4,x5,x6,x7]∧True)∧(zz8=false→((b_1.i !=b.i)=
 true→(b_1.i !=b.i)=true)∧((b_1.i !=b.i)=true→(b_1.i !=b.i)=true)∧((b_1.i !=b.i)=true→(b_1.i !=b.i)=true)∧((b_1.i !=b.i)=true→leb 0 b_1.i=true)∧((b_1.i !=
 b.i)=true→ltb b_1.i (↑(length r):Int)=true)∧((b_1.i !=b.i)=true→ltn 0 (Cont.size (Cont.ints i64 r))=true)∧((b_1.i !=b.i)=true→(b_1.i !=b.i)=true)∧((b_1.i !=b.i)
 =true→ltn 0 (Cont.size (Cont.ints i64 zz7))=true)∧((b_1.i !=b.i)=true→(b_1.i !=b.i)=true)∧((b_1.i !=b.i)=true→(b_1.i !=b.i)=true)∧((b_1.i !=b.i)=true→(b_1.i
 !=b.i)=true)∧((b_1.i !=b.i)=true→leb 0 b.i=true)∧((b_1.i !=b.i)=true→ltb b.i (↑(length r):Int)=true)∧((b_1.i !=b.i)=true→ltn 0 (Cont.size (Cont.ints i64 r))=
 true)∧((b_1.i !=b.i)=true→(b_1.i !=b.i)=true)∧((b_1.i !=b.i)=true→ltn 0 (Cont.size (Cont.ints i64 zz4))=true)∧((b_1.i !=b.i)=true→(b_1.i !=b.i)=true)∧((b_1.i
 !=b.i)=true→(b_1.i !=b.i)=true)∧(bif b_1.i !=b.i then b_1.i !=b.i&&true else true)=true∧(zz2=true→zz2=true)∧(zz2=true→zz2=true)∧(zz2=true→cok a k r
 (length a) (length k) (length r)∧0≤b_1.i∧b_1.i+1<(↑(length r):Int)∧length r≤9)∧(zz2=true→zz2=true)∧(zz2=true→zz2=true)∧(zz2=true→cok a k r (length a)
 (length k) (length r)∧0≤b.i∧b.i+1<(↑(length r):Int)∧length r≤9)∧(zz2=true→zz2=true)∧(zz2=true→zz2=true)∧(bif bif b_1.i !=b.i then getD zz7 0 0==getD zz4
 0 0 else false then zz2&&true else true)=true∧(zz1=true→zz1=true)∧(zz1=true→leb 0 zz6=true)∧(zz1=true→ltb zz6 8=true)∧(zz1=true→zz1=true)∧(zz1=true→
 [AV.int i64 x0,AV.int i64 x1,AV.int i64 x2,AV.int i64 x3,AV.int i64 x4,AV.int i64 x5,AV.int i64 x6,AV.int i64 x7][Int.toNat zz6]? =some (AV.int i64 (gR [x0,x1,x2,x3,x4,x5,x6,
 x7] zz6)))∧(zz1=true→zz1=true)∧(zz1=true→leb 0 b_1.i=true)∧(zz1=true→ltb b_1.i 8=true)∧(zz1=true→zz1=true)∧(zz1=true→[AV.int i64 x0,AV.int i64 x1,
 AV.int i64 x2,AV.int i64 x3,AV.int i64 x4,AV.int i64 x5,AV.int i64 x6,AV.int i64 x7][Int.toNat b_1.i]? =some (AV.int i64 (gR [x0,x1,x2,x3,x4,x5,x6,x7] b_1.i)))∧(zz1=true→
 zz1=true)∧(zz1=true→zz1=true)∧(zz1=true→zz1=true)∧(bif bif bif b_1.i !=b.i then getD zz7 0 0==getD zz4 0 0 else false then sidB r b_1.i==sidB r b.i else false then
 zz1&&true else true)=true∧(zz0=true→zz0=true)∧(zz0=true→zz0=true)∧(zz0=true→zz0=true)∧(zz0=true→zz0=true)∧(zz0=true→cok a k r (length a) (length k)
 (length r)∧0<length a∧length a≤8∧0≤b.i∧b.i<(↑(length a):Int)∧0≤bfI (↑(length a):Int) b_1.i∧bfI (↑(length a):Int) b_1.i<(↑(length a):Int))∧(zz0=true→zz0
 =true)∧(zz0=true→zz0=true)∧(zz0=true→zz0=true)∧(zz0=true→zz0=true)∧(zz0=true→cok a k r (length a) (length k) (length r)∧0<length a∧length a≤8∧0≤b.i
 ∧b.i<(↑(length a):Int)∧0≤b_1.i∧b_1.i<(↑(length a):Int))∧(zz0=true→zz0=true)∧(zz0=true→zz0=true)∧(bif bif bif bif b_1.i !=b.i then getD zz7 0 0==getD zz4 0
 0 else false then sidB r b_1.i==sidB r b.i else false then leb 0 zz3 else false then zz0&&true else true)=true∧(zz5=true→true=crsB (length a) r [x0,x1,x2,x3,x4,x5,x6,x7]
 ∧True)∧(zz5=false→inR i64 (b_1.i+1)=true∧1=1∧qs i64 a (qs u8 k (qs i64 r (1=1∧x0=x0∧x1=x1∧x2=x2∧x3=x3∧x4=x4∧x5=x5∧x6=x6∧x7=x7∧0=0∧0=
 0∧ql a (b.i=b.i∧b.i=b.i∧ql a (qx (b_1.i+1) ((∃(m:Nat),b_1.i+1=(↑m:Int)∧m≤length a∧∀(j:Nat),j<m→crs1 (↑(length a):Int) r [x0,x1,x2,x3,x4,x5,x6,x7]
 b.i (↑j:Int)=false)∧length a-Int.toNat (b_1.i+1)<length a-Int.toNat b_1.i∧True))))))))))∧(ltb b_1.i (↑(length a):Int)=false→inR i64 (b.i+1)=true∧1=1∧qs i64
 a (qs u8 k (qs i64 r (1=1∧x0=x0∧x1=x1∧x2=x2∧x3=x3∧x4=x4∧x5=x5∧x6=x6∧x7=x7∧0=0∧0=0∧ql a (b.i+1=b.i+1∧(∃(m:Nat),b.i+1=(↑m:Int)∧m
 ≤length a∧∀(j:Nat),j<m→(anyN (length a) fun(k:Int)=>crs1 (↑(length a):Int) r [x0,x1,x2,x3,x4,x5,x6,x7] (↑j:Int) k)=false)∧length a-Int.toNat (b.i+1)<
 length a-Int.toNat b.i∧True)))))) (bif bif bif b_1.i !=b.i then getD zz7 0 0==getD zz4 0 0 else false then sidB r b_1.i==sidB r b.i else false then leb 0 zz3 else false)) (bif bif
 b_1.i !=b.i then getD zz7 0 0==getD zz4 0 0 else false then sidB r b_1.i==sidB r b.i else false)) (bif b_1.i !=b.i then getD zz7 0 0==getD zz4 0 0 else false)) (bif bif bif bif b_1.i
 !=b.i then getD zz7 0 0==getD zz4 0 0 else false then sidB r b_1.i==sidB r b.i else false then leb 0 zz3 else false then !btwB (↑(length a):Int) [x0,x1,x2,x3,x4,x5,x6,x7] b.i
 zz6==btwB (↑(length a):Int) [x0,x1,x2,x3,x4,x5,x6,x7] b.i b_1.i else false)) (if gR [x0,x1,x2,x3,x4,x5,x6,x7] b_1.i<gR [x0,x1,x2,x3,x4,x5,x6,x7] zz6 then gR [x0,
 x1,x2,x3,x4,x5,x6,x7] b_1.i else gR [x0,x1,x2,x3,x4,x5,x6,x7] zz6)) (bfI (↑(length a):Int) b_1.i)) (drop (Int.toNat b_1.i) r)) (bif insB r (getD zz4 0 0) b_1.i then btwB
 (↑(length a):Int) [x0,x1,x2,x3,x4,x5,x6,x7] b.i b_1.i else false)))))))∧(ltb b.i (↑(length a):Int)=false→false=crsB (length a) r [x0,x1,x2,x3,x4,x5,x6,x7]∧True))
 (drop (Int.toNat b.i) r)))))):=by kernel_rfl

theorem ob_o53 (a k r:List Int)(x0 x1 x2 x3 x4 x5 x6 x7:Int):fnP (TA2) G 10000 fe30 (.r [] 0 (.r [] 1 (.lp (l53 k [x0,x1,x2,x3,x4,x5,x6,x7]) [] [] (fun b=>(.r [] 0 (.cnd (.r [] 0 (.r [] 13 (.r [yM 387,yM 388,(389,.may,Dr.val [AV.int i64 (gR [x0,x1,x2,x3,x4,x5,x6,x7] (bfI (↑(length a):Int) b.i))]),yM 390,yM 391,(392,.may,Dr.val [AV.int i64 (gR [x0,x1,x2,x3,x4,x5,x6,x7] b.i)]),yM 393,yM 394,yM 397,yM 398,yM 399,yM 400,yM 401,yM 402] 8495104 (.cnd (.r [] 0 .nil) (.r [] 0 .nil))))) (.r [] 0 .nil))))))) ([conV a k r,r8V x0 x1 x2 x3 x4 x5 x6 x7]) ([.bool (wrgB k [x0,x1,x2,x3,x4,x5,x6,x7])]) ([])=(
 1=1∧qs i64 a (qs u8 k (qs i64 r (1=1∧x0=x0∧x1=x1∧x2=x2∧x3=x3∧x4=x4∧x5=x5∧x6=x6∧x7=x7∧0=0∧0=0∧qs u8 k (ql k (iI 0=0∧(∃(m:Nat),0=(↑m:
 Int)∧m≤length k∧∀(j:Nat),j<m→wrg1 k [x0,x1,x2,x3,x4,x5,x6,x7] (↑j:Int)=false)∧∀(b:L83),(fun(zz5:List Int)=>(fun(zz4:Int)=>(fun(zz2:Int)=>(fun
 (zz3:Bool)=>(fun(zz1:Bool)=>(fun(zz0:Bool)=>(∃(m:Nat),b.i=(↑m:Int)∧m≤length k∧∀(j:Nat),j<m→wrg1 k [x0,x1,x2,x3,x4,x5,x6,x7] (↑j:Int)=false)→
 (ltb b.i (↑(length k):Int)=true→rd u8 k b.i ((cok a k r (length a) (length k) (length r)∧0<length a∧length a≤8∧0≤b.i∧b.i<(↑(length a):Int))∧(zz1=true→zz1=
 true)∧(zz1=true→leb 0 zz4=true)∧(zz1=true→ltb zz4 8=true)∧(zz1=true→zz1=true)∧(zz1=true→[AV.int i64 x0,AV.int i64 x1,AV.int i64 x2,AV.int i64 x3,AV.int i64
 x4,AV.int i64 x5,AV.int i64 x6,AV.int i64 x7][Int.toNat zz4]? =some (AV.int i64 (gR [x0,x1,x2,x3,x4,x5,x6,x7] zz4)))∧(zz1=true→zz1=true)∧(zz1=true→leb 0 b.i=true)
 ∧(zz1=true→ltb b.i 8=true)∧(zz1=true→zz1=true)∧(zz1=true→[AV.int i64 x0,AV.int i64 x1,AV.int i64 x2,AV.int i64 x3,AV.int i64 x4,AV.int i64 x5,AV.int i64 x6,AV.int
 i64 x7][Int.toNat b.i]? =some (AV.int i64 (gR [x0,x1,x2,x3,x4,x5,x6,x7] b.i)))∧(zz1=true→zz1=true)∧(zz1=true→zz1=true)∧(zz1=true→zz1=true)∧(bif getD zz5 0 0
 !=3 then getD zz5 0 0 !=3&&true else true)=true∧(zz0=true→zz0=true)∧(zz0=true→zz0=true)∧(zz0=true→zz0=true)∧(zz0=true→cok a k r (length a) (length k)
 (length r)∧0<length a∧length a≤8∧0≤b.i∧b.i<(↑(length a):Int))∧(zz0=true→zz0=true)∧(zz0=true→zz0=true)∧(bif bif getD zz5 0 0 !=3 then leb 0 zz2 else false
 then zz0&&true else true)=true∧(zz3=true→true=wrgB k [x0,x1,x2,x3,x4,x5,x6,x7]∧True)∧(zz3=false→inR i64 (b.i+1)=true∧1=1∧qs i64 a (qs u8 k (qs i64 r (1=
 1∧x0=x0∧x1=x1∧x2=x2∧x3=x3∧x4=x4∧x5=x5∧x6=x6∧x7=x7∧0=0∧0=0∧qs u8 k (ql k (b.i+1=b.i+1∧(∃(m:Nat),b.i+1=(↑m:Int)∧m≤length k∧∀
 (j:Nat),j<m→wrg1 k [x0,x1,x2,x3,x4,x5,x6,x7] (↑j:Int)=false)∧length k-Int.toNat (b.i+1)<length k-Int.toNat b.i∧True))))))))∧(ltb b.i (↑(length k):Int)=
 false→false=wrgB k [x0,x1,x2,x3,x4,x5,x6,x7]∧True)) (bif getD zz5 0 0 !=3 then leb 0 zz2 else false)) (getD zz5 0 0 !=3)) (bif bif getD zz5 0 0 !=3 then leb 0 zz2 else false
 then getD zz5 0 0 !=kdI (↑(length a):Int) [x0,x1,x2,x3,x4,x5,x6,x7] b.i else false)) (if gR [x0,x1,x2,x3,x4,x5,x6,x7] b.i<gR [x0,x1,x2,x3,x4,x5,x6,x7] zz4 then gR
 [x0,x1,x2,x3,x4,x5,x6,x7] b.i else gR [x0,x1,x2,x3,x4,x5,x6,x7] zz4)) (bfI (↑(length a):Int) b.i)) (drop (Int.toNat b.i) k))))))):=by kernel_rfl

end Go.Proofs.YthiammkiobbclaaGreat.X
