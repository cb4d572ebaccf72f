/-
 What is to be shown of the functions (made by a program).
-/
import Derived.Test.YthiammkiobbclaaD21Z
import Derived.KernelRfl
set_option maxRecDepth 1000000
set_option linter.unusedVariables false
namespace Go.Proofs.Ythiammkiobbclaa.X
open Go Go.Ab
open List IntKind

theorem ob_g59 (a k r:List Int)(i:Int):fnP (T0) G 10000 fe40 (.r [] 0 (.r [] 33 .nil)) ([conV a k r,.int .i64 i]) ([.int .i64 (mnI (gR r i) (gR r (i+1)))]) ([])=(
 rd i64 r i (inR i64 (i+1)=true∧rd i64 r (i+1) ((if getD (drop (Int.toNat (i+1)) r) 0 0<getD (drop (Int.toNat i) r) 0 0 then getD (drop (Int.toNat (i+1)) r) 0 0 else getD (drop
 (Int.toNat i) r) 0 0)=mnI (gR r i) (gR r (i+1))∧True))):=by kernel_rfl

theorem ob_g60 (a k r:List Int)(i:Int):fnP (T0) G 10000 fe41 (.r [] 0 (.r [] 33 .nil)) ([conV a k r,.int .i64 i]) ([.int .i64 (mxI (gR r i) (gR r (i+1)))]) ([])=(
 rd i64 r i (inR i64 (i+1)=true∧rd i64 r (i+1) ((if getD (drop (Int.toNat (i+1)) r) 0 0>getD (drop (Int.toNat i) r) 0 0 then getD (drop (Int.toNat (i+1)) r) 0 0 else getD (drop
 (Int.toNat i) r) 0 0)=mxI (gR r i) (gR r (i+1))∧True))):=by kernel_rfl

theorem ob_g63 (a k r:List Int)(c:Int):fnP (T0) G 10000 fe12 (.r [] 0 (.r [] 2 .nil)) ([conV a k r,.int .i64 c]) ([.int .i64 (bhI a.length c)]) ([])=(
 inR i64 (c+1)=true∧(!(↑(length a):Int)==0)=true∧Int.tmod (c+1) (↑(length a):Int)=bhI (↑(length a):Int) c∧True):=by kernel_rfl

theorem ob_g61 (a k r:List Int)(x0 x1 x2 x3 x4 x5 x6 x7 c s:Int):fnP (TR1) G 10000 fe42 (.r [] 0 (.r [(130,.auto,Dr.val [AV.int i64 (gR [x0,x1,x2,x3,x4,x5,x6,x7] c)]),(135,.auto,Dr.val [AV.int i64 (gR [x0,x1,x2,x3,x4,x5,x6,x7] (bhI (↑(length a):Int) c))])] 8 (.rs 5 [] 0 23 (.rs 9 [(202,.auto,Dr.val [AV.int i64 (gR [x0,x1,x2,x3,x4,x5,x6,x7] s)])] 24 32 (.r [(208,.auto,Dr.val [AV.int i64 (gR [x0,x1,x2,x3,x4,x5,x6,x7] s)])] 24 .nil) (.r [(208,.auto,Dr.val [AV.int i64 (gR [x0,x1,x2,x3,x4,x5,x6,x7] s)])] 3 .nil)) (.r [(202,.auto,Dr.val [AV.int i64 (gR [x0,x1,x2,x3,x4,x5,x6,x7] s)]),(208,.auto,Dr.val [AV.int i64 (gR [x0,x1,x2,x3,x4,x5,x6,x7] s)])] 15 .nil)))) ([conV a k r,r32V x0 x1 x2 x3 x4 x5 x6 x7,.int .i64 c,.int .i64 s]) ([.bool (btwB a.length [x0,x1,x2,x3,x4,x5,x6,x7] (bhI a.length c) s)]) ([])=(
 (fun(zz1:Int)=>(fun(zz0:Int)=>leb 0 c=true∧ltb c 32=true∧[AV.int i64 x0,AV.int i64 x1,AV.int i64 x2,AV.int i64 x3,AV.int i64 x4,AV.int i64 x5,AV.int i64 x6,AV.int
 i64 x7,AV.int i64 (-1),AV.int i64 (-1),AV.int i64 (-1),AV.int i64 (-1),AV.int i64 (-1),AV.int i64 (-1),AV.int i64 (-1),AV.int i64 (-1),AV.int i64 (-1),AV.int i64 (-1),AV.int i64
 (-1),AV.int i64 (-1),AV.int i64 (-1),AV.int i64 (-1),AV.int i64 (-1),AV.int i64 (-1),AV.int i64 (-1),AV.int i64 (-1),AV.int i64 (-1),AV.int i64 (-1),AV.int i64 (-1),AV.int i64
 (-1),AV.int i64 (-1),AV.int i64 (-1)][Int.toNat c]? =some (AV.int i64 (gR [x0,x1,x2,x3,x4,x5,x6,x7] c))∧(cok a k r (length a) (length k) (length r)∧0<length a∧length a≤8
 ∧0≤c∧c<(↑(length a):Int))∧leb 0 (bhI (↑(length a):Int) c)=true∧ltb (bhI (↑(length a):Int) c) 32=true∧[AV.int i64 x0,AV.int i64 x1,AV.int i64 x2,AV.int i64 x3,
 AV.int i64 x4,AV.int i64 x5,AV.int i64 x6,AV.int i64 x7,AV.int i64 (-1),AV.int i64 (-1),AV.int i64 (-1),AV.int i64 (-1),AV.int i64 (-1),AV.int i64 (-1),AV.int i64 (-1),AV.int i64
 (-1),AV.int i64 (-1),AV.int i64 (-1),AV.int i64 (-1),AV.int i64 (-1),AV.int i64 (-1),AV.int i64 (-1),AV.int i64 (-1),AV.int i64 (-1),AV.int i64 (-1),AV.int i64 (-1),AV.int i64
 (-1),AV.int i64 (-1),AV.int i64 (-1),AV.int i64 (-1),AV.int i64 (-1),AV.int i64 (-1)][Int.toNat (bhI (↑(length a):Int) c)]? =some (AV.int i64 (gR [x0,x1,x2,x3,x4,x5,x6,x7]
 (bhI (↑(length a):Int) c)))∧(leb 0 zz0=true→leb 0 s=true∧ltb s 32=true∧[AV.int i64 x0,AV.int i64 x1,AV.int i64 x2,AV.int i64 x3,AV.int i64 x4,AV.int i64 x5,AV.int i64
 x6,AV.int i64 x7,AV.int i64 (-1),AV.int i64 (-1),AV.int i64 (-1),AV.int i64 (-1),AV.int i64 (-1),AV.int i64 (-1),AV.int i64 (-1),AV.int i64 (-1),AV.int i64 (-1),AV.int i64 (-1),
 AV.int i64 (-1),AV.int i64 (-1),AV.int i64 (-1),AV.int i64 (-1),AV.int i64 (-1),AV.int i64 (-1),AV.int i64 (-1),AV.int i64 (-1),AV.int i64 (-1),AV.int i64 (-1),AV.int i64 (-1),
 AV.int i64 (-1),AV.int i64 (-1),AV.int i64 (-1)][Int.toNat s]? =some (AV.int i64 zz1)∧(ltb zz0 zz1=true→leb 0 s=true∧ltb s 32=true∧[AV.int i64 x0,AV.int i64 x1,AV.int i64
 x2,AV.int i64 x3,AV.int i64 x4,AV.int i64 x5,AV.int i64 x6,AV.int i64 x7,AV.int i64 (-1),AV.int i64 (-1),AV.int i64 (-1),AV.int i64 (-1),AV.int i64 (-1),AV.int i64 (-1),AV.int
 i64 (-1),AV.int i64 (-1),AV.int i64 (-1),AV.int i64 (-1),AV.int i64 (-1),AV.int i64 (-1),AV.int i64 (-1),AV.int i64 (-1),AV.int i64 (-1),AV.int i64 (-1),AV.int i64 (-1),AV.int i64
 (-1),AV.int i64 (-1),AV.int i64 (-1),AV.int i64 (-1),AV.int i64 (-1),AV.int i64 (-1),AV.int i64 (-1)][Int.toNat s]? =some (AV.int i64 zz1)∧ltb zz1 (if gR [x0,x1,x2,x3,x4,x5,
 x6,x7] (bhI (↑(length a):Int) c)>gR [x0,x1,x2,x3,x4,x5,x6,x7] c then gR [x0,x1,x2,x3,x4,x5,x6,x7] (bhI (↑(length a):Int) c)else gR [x0,x1,x2,x3,x4,x5,x6,x7] c)=
 btwB (↑(length a):Int) [x0,x1,x2,x3,x4,x5,x6,x7] (bhI (↑(length a):Int) c) s∧True)∧(ltb zz0 zz1=false→false=btwB (↑(length a):Int) [x0,x1,x2,x3,x4,x5,x6,x7]
 (bhI (↑(length a):Int) c) s∧True))∧(leb 0 zz0=false→false=btwB (↑(length a):Int) [x0,x1,x2,x3,x4,x5,x6,x7] (bhI (↑(length a):Int) c) s∧True)) (if gR [x0,x1,x2,x3,
 x4,x5,x6,x7] (bhI (↑(length a):Int) c)<gR [x0,x1,x2,x3,x4,x5,x6,x7] c then gR [x0,x1,x2,x3,x4,x5,x6,x7] (bhI (↑(length a):Int) c)else gR [x0,x1,x2,x3,x4,x5,x6,
 x7] c)) (gR [x0,x1,x2,x3,x4,x5,x6,x7] s)):=by kernel_rfl

theorem ob_g64 (a k r:List Int)(x0 x1 x2 x3 x4 x5 x6 x7 c:Int):fnP (TR1) G 10000 fe44 (.r [] 0 (.r [] 1 (.br (Int.tmod (bhI (↑(length a):Int) c) 2==0) (.r [] 1 (.tt (.r [] 0 (.r [(322,.auto,Dr.val [AV.int i64 (gR [x0,x1,x2,x3,x4,x5,x6,x7] c)]),(325,.auto,Dr.val [AV.int i64 (gR [x0,x1,x2,x3,x4,x5,x6,x7] (bhI (↑(length a):Int) c))])] 0 (.cnd (.r [] 0 .nil) (.r [] 0 .nil)))))) (.r [] 1 (.ff (.r [(322,.auto,Dr.val [AV.int i64 (gR [x0,x1,x2,x3,x4,x5,x6,x7] (bhI (↑(length a):Int) c))]),(325,.auto,Dr.val [AV.int i64 (gR [x0,x1,x2,x3,x4,x5,x6,x7] c)])] 0 (.cnd (.r [] 0 .nil) (.r [] 0 .nil)))))))) ([conV a k r,r32V x0 x1 x2 x3 x4 x5 x6 x7,.int .i64 c]) ([.int .u8 (kdI a.length [x0,x1,x2,x3,x4,x5,x6,x7] (bhI a.length c))]) ([])=(
 (fun(zz2:Bool)=>(fun(zz1:Int)=>(fun(zz0:Int)=>(cok a k r (length a) (length k) (length r)∧0<length a∧length a≤8∧0≤c∧c<(↑(length a):Int))∧(zz2=true→zz2
 =true∧leb 0 c=true∧ltb c 32=true∧[AV.int i64 x0,AV.int i64 x1,AV.int i64 x2,AV.int i64 x3,AV.int i64 x4,AV.int i64 x5,AV.int i64 x6,AV.int i64 x7,AV.int i64 (-1),AV.int
 i64 (-1),AV.int i64 (-1),AV.int i64 (-1),AV.int i64 (-1),AV.int i64 (-1),AV.int i64 (-1),AV.int i64 (-1),AV.int i64 (-1),AV.int i64 (-1),AV.int i64 (-1),AV.int i64 (-1),AV.int i64
 (-1),AV.int i64 (-1),AV.int i64 (-1),AV.int i64 (-1),AV.int i64 (-1),AV.int i64 (-1),AV.int i64 (-1),AV.int i64 (-1),AV.int i64 (-1),AV.int i64 (-1),AV.int i64 (-1),AV.int i64
 (-1)][Int.toNat c]? =some (AV.int i64 zz1)∧leb 0 (bhI (↑(length a):Int) c)=true∧ltb (bhI (↑(length a):Int) c) 32=true∧[AV.int i64 x0,AV.int i64 x1,AV.int i64 x2,AV.int i64
 x3,AV.int i64 x4,AV.int i64 x5,AV.int i64 x6,AV.int i64 x7,AV.int i64 (-1),AV.int i64 (-1),AV.int i64 (-1),AV.int i64 (-1),AV.int i64 (-1),AV.int i64 (-1),AV.int i64 (-1),AV.int
 i64 (-1),AV.int i64 (-1),AV.int i64 (-1),AV.int i64 (-1),AV.int i64 (-1),AV.int i64 (-1),AV.int i64 (-1),AV.int i64 (-1),AV.int i64 (-1),AV.int i64 (-1),AV.int i64 (-1),AV.int i64
 (-1),AV.int i64 (-1),AV.int i64 (-1),AV.int i64 (-1),AV.int i64 (-1),AV.int i64 (-1)][Int.toNat (bhI (↑(length a):Int) c)]? =some (AV.int i64 zz0)∧(ltb zz0 zz1=true→2=kdI
 (↑(length a):Int) [x0,x1,x2,x3,x4,x5,x6,x7] (bhI (↑(length a):Int) c)∧True)∧(ltb zz0 zz1=false→1=kdI (↑(length a):Int) [x0,x1,x2,x3,x4,x5,x6,x7] (bhI (↑(length
 a):Int) c)∧True))∧(zz2=false→zz2=false∧leb 0 (bhI (↑(length a):Int) c)=true∧ltb (bhI (↑(length a):Int) c) 32=true∧[AV.int i64 x0,AV.int i64 x1,AV.int i64 x2,
 AV.int i64 x3,AV.int i64 x4,AV.int i64 x5,AV.int i64 x6,AV.int i64 x7,AV.int i64 (-1),AV.int i64 (-1),AV.int i64 (-1),AV.int i64 (-1),AV.int i64 (-1),AV.int i64 (-1),AV.int i64
 (-1),AV.int i64 (-1),AV.int i64 (-1),AV.int i64 (-1),AV.int i64 (-1),AV.int i64 (-1),AV.int i64 (-1),AV.int i64 (-1),AV.int i64 (-1),AV.int i64 (-1),AV.int i64 (-1),AV.int i64
 (-1),AV.int i64 (-1),AV.int i64 (-1),AV.int i64 (-1),AV.int i64 (-1),AV.int i64 (-1),AV.int i64 (-1)][Int.toNat (bhI (↑(length a):Int) c)]? =some (AV.int i64 zz0)∧leb 0 c=true∧
 ltb c 32=true∧[AV.int i64 x0,AV.int i64 x1,AV.int i64 x2,AV.int i64 x3,AV.int i64 x4,AV.int i64 x5,AV.int i64 x6,AV.int i64 x7,AV.int i64 (-1),AV.int i64 (-1),AV.int i64 (-1),
 AV.int i64 (-1),AV.int i64 (-1),AV.int i64 (-1),AV.int i64 (-1),AV.int i64 (-1),AV.int i64 (-1),AV.int i64 (-1),AV.int i64 (-1),AV.int i64 (-1),AV.int i64 (-1),AV.int i64 (-1),
 AV.int i64 (-1),AV.int i64 (-1),AV.int i64 (-1),AV.int i64 (-1),AV.int i64 (-1),AV.int i64 (-1),AV.int i64 (-1),AV.int i64 (-1),AV.int i64 (-1),AV.int i64 (-1)][Int.toNat c]? =some
 (AV.int i64 zz1)∧(ltb zz1 zz0=true→2=kdI (↑(length a):Int) [x0,x1,x2,x3,x4,x5,x6,x7] (bhI (↑(length a):Int) c)∧True)∧(ltb zz1 zz0=false→1=kdI (↑(length a):Int)
 [x0,x1,x2,x3,x4,x5,x6,x7] (bhI (↑(length a):Int) c)∧True))) (gR [x0,x1,x2,x3,x4,x5,x6,x7] (bhI (↑(length a):Int) c))) (gR [x0,x1,x2,x3,x4,x5,x6,x7] c)) (Int.tmod
 (bhI (↑(length a):Int) c) 2==0)):=by kernel_rfl

theorem ob_g39 (o:List Int):fnP (T0) G 10000 fe25 (.r [] 0 (.r [] 0 (.r [] 0 (.un (.r [] 0 (.lit (.r [] 0 (.r [] 7 (.r [] 1 (.un (.r [] 0 (.lit (.r [] 0 (.r [] 7 (.r [] 1 (.un (.r [] 0 (.lit (.r [] 0 (.r [] 7 (.r [] 1 (.un (.r [] 0 (.lit (.r [] 0 (.r [] 7 (.r [] 1 (.un (.r [] 0 (.lit (.r [] 0 (.r [] 7 (.r [] 1 (.un (.r [] 0 (.lit (.r [] 0 (.r [] 7 (.r [] 1 (.un (.r [] 0 (.lit (.r [] 0 (.r [] 7 (.r [] 1 (.un (.r [] 0 (.lit (.r [] 0 (.r [] 7 (.r [] 1 (.un (.r [] 0 (.lit (.r [] 0 (.r [] 7 (.r [] 1 (.un (.r [] 0 (.lit (.r [] 0 (.r [] 7 (.r [] 1 (.un (.r [] 0 (.lit (.r [] 0 (.r [] 7 (.r [] 1 (.un (.r [] 0 (.lit (.r [] 0 (.r [] 7 (.r [] 1 (.un (.r [] 0 (.lit (.r [] 0 (.r [] 7 (.r [] 1 (.un (.r [] 0 (.lit (.r [] 0 (.r [] 7 (.r [] 1 (.un (.r [] 0 (.lit (.r [] 0 (.r [] 7 (.r [] 1 (.un (.r [] 0 (.lit (.r [] 0 (.r [] 7 (.r [] 1 (.un (.r [] 0 (.lit (.r [] 0 (.r [] 7 (.r [] 1 (.un (.r [] 0 (.lit (.r [] 0 (.r [] 7 (.r [] 1 (.un (.r [] 0 (.lit (.r [] 0 (.r [] 7 (.r [] 1 (.un (.r [] 0 (.lit (.r [] 0 (.r [] 7 (.r [] 1 (.un (.r [] 0 (.lit (.r [] 0 (.r [] 7 (.r [] 1 (.un (.r [] 0 (.lit (.r [] 0 (.r [] 7 (.r [] 1 (.un (.r [] 0 (.lit (.r [] 0 (.r [] 7 (.r [] 1 (.un (.r [] 0 (.lit (.r [] 0 (.r [] 7 (.r [] 1 (.un (.r [] 0 (.lit (.r [] 0 (.r [] 7 (.r [] 1 (.un (.r [] 0 (.lit (.r [] 0 (.r [] 7 (.r [] 1 (.un (.r [] 0 (.lit (.r [] 0 (.r [] 7 (.r [] 1 (.un (.r [] 0 (.lit (.r [] 0 (.r [] 7 (.r [] 1 (.un (.r [] 0 (.lit (.r [] 0 (.r [] 7 (.r [] 1 (.un (.r [] 0 (.lit (.r [] 0 (.r [] 7 (.r [] 1 (.un (.r [] 0 (.lit (.r [] 0 (.r [] 7 (.r [] 1 (.un (.r [] 0 (.lit (.r [] 0 (.r [] 7 (.r [] 1 (.un (.r [] 0 (.lit (.r [] 0 (.lp (l39 o) [] [] (fun b=>(.r [] 0 (.cnd (.r [] 0 (.r [] 0 (.r [] 0 .nil))) (.r [] 2 .nil)))))))))))))))))))))))))))))))))))))))))))))))))))))))))))))))))))))))))))))))))))))))))))))))))))))))))))))))))))))))))))))))))))))))))))))))))))))))))))))))))))))))))))))))))))))))))))))))))))))))))))) ([.imm (.ints .i64 o) o.length none]) ([rk32 o]) ([])=(
 32=32∧iL [0,0,0,0,0,0,0,0,0,0,0,0,0,0,0,0,0,0,0,0,0,0,0,0,0,0,0,0,0,0,0,0]=[0,0,0,0,0,0,0,0,0,0,0,0,0,0,0,0,0,0,0,0,0,0,0,0,0,0,
 0,0,0,0,0,0]∧32=32∧iL [-1,-1,-1,-1,-1,-1,-1,-1,-1,-1,-1,-1,-1,-1,-1,-1,-1,-1,-1,-1,-1,-1,-1,-1,-1,-1,-1,-1,-1,-1,-1,-1]=[-1,-1,-1,-1,-1,-1,
 -1,-1,-1,-1,-1,-1,-1,-1,-1,-1,-1,-1,-1,-1,-1,-1,-1,-1,-1,-1,-1,-1,-1,-1,-1,-1]∧0=0∧0=0∧false=false∧qs i64 o (ql o (iI 0=0∧(∃(m:Nat),0=(↑m:
 Int)∧m≤length o∧32=32∧rkA [-1,-1,-1,-1,-1,-1,-1,-1,-1,-1,-1,-1,-1,-1,-1,-1,-1,-1,-1,-1,-1,-1,-1,-1,-1,-1,-1,-1,-1,-1,-1,-1] (↑m:Int) (drop m o)=
 rkG o)∧∀(b:L39),(fun(u0:Int)=>(∃(m:Nat),b.i=(↑m:Int)∧m≤length o∧length b.rk=32∧rkA b.rk (↑m:Int) (drop m o)=rkG o)→(ltb b.i (↑(length o):Int)=true→rd
 i64 o b.i (leb 0 u0=true∧ltb u0 32=true∧len' (Int.toNat u0+1) (Cont.size (Cont.ints i64 b.rk))=true∧inR i64 (b.i+1)=true∧32=32∧iL [0,0,0,0,0,0,0,0,0,0,0,0,
 0,0,0,0,0,0,0,0,0,0,0,0,0,0,0,0,0,0,0,0]=[0,0,0,0,0,0,0,0,0,0,0,0,0,0,0,0,0,0,0,0,0,0,0,0,0,0,0,0,0,0,0,0]∧32=32∧qx (set b.rk
 (Int.toNat u0) b.i) (0=0∧0=0∧false=false∧qs i64 o (ql o (b.i+1=b.i+1∧(∃(m:Nat),b.i+1=(↑m:Int)∧m≤length o∧length (set b.rk (Int.toNat u0) b.i)=32∧rkA
 (set b.rk (Int.toNat u0) b.i) (↑m:Int) (drop m o)=rkG o)∧length o-Int.toNat (b.i+1)<length o-Int.toNat b.i∧True)))))∧(ltb b.i (↑(length o):Int)=false→len' 32
 (Cont.size (Cont.ints i64 b.rk))=true∧getD [getD b.rk 0 0,getD b.rk 1 0,getD b.rk 2 0,getD b.rk 3 0,getD b.rk 4 0,getD b.rk 5 0,getD b.rk 6 0,getD b.rk 7 0,getD b.rk 8 0,getD
 b.rk 9 0,getD b.rk 10 0,getD b.rk 11 0,getD b.rk 12 0,getD b.rk 13 0,getD b.rk 14 0,getD b.rk 15 0,getD b.rk 16 0,getD b.rk 17 0,getD b.rk 18 0,getD b.rk 19 0,getD b.rk 20 0,getD
 b.rk 21 0,getD b.rk 22 0,getD b.rk 23 0,getD b.rk 24 0,getD b.rk 25 0,getD b.rk 26 0,getD b.rk 27 0,getD b.rk 28 0,getD b.rk 29 0,getD b.rk 30 0,getD b.rk 31 0] 0 0=rkO o 0∧
 getD [getD b.rk 0 0,getD b.rk 1 0,getD b.rk 2 0,getD b.rk 3 0,getD b.rk 4 0,getD b.rk 5 0,getD b.rk 6 0,getD b.rk 7 0,getD b.rk 8 0,getD b.rk 9 0,getD b.rk 10 0,getD b.rk 11 0,
 getD b.rk 12 0,getD b.rk 13 0,getD b.rk 14 0,getD b.rk 15 0,getD b.rk 16 0,getD b.rk 17 0,getD b.rk 18 0,getD b.rk 19 0,getD b.rk 20 0,getD b.rk 21 0,getD b.rk 22 0,getD b.rk 23
 0,getD b.rk 24 0,getD b.rk 25 0,getD b.rk 26 0,getD b.rk 27 0,getD b.rk 28 0,getD b.rk 29 0,getD b.rk 30 0,getD b.rk 31 0] 1 0=rkO o 1∧getD [getD b.rk 0 0,getD b.rk 1 0,getD
 b.rk 2 0,getD b.rk 3 0,getD b.rk 4 0,getD b.rk 5 0,getD b.rk 6 0,getD b.rk 7 0,getD b.rk 8 0,getD b.rk 9 0,getD b.rk 10 0,getD b.rk 11 0,getD b.rk 12 0,getD b.rk 13 0,getD b.rk
 14 0,getD b.rk 15 0,getD b.rk 16 0,getD b.rk 17 0,getD b.rk 18 0,getD b.rk 19 0,getD b.rk 20 0,getD b.rk 21 0,getD b.rk 22 0,getD b.rk 23 0,getD b.rk 24 0,getD b.rk 25 0,getD
 b.rk 26 0,getD b.rk 27 0,getD b.rk 28 0,getD b.rk 29 0,getD b.rk 30 0,getD b.rk 31 0] 2 0=rkO o 2∧getD [getD b.rk 0 0,getD b.rk 1 0,getD b.rk 2 0,getD b.rk 3 0,getD b.rk 4 0,
 getD b.rk 5 0,getD b.rk 6 0,getD b.rk 7 0,getD b.rk 8 0,getD b.rk 9 0,getD b.rk 10 0,getD b.rk 11 0,getD b.rk 12 0,getD b.rk 13 0,getD b.rk 14 0,getD b.rk 15 0,getD b.rk 16 0,
 getD b.rk 17 0,getD b.rk 18 0,getD b.rk 19 0,getD b.rk 20 0,getD b.rk 21 0,getD b.rk 22 0,getD b.rk 23 0,getD b.rk 24 0,getD b.rk 25 0,getD b.rk 26 0,getD b.rk 27 0,getD b.rk 28
 0,getD b.rk 29 0,getD b.rk 30 0,getD b.rk 31 0] 3 0=rkO o 3∧getD [getD b.rk 0 0,getD b.rk 1 0,getD b.rk 2 0,getD b.rk 3 0,getD b.rk 4 0,getD b.rk 5 0,getD b.rk 6 0,getD b.rk 7
 0,getD b.rk 8 0,getD b.rk 9 0,getD b.rk 10 0,getD b.rk 11 0,getD b.rk 12 0,getD b.rk 13 0,getD b.rk 14 0,getD b.rk 15 0,getD b.rk 16 0,getD b.rk 17 0,getD b.rk 18 0,getD b.rk 19
 0,getD b.rk 20 0,getD b.rk 21 0,getD b.rk 22 0,getD b.rk 23 0,getD b.rk 24 0,getD b.rk 25 0,getD b.rk 26 0,getD b.rk 27 0,getD b.rk 28 0,getD b.rk 29 0,getD b.rk 30 0,getD b.rk
 31 0] 4 0=rkO o 4∧getD [getD b.rk 0 0,getD b.rk 1 0,getD b.rk 2 0,getD b.rk 3 0,getD b.rk 4 0,getD b.rk 5 0,getD b.rk 6 0,getD b.rk 7 0,getD b.rk 8 0,getD b.rk 9 0,getD b.rk 10
 0,getD b.rk 11 0,getD b.rk 12 0,getD b.rk 13 0,getD b.rk 14 0,getD b.rk 15 0,getD b.rk 16 0,getD b.rk 17 0,getD b.rk 18 0,getD b.rk 19 0,getD b.rk 20 0,getD b.rk 21 0,getD b.rk
 22 0,getD b.rk 23 0,getD b.rk 24 0,getD b.rk 25 0,getD b.rk 26 0,getD b.rk 27 0,getD b.rk 28 0,getD b.rk 29 0,getD b.rk 30 0,getD b.rk 31 0] 5 0=rkO o 5∧getD [getD b.rk 0 0,
 getD b.rk 1 0,getD b.rk 2 0,getD b.rk 3 0,getD b.rk 4 0,getD b.rk 5 0,getD b.rk 6 0,getD b.rk 7 0,getD b.rk 8 0,getD b.rk 9 0,getD b.rk 10 0,getD b.rk 11 0,getD b.rk 12 0,getD
 b.rk 13 0,getD b.rk 14 0,getD b.rk 15 0,getD b.rk 16 0,getD b.rk 17 0,getD b.rk 18 0,getD b.rk 19 0,getD b.rk 20 0,getD b.rk 21 0,getD b.rk 22 0,getD b.rk 23 0,getD b.rk 24 0,
 getD b.rk 25 0,getD b.rk 26 0,getD b.rk 27 0,getD b.rk 28 0,getD b.rk 29 0,getD b.rk 30 0,getD b.rk 31 0] 6 0=rkO o 6∧getD [getD b.rk 0 0,getD b.rk 1 0,getD b.rk 2 0,getD b.rk 3
 0,getD b.rk 4 0,getD b.rk 5 0,getD b.rk 6 0,getD b.rk 7 0,getD b.rk 8 0,getD b.rk 9 0,getD b.rk 10 0,getD b.rk 11 0,getD b.rk 12 0,getD b.rk 13 0,getD b.rk 14 0,getD b.rk 15 0,
 getD b.rk 16 0,getD b.rk 17 0,getD b.rk 18 0,getD b.rk 19 0,getD b.rk 20 0,getD b.rk 21 0,getD b.rk 22 0,getD b.rk 23 0,getD b.rk 24 0,getD b.rk 25 0,getD b.rk 26 0,getD b.rk 27
 0,getD b.rk 28 0,getD b.rk 29 0,getD b.rk 30 0,getD b.rk 31 0] 7 0=rkO o 7∧getD [getD b.rk 0 0,getD b.rk 1 0,getD b.rk 2 0,getD b.rk 3 0,getD b.rk 4 0,getD b.rk 5 0,getD b.rk 6
 0,getD b.rk 7 0,getD b.rk 8 0,getD b.rk 9 0,getD b.rk 10 0,getD b.rk 11 0,getD b.rk 12 0,getD b.rk 13 0,getD b.rk 14 0,getD b.rk 15 0,getD b.rk 16 0,getD b.rk 17 0,getD b.rk 18
 0,getD b.rk 19 0,getD b.rk 20 0,getD b.rk 21 0,getD b.rk 22 0,getD b.rk 23 0,getD b.rk 24 0,getD b.rk 25 0,getD b.rk 26 0,getD b.rk 27 0,getD b.rk 28 0,getD b.rk 29 0,getD b.rk
 30 0,getD b.rk 31 0] 8 0= -1∧getD [getD b.rk 0 0,getD b.rk 1 0,getD b.rk 2 0,getD b.rk 3 0,getD b.rk 4 0,getD b.rk 5 0,getD b.rk 6 0,getD b.rk 7 0,getD b.rk 8 0,getD b.rk 9 0,
 getD b.rk 10 0,getD b.rk 11 0,getD b.rk 12 0,getD b.rk 13 0,getD b.rk 14 0,getD b.rk 15 0,getD b.rk 16 0,getD b.rk 17 0,getD b.rk 18 0,getD b.rk 19 0,getD b.rk 20 0,getD b.rk 21
 0,getD b.rk 22 0,getD b.rk 23 0,getD b.rk 24 0,getD b.rk 25 0,getD b.rk 26 0,getD b.rk 27 0,getD b.rk 28 0,getD b.rk 29 0,getD b.rk 30 0,getD b.rk 31 0] 9 0= -1∧getD [getD b.rk
 0 0,getD b.rk 1 0,getD b.rk 2 0,getD b.rk 3 0,getD b.rk 4 0,getD b.rk 5 0,getD b.rk 6 0,getD b.rk 7 0,getD b.rk 8 0,getD b.rk 9 0,getD b.rk 10 0,getD b.rk 11 0,getD b.rk 12 0,
 getD b.rk 13 0,getD b.rk 14 0,getD b.rk 15 0,getD b.rk 16 0,getD b.rk 17 0,getD b.rk 18 0,getD b.rk 19 0,getD b.rk 20 0,getD b.rk 21 0,getD b.rk 22 0,getD b.rk 23 0,getD b.rk 24
 0,getD b.rk 25 0,getD b.rk 26 0,getD b.rk 27 0,getD b.rk 28 0,getD b.rk 29 0,getD b.rk 30 0,getD b.rk 31 0] 10 0= -1∧getD [getD b.rk 0 0,getD b.rk 1 0,getD b.rk 2 0,getD b.rk 3
 0,getD b.rk 4 0,getD b.rk 5 0,getD b.rk 6 0,getD b.rk 7 0,getD b.rk 8 0,getD b.rk 9 0,getD b.rk 10 0,getD b.rk 11 0,getD b.rk 12 0,getD b.rk 13 0,getD b.rk 14 0,getD b.rk 15 0,
 getD b.rk 16 0,getD b.rk 17 0,getD b.rk 18 0,getD b.rk 19 0,getD b.rk 20 0,getD b.rk 21 0,getD b.rk 22 0,getD b.rk 23 0,getD b.rk 24 0,getD b.rk 25 0,getD b.rk 26 0,getD b.rk 27
 0,getD b.rk 28 0,getD b.rk 29 0,getD b.rk 30 0,getD b.rk 31 0] 11 0= -1∧getD [getD b.rk 0 0,getD b.rk 1 0,getD b.rk 2 0,getD b.rk 3 0,getD b.rk 4 0,getD b.rk 5 0,getD b.rk 6 0,
 getD b.rk 7 0,getD b.rk 8 0,getD b.rk 9 0,getD b.rk 10 0,getD b.rk 11 0,getD b.rk 12 0,getD b.rk 13 0,getD b.rk 14 0,getD b.rk 15 0,getD b.rk 16 0,getD b.rk 17 0,getD b.rk 18 0,
 getD b.rk 19 0,getD b.rk 20 0,getD b.rk 21 0,getD b.rk 22 0,getD b.rk 23 0,getD b.rk 24 0,getD b.rk 25 0,getD b.rk 26 0,getD b.rk 27 0,getD b.rk 28 0,getD b.rk 29 0,getD b.rk 30
 0,getD b.rk 31 0] 12 0= -1∧getD [getD b.rk 0 0,getD b.rk 1 0,getD b.rk 2 0,getD b.rk 3 0,getD b.rk 4 0,getD b.rk 5 0,getD b.rk 6 0,getD b.rk 7 0,getD b.rk 8 0,getD b.rk 9 0,
 getD b.rk 10 0,getD b.rk 11 0,getD b.rk 12 0,getD b.rk 13 0,getD b.rk 14 0,getD b.rk 15 0,getD b.rk 16 0,getD b.rk 17 0,getD b.rk 18 0,getD b.rk 19 0,getD b.rk 20 0,getD b.rk 21
 0,getD b.rk 22 0,getD b.rk 23 0,getD b.rk 24 0,getD b.rk 25 0,getD b.rk 26 0,getD b.rk 27 0,getD b.rk 28 0,getD b.rk 29 0,getD b.rk 30 0,getD b.rk 31 0] 13 0= -1∧getD [getD b.rk
 0 0,getD b.rk 1 0,getD b.rk 2 0,getD b.rk 3 0,getD b.rk 4 0,getD b.rk 5 0,getD b.rk 6 0,getD b.rk 7 0,getD b.rk 8 0,getD b.rk 9 0,getD b.rk 10 0,getD b.rk 11 0,getD b.rk 12 0,
 getD b.rk 13 0,getD b.rk 14 0,getD b.rk 15 0,getD b.rk 16 0,getD b.rk 17 0,getD b.rk 18 0,getD b.rk 19 0,getD b.rk 20 0,getD b.rk 21 0,getD b.rk 22 0,getD b.rk 23 0,getD b.rk 24
 0,getD b.rk 25 0,getD b.rk 26 0,getD b.rk 27 0,getD b.rk 28 0,getD b.rk 29 0,getD b.rk 30 0,getD b.rk 31 0] 14 0= -1∧getD [getD b.rk 0 0,getD b.rk 1 0,getD b.rk 2 0,getD b.rk 3
 0,getD b.rk 4 0,getD b.rk 5 0,getD b.rk 6 0,getD b.rk 7 0,getD b.rk 8 0,getD b.rk 9 0,getD b.rk 10 0,getD b.rk 11 0,getD b.rk 12 0,getD b.rk 13 0,getD b.rk 14 0,getD b.rk 15 0,
 getD b.rk 16 0,getD b.rk 17 0,getD b.rk 18 0,getD b.rk 19 0,getD b.rk 20 0,getD b.rk 21 0,getD b.rk 22 0,getD b.rk 23 0,getD b.rk 24 0,getD b.rk 25 0,getD b.rk 26 0,getD b.rk 27
 0,getD b.rk 28 0,getD b.rk 29 0,getD b.rk 30 0,getD b.rk 31 0] 15 0= -1∧getD [getD b.rk 0 0,getD b.rk 1 0,getD b.rk 2 0,getD b.rk 3 0,getD b.rk 4 0,getD b.rk 5 0,getD b.rk 6 0,
 getD b.rk 7 0,getD b.rk 8 0,getD b.rk 9 0,getD b.rk 10 0,getD b.rk 11 0,getD b.rk 12 0,getD b.rk 13 0,getD b.rk 14 0,getD b.rk 15 0,getD b.rk 16 0,getD b.rk 17 0,getD b.rk 18 0,
 getD b.rk 19 0,getD b.rk 20 0,getD b.rk 21 0,getD b.rk 22 0,getD b.rk 23 0,getD b.rk 24 0,getD b.rk 25 0,getD b.rk 26 0,getD b.rk 27 0,getD b.rk 28 0,getD b.rk 29 0,getD b.rk 30
 0,getD b.rk 31 0] 16 0= -1∧getD [getD b.rk 0 0,getD b.rk 1 0,getD b.rk 2 0,getD b.rk 3 0,getD b.rk 4 0,getD b.rk 5 0,getD b.rk 6 0,getD b.rk 7 0,getD b.rk 8 0,getD b.rk 9 0,
 getD b.rk 10 0,getD b.rk 11 0,getD b.rk 12 0,getD b.rk 13 0,getD b.rk 14 0,getD b.rk 15 0,getD b.rk 16 0,getD b.rk 17 0,getD b.rk 18 0,getD b.rk 19 0,getD b.rk 20 0,getD b.rk 21
 0,getD b.rk 22 0,getD b.rk 23 0,getD b.rk 24 0,getD b.rk 25 0,getD b.rk 26 0,getD b.rk 27 0,getD b.rk 28 0,getD b.rk 29 0,getD b.rk 30 0,getD b.rk 31 0] 17 0= -1∧getD [getD b.rk
 0 0,getD b.rk 1 0,getD b.rk 2 0,getD b.rk 3 0,getD b.rk 4 0,getD b.rk 5 0,getD b.rk 6 0,getD b.rk 7 0,getD b.rk 8 0,getD b.rk 9 0,getD b.rk 10 0,getD b.rk 11 0,getD b.rk 12 0,
 getD b.rk 13 0,getD b.rk 14 0,getD b.rk 15 0,getD b.rk 16 0,getD b.rk 17 0,getD b.rk 18 0,getD b.rk 19 0,getD b.rk 20 0,getD b.rk 21 0,getD b.rk 22 0,getD b.rk 23 0,getD b.rk 24
 0,getD b.rk 25 0,getD b.rk 26 0,getD b.rk 27 0,getD b.rk 28 0,getD b.rk 29 0,getD b.rk 30 0,getD b.rk 31 0] 18 0= -1∧getD [getD b.rk 0 0,getD b.rk 1 0,getD b.rk 2 0,getD b.rk 3
 0,getD b.rk 4 0,getD b.rk 5 0,getD b.rk 6 0,getD b.rk 7 0,getD b.rk 8 0,getD b.rk 9 0,getD b.rk 10 0,getD b.rk 11 0,getD b.rk 12 0,getD b.rk 13 0,getD b.rk 14 0,getD b.rk 15 0,
 getD b.rk 16 0,getD b.rk 17 0,getD b.rk 18 0,getD b.rk 19 0,getD b.rk 20 0,getD b.rk 21 0,getD b.rk 22 0,getD b.rk 23 0,getD b.rk 24 0,getD b.rk 25 0,getD b.rk 26 0,getD b.rk 27
 0,getD b.rk 28 0,getD b.rk 29 0,getD b.rk 30 0,getD b.rk 31 0] 19 0= -1∧getD [getD b.rk 0 0,getD b.rk 1 0,getD b.rk 2 0,getD b.rk 3 0,getD b.rk 4 0,getD b.rk 5 0,getD b.rk 6 0,
 getD b.rk 7 0,getD b.rk 8 0,getD b.rk 9 0,getD b.rk 10 0,getD b.rk 11 0,getD b.rk 12 0,getD b.rk 13 0,getD b.rk 14 0,getD b.rk 15 0,getD b.rk 16 0,getD b.rk 17 0,getD b.rk 18 0,
 getD b.rk 19 0,getD b.rk 20 0,getD b.rk 21 0,getD b.rk 22 0,getD b.rk 23 0,getD b.rk 24 0,getD b.rk 25 0,getD b.rk 26 0,getD b.rk 27 0,getD b.rk 28 0,getD b.rk 29 0,getD b.rk 30
 0,getD b.rk 31 0] 20 0= -1∧getD [getD b.rk 0 0,getD b.rk 1 0,getD b.rk 2 0,getD b.rk 3 0,getD b.rk 4 0,getD b.rk 5 0,getD b.rk 6 0,getD b.rk 7 0,getD b.rk 8 0,getD b.rk 9 0,
 getD b.rk 10 0,getD b.rk 11 0,getD b.rk 12 0,getD b.rk 13 0,getD b.rk 14 0,getD b.rk 15 0,getD b.rk 16 0,getD b.rk 17 0,getD b.rk 18 0,getD b.rk 19 0,getD b.rk 20 0,getD b.rk 21
 0,getD b.rk 22 0,getD b.rk 23 0,getD b.rk 24 0,getD b.rk 25 0,getD b.rk 26 0,getD b.rk 27 0,getD b.rk 28 0,getD b.rk 29 0,getD b.rk 30 0,getD b.rk 31 0] 21 0= -1∧getD [getD b.rk
 0 0,getD b.rk 1 0,getD b.rk 2 0,getD b.rk 3 0,getD b.rk 4 0,getD b.rk 5 0,getD b.rk 6 0,getD b.rk 7 0,getD b.rk 8 0,getD b.rk 9 0,getD b.rk 10 0,getD b.rk 11 0,getD b.rk 12 0,
 getD b.rk 13 0,getD b.rk 14 0,getD b.rk 15 0,getD b.rk 16 0,getD b.rk 17 0,getD b.rk 18 0,getD b.rk 19 0,getD b.rk 20 0,getD b.rk 21 0,getD b.rk 22 0,getD b.rk 23 0,getD b.rk 24
 0,getD b.rk 25 0,getD b.rk 26 0,getD b.rk 27 0,getD b.rk 28 0,getD b.rk 29 0,getD b.rk 30 0,getD b.rk 31 0] 22 0= -1∧getD [getD b.rk 0 0,getD b.rk 1 0,getD b.rk 2 0,getD b.rk 3
 0,getD b.rk 4 0,getD b.rk 5 0,getD b.rk 6 0,getD b.rk 7 0,getD b.rk 8 0,getD b.rk 9 0,getD b.rk 10 0,getD b.rk 11 0,getD b.rk 12 0,getD b.rk 13 0,getD b.rk 14 0,getD b.rk 15 0,
 getD b.rk 16 0,getD b.rk 17 0,getD b.rk 18 0,getD b.rk 19 0,getD b.rk 20 0,getD b.rk 21 0,getD b.rk 22 0,getD b.rk 23 0,getD b.rk 24 0,getD b.rk 25 0,getD b.rk 26 0,getD b.rk 27
 0,getD b.rk 28 0,getD b.rk 29 0,getD b.rk 30 0,getD b.rk 31 0] 23 0= -1∧getD [getD b.rk 0 0,getD b.rk 1 0,getD b.rk 2 0,getD b.rk 3 0,getD b.rk 4 0,getD b.rk 5 0,getD b.rk 6 0,
 getD b.rk 7 0,getD b.rk 8 0,getD b.rk 9 0,getD b.rk 10 0,getD b.rk 11 0,getD b.rk 12 0,getD b.rk 13 0,getD b.rk 14 0,getD b.rk 15 0,getD b.rk 16 0,getD b.rk 17 0,getD b.rk 18 0,
 getD b.rk 19 0,getD b.rk 20 0,getD b.rk 21 0,getD b.rk 22 0,getD b.rk 23 0,getD b.rk 24 0,getD b.rk 25 0,getD b.rk 26 0,getD b.rk 27 0,getD b.rk 28 0,getD b.rk 29 0,getD b.rk 30
 0,getD b.rk 31 0] 24 0= -1∧getD [getD b.rk 0 0,getD b.rk 1 0,getD b.rk 2 0,getD b.rk 3 0,getD b.rk 4 0,getD b.rk 5 0,getD b.rk 6 0,getD b.rk 7 0,getD b.rk 8 0,getD b.rk 9 0,
 getD b.rk 10 0,getD b.rk 11 0,getD b.rk 12 0,getD b.rk 13 0,getD b.rk 14 0,getD b.rk 15 0,getD b.rk 16 0,getD b.rk 17 0,getD b.rk 18 0,getD b.rk 19 0,getD b.rk 20 0,getD b.rk 21
 0,getD b.rk 22 0,getD b.rk 23 0,getD b.rk 24 0,getD b.rk 25 0,getD b.rk 26 0,getD b.rk 27 0,getD b.rk 28 0,getD b.rk 29 0,getD b.rk 30 0,getD b.rk 31 0] 25 0= -1∧getD [getD b.rk
 0 0,getD b.rk 1 0,getD b.rk 2 0,getD b.rk 3 0,getD b.rk 4 0,getD b.rk 5 0,getD b.rk 6 0,getD b.rk 7 0,getD b.rk 8 0,getD b.rk 9 0,getD b.rk 10 0,getD b.rk 11 0,getD b.rk 12 0,
 getD b.rk 13 0,getD b.rk 14 0,getD b.rk 15 0,getD b.rk 16 0,getD b.rk 17 0,getD b.rk 18 0,getD b.rk 19 0,getD b.rk 20 0,getD b.rk 21 0,getD b.rk 22 0,getD b.rk 23 0,getD b.rk 24
 0,getD b.rk 25 0,getD b.rk 26 0,getD b.rk 27 0,getD b.rk 28 0,getD b.rk 29 0,getD b.rk 30 0,getD b.rk 31 0] 26 0= -1∧getD [getD b.rk 0 0,getD b.rk 1 0,getD b.rk 2 0,getD b.rk 3
 0,getD b.rk 4 0,getD b.rk 5 0,getD b.rk 6 0,getD b.rk 7 0,getD b.rk 8 0,getD b.rk 9 0,getD b.rk 10 0,getD b.rk 11 0,getD b.rk 12 0,getD b.rk 13 0,getD b.rk 14 0,getD b.rk 15 0,
 getD b.rk 16 0,getD b.rk 17 0,getD b.rk 18 0,getD b.rk 19 0,getD b.rk 20 0,getD b.rk 21 0,getD b.rk 22 0,getD b.rk 23 0,getD b.rk 24 0,getD b.rk 25 0,getD b.rk 26 0,getD b.rk 27
 0,getD b.rk 28 0,getD b.rk 29 0,getD b.rk 30 0,getD b.rk 31 0] 27 0= -1∧getD [getD b.rk 0 0,getD b.rk 1 0,getD b.rk 2 0,getD b.rk 3 0,getD b.rk 4 0,getD b.rk 5 0,getD b.rk 6 0,
 getD b.rk 7 0,getD b.rk 8 0,getD b.rk 9 0,getD b.rk 10 0,getD b.rk 11 0,getD b.rk 12 0,getD b.rk 13 0,getD b.rk 14 0,getD b.rk 15 0,getD b.rk 16 0,getD b.rk 17 0,getD b.rk 18 0,
 getD b.rk 19 0,getD b.rk 20 0,getD b.rk 21 0,getD b.rk 22 0,getD b.rk 23 0,getD b.rk 24 0,getD b.rk 25 0,getD b.rk 26 0,getD b.rk 27 0,getD b.rk 28 0,getD b.rk 29 0,getD b.rk 30
 0,getD b.rk 31 0] 28 0= -1∧getD [getD b.rk 0 0,getD b.rk 1 0,getD b.rk 2 0,getD b.rk 3 0,getD b.rk 4 0,getD b.rk 5 0,getD b.rk 6 0,getD b.rk 7 0,getD b.rk 8 0,getD b.rk 9 0,
 getD b.rk 10 0,getD b.rk 11 0,getD b.rk 12 0,getD b.rk 13 0,getD b.rk 14 0,getD b.rk 15 0,getD b.rk 16 0,getD b.rk 17 0,getD b.rk 18 0,getD b.rk 19 0,getD b.rk 20 0,getD b.rk 21
 0,getD b.rk 22 0,getD b.rk 23 0,getD b.rk 24 0,getD b.rk 25 0,getD b.rk 26 0,getD b.rk 27 0,getD b.rk 28 0,getD b.rk 29 0,getD b.rk 30 0,getD b.rk 31 0] 29 0= -1∧getD [getD b.rk
 0 0,getD b.rk 1 0,getD b.rk 2 0,getD b.rk 3 0,getD b.rk 4 0,getD b.rk 5 0,getD b.rk 6 0,getD b.rk 7 0,getD b.rk 8 0,getD b.rk 9 0,getD b.rk 10 0,getD b.rk 11 0,getD b.rk 12 0,
 getD b.rk 13 0,getD b.rk 14 0,getD b.rk 15 0,getD b.rk 16 0,getD b.rk 17 0,getD b.rk 18 0,getD b.rk 19 0,getD b.rk 20 0,getD b.rk 21 0,getD b.rk 22 0,getD b.rk 23 0,getD b.rk 24
 0,getD b.rk 25 0,getD b.rk 26 0,getD b.rk 27 0,getD b.rk 28 0,getD b.rk 29 0,getD b.rk 30 0,getD b.rk 31 0] 30 0= -1∧getD [getD b.rk 0 0,getD b.rk 1 0,getD b.rk 2 0,getD b.rk 3
 0,getD b.rk 4 0,getD b.rk 5 0,getD b.rk 6 0,getD b.rk 7 0,getD b.rk 8 0,getD b.rk 9 0,getD b.rk 10 0,getD b.rk 11 0,getD b.rk 12 0,getD b.rk 13 0,getD b.rk 14 0,getD b.rk 15 0,
 getD b.rk 16 0,getD b.rk 17 0,getD b.rk 18 0,getD b.rk 19 0,getD b.rk 20 0,getD b.rk 21 0,getD b.rk 22 0,getD b.rk 23 0,getD b.rk 24 0,getD b.rk 25 0,getD b.rk 26 0,getD b.rk 27
 0,getD b.rk 28 0,getD b.rk 29 0,getD b.rk 30 0,getD b.rk 31 0] 31 0= -1∧True)) (getD (drop (Int.toNat b.i) o) 0 0)))):=by kernel_rfl

theorem ob_g39z:fnP (T0) G 10000 fe25 (.r [] 0 (.r [] 0 (.r [] 0 (.un (.r [] 0 (.lit (.r [] 0 (.r [] 7 (.r [] 1 (.un (.r [] 0 (.lit (.r [] 0 (.r [] 7 (.r [] 1 (.un (.r [] 0 (.lit (.r [] 0 (.r [] 7 (.r [] 1 (.un (.r [] 0 (.lit (.r [] 0 (.r [] 7 (.r [] 1 (.un (.r [] 0 (.lit (.r [] 0 (.r [] 7 (.r [] 1 (.un (.r [] 0 (.lit (.r [] 0 (.r [] 7 (.r [] 1 (.un (.r [] 0 (.lit (.r [] 0 (.r [] 7 (.r [] 1 (.un (.r [] 0 (.lit (.r [] 0 (.r [] 7 (.r [] 1 (.un (.r [] 0 (.lit (.r [] 0 (.r [] 7 (.r [] 1 (.un (.r [] 0 (.lit (.r [] 0 (.r [] 7 (.r [] 1 (.un (.r [] 0 (.lit (.r [] 0 (.r [] 7 (.r [] 1 (.un (.r [] 0 (.lit (.r [] 0 (.r [] 7 (.r [] 1 (.un (.r [] 0 (.lit (.r [] 0 (.r [] 7 (.r [] 1 (.un (.r [] 0 (.lit (.r [] 0 (.r [] 7 (.r [] 1 (.un (.r [] 0 (.lit (.r [] 0 (.r [] 7 (.r [] 1 (.un (.r [] 0 (.lit (.r [] 0 (.r [] 7 (.r [] 1 (.un (.r [] 0 (.lit (.r [] 0 (.r [] 7 (.r [] 1 (.un (.r [] 0 (.lit (.r [] 0 (.r [] 7 (.r [] 1 (.un (.r [] 0 (.lit (.r [] 0 (.r [] 7 (.r [] 1 (.un (.r [] 0 (.lit (.r [] 0 (.r [] 7 (.r [] 1 (.un (.r [] 0 (.lit (.r [] 0 (.r [] 7 (.r [] 1 (.un (.r [] 0 (.lit (.r [] 0 (.r [] 7 (.r [] 1 (.un (.r [] 0 (.lit (.r [] 0 (.r [] 7 (.r [] 1 (.un (.r [] 0 (.lit (.r [] 0 (.r [] 7 (.r [] 1 (.un (.r [] 0 (.lit (.r [] 0 (.r [] 7 (.r [] 1 (.un (.r [] 0 (.lit (.r [] 0 (.r [] 7 (.r [] 1 (.un (.r [] 0 (.lit (.r [] 0 (.r [] 7 (.r [] 1 (.un (.r [] 0 (.lit (.r [] 0 (.r [] 7 (.r [] 1 (.un (.r [] 0 (.lit (.r [] 0 (.r [] 7 (.r [] 1 (.un (.r [] 0 (.lit (.r [] 0 (.r [] 7 (.r [] 1 (.un (.r [] 0 (.lit (.r [] 0 (.r [] 7 (.r [] 1 (.un (.r [] 0 (.lit (.r [] 0 (.r [] 7 (.r [] 1 (.un (.r [] 0 (.lit (.r [] 0 (.un (.r [] 0 (.lit (.r [] 3 .nil))))))))))))))))))))))))))))))))))))))))))))))))))))))))))))))))))))))))))))))))))))))))))))))))))))))))))))))))))))))))))))))))))))))))))))))))))))))))))))))))))))))))))))))))))))))))))))))))))))))))))) ([.nils]) ([rk32 []]) ([])=(
 iI (-1)= -1∧iI (-1)= -1∧iI (-1)= -1∧iI (-1)= -1∧iI (-1)= -1∧iI (-1)= -1∧iI (-1)= -1∧iI (-1)= -1∧iI (-1)= -1∧iI (-1)= -1∧iI (-1)= -1∧iI (-1)= -1∧iI (-1)= -1∧iI
 (-1)= -1∧iI (-1)= -1∧iI (-1)= -1∧iI (-1)= -1∧iI (-1)= -1∧iI (-1)= -1∧iI (-1)= -1∧iI (-1)= -1∧iI (-1)= -1∧iI (-1)= -1∧iI (-1)= -1∧iI (-1)= -1∧iI (-1)= -1∧iI (-1)
 = -1∧iI (-1)= -1∧iI (-1)= -1∧iI (-1)= -1∧iI (-1)= -1∧iI (-1)= -1∧True):=by kernel_rfl

theorem ob_g41 (a k r:List Int)(x0 x1 x2 x3 x4 x5 x6 x7:Int):fnP (TR2) G 10000 fe27 (.r [] 0 (.r [] 1 (.lp (l41 k [x0,x1,x2,x3,x4,x5,x6,x7]) [] [] (fun b=>(.r [] 0 (.cnd (.r [] 0 (.r [yM 323,yM 324,(325,.may,Dr.val [AV.int i64 (gR [x0,x1,x2,x3,x4,x5,x6,x7] b.i)]),yM 326,yM 327,yM 328,yM 329,(330,.may,Dr.val [AV.int i64 (gR [x0,x1,x2,x3,x4,x5,x6,x7] (bhI (↑(length a):Int) b.i))]),yM 331,yM 332,yM 335,yM 336,yM 337,yM 338,yM 339,yM 340] 135921696 (.cnd (.r [] 0 .nil) (.r [] 0 .nil)))) (.r [] 0 .nil))))))) ([conV a k r,r32V x0 x1 x2 x3 x4 x5 x6 x7]) ([.bool (wrgB (rotR k) [x0,x1,x2,x3,x4,x5,x6,x7])]) ([])=(
 1=1∧qs i64 a (qs u8 k (qs i64 r (1=1∧x0=x0∧x1=x1∧x2=x2∧x3=x3∧x4=x4∧x5=x5∧x6=x6∧x7=x7∧iI (-1)= -1∧iI (-1)= -1∧iI (-1)= -1∧iI (-1)= -1∧iI
 (-1)= -1∧iI (-1)= -1∧iI (-1)= -1∧iI (-1)= -1∧iI (-1)= -1∧iI (-1)= -1∧iI (-1)= -1∧iI (-1)= -1∧iI (-1)= -1∧iI (-1)= -1∧iI (-1)= -1∧iI (-1)= -1∧iI (-1)= -1
 ∧iI (-1)= -1∧iI (-1)= -1∧iI (-1)= -1∧iI (-1)= -1∧iI (-1)= -1∧iI (-1)= -1∧iI (-1)= -1∧0=0∧0=0∧qs u8 k (ql k (iI 0=0∧(∃(m:Nat),0=(↑m:Int)∧m≤length
 k∧∀(j:Nat),j<m→wrg1 (rotR k) [x0,x1,x2,x3,x4,x5,x6,x7] (bhI (↑(length k):Int) (↑j:Int))=false)∧∀(b:L83),(fun(zz4:List Int)=>(fun(zz2:Int)=>(fun(zz3:
 Bool)=>(fun(zz1:Bool)=>(fun(zz0:Bool)=>(∃(m:Nat),b.i=(↑m:Int)∧m≤length k∧∀(j:Nat),j<m→wrg1 (rotR k) [x0,x1,x2,x3,x4,x5,x6,x7] (bhI (↑(length k):
 Int) (↑j:Int))=false)→(ltb b.i (↑(length k):Int)=true→rd u8 k b.i ((zz1=true→zz1=true)∧(zz1=true→leb 0 b.i=true)∧(zz1=true→ltb b.i 32=true)∧(zz1=true→
 zz1=true)∧(zz1=true→[AV.int i64 x0,AV.int i64 x1,AV.int i64 x2,AV.int i64 x3,AV.int i64 x4,AV.int i64 x5,AV.int i64 x6,AV.int i64 x7,AV.int i64 (-1),AV.int i64 (-1),AV.int
 i64 (-1),AV.int i64 (-1),AV.int i64 (-1),AV.int i64 (-1),AV.int i64 (-1),AV.int i64 (-1),AV.int i64 (-1),AV.int i64 (-1),AV.int i64 (-1),AV.int i64 (-1),AV.int i64 (-1),AV.int i64
 (-1),AV.int i64 (-1),AV.int i64 (-1),AV.int i64 (-1),AV.int i64 (-1),AV.int i64 (-1),AV.int i64 (-1),AV.int i64 (-1),AV.int i64 (-1),AV.int i64 (-1),AV.int i64 (-1)][Int.toNat
 b.i]? =some (AV.int i64 (gR [x0,x1,x2,x3,x4,x5,x6,x7] b.i)))∧(zz1=true→zz1=true)∧(zz1=true→zz1=true)∧(zz1=true→cok a k r (length a) (length k) (length r)∧0<
 length a∧length a≤8∧0≤b.i∧b.i<(↑(length a):Int))∧(zz1=true→zz1=true)∧(zz1=true→leb 0 (bhI (↑(length a):Int) b.i)=true)∧(zz1=true→ltb (bhI (↑(length a):
 Int) b.i) 32=true)∧(zz1=true→zz1=true)∧(zz1=true→[AV.int i64 x0,AV.int i64 x1,AV.int i64 x2,AV.int i64 x3,AV.int i64 x4,AV.int i64 x5,AV.int i64 x6,AV.int i64 x7,
 AV.int i64 (-1),AV.int i64 (-1),AV.int i64 (-1),AV.int i64 (-1),AV.int i64 (-1),AV.int i64 (-1),AV.int i64 (-1),AV.int i64 (-1),AV.int i64 (-1),AV.int i64 (-1),AV.int i64 (-1),
 AV.int i64 (-1),AV.int i64 (-1),AV.int i64 (-1),AV.int i64 (-1),AV.int i64 (-1),AV.int i64 (-1),AV.int i64 (-1),AV.int i64 (-1),AV.int i64 (-1),AV.int i64 (-1),AV.int i64 (-1),
 AV.int i64 (-1),AV.int i64 (-1)][Int.toNat (bhI (↑(length a):Int) b.i)]? =some (AV.int i64 (gR [x0,x1,x2,x3,x4,x5,x6,x7] (bhI (↑(length a):Int) b.i))))∧(zz1=true→zz1=
 true)∧(zz1=true→zz1=true)∧(zz1=true→zz1=true)∧(bif getD zz4 0 0 !=3 then getD zz4 0 0 !=3&&true else true)=true∧(zz0=true→zz0=true)∧(zz0=true→zz0=
 true)∧(zz0=true→zz0=true)∧(zz0=true→cok a k r (length a) (length k) (length r)∧length a%2=0∧0<length a∧length a≤8∧0≤b.i∧b.i<(↑(length a):Int))∧(zz0=
 true→zz0=true)∧(zz0=true→zz0=true)∧(bif bif getD zz4 0 0 !=3 then leb 0 zz2 else false then zz0&&true else true)=true∧(zz3=true→true=wrgB (rotR k) [x0,x1,x2,x3,
 x4,x5,x6,x7]∧True)∧(zz3=false→inR i64 (b.i+1)=true∧1=1∧qs i64 a (qs u8 k (qs i64 r (1=1∧x0=x0∧x1=x1∧x2=x2∧x3=x3∧x4=x4∧x5=x5∧x6=x6∧x7=x7
 ∧iI (-1)= -1∧iI (-1)= -1∧iI (-1)= -1∧iI (-1)= -1∧iI (-1)= -1∧iI (-1)= -1∧iI (-1)= -1∧iI (-1)= -1∧iI (-1)= -1∧iI (-1)= -1∧iI (-1)= -1∧iI (-1)= -1∧iI (-1)
 = -1∧iI (-1)= -1∧iI (-1)= -1∧iI (-1)= -1∧iI (-1)= -1∧iI (-1)= -1∧iI (-1)= -1∧iI (-1)= -1∧iI (-1)= -1∧iI (-1)= -1∧iI (-1)= -1∧iI (-1)= -1∧0=0∧0=0∧qs
 u8 k (ql k (b.i+1=b.i+1∧(∃(m:Nat),b.i+1=(↑m:Int)∧m≤length k∧∀(j:Nat),j<m→wrg1 (rotR k) [x0,x1,x2,x3,x4,x5,x6,x7] (bhI (↑(length k):Int) (↑j:Int))=
 false)∧length k-Int.toNat (b.i+1)<length k-Int.toNat b.i∧True))))))))∧(ltb b.i (↑(length k):Int)=false→false=wrgB (rotR k) [x0,x1,x2,x3,x4,x5,x6,x7]∧True))
 (bif getD zz4 0 0 !=3 then leb 0 zz2 else false)) (getD zz4 0 0 !=3)) (bif bif getD zz4 0 0 !=3 then leb 0 zz2 else false then getD zz4 0 0 !=kdI (↑(length a):Int) [x0,x1,x2,x3,x4,
 x5,x6,x7] (bhI (↑(length a):Int) b.i)else false)) (if gR [x0,x1,x2,x3,x4,x5,x6,x7] (bhI (↑(length a):Int) b.i)<gR [x0,x1,x2,x3,x4,x5,x6,x7] b.i then gR [x0,x1,x2,
 x3,x4,x5,x6,x7] (bhI (↑(length a):Int) b.i)else gR [x0,x1,x2,x3,x4,x5,x6,x7] b.i)) (drop (Int.toNat b.i) k))))))):=by kernel_rfl

end Go.Proofs.Ythiammkiobbclaa.X
