/-
 What is to be shown of the functions (made by a program).
-/
import Derived.Test.YthiammkiobbclaaGreatDoorC6Z
set_option maxRecDepth 1000000
set_option linter.unusedVariables false
namespace Go.Proofs.YthiammkiobbclaaGreatDoor.X
open Go Go.Ab
open List IntKind
theorem C5G (a k:List Int):fnP (UR) G 10000 C7U (.r [] 0 (.r [] 1 (.r [] 0 (.cnd (.r [] 1 .nil) (.r [] 9 (.r [] 1 (.gho 2 9001 1 (Cont.ints i64 []) (.lp (l18 a k) [] [] (fun b=>(.r [] 0 (.cnd (.r [] 65 (.r [] 67 (.r [] 1 .nil))) (.frz 2 0 (.r [] 6 .nil))))))))))))) ([A2W a k]) ([A10 .i64 (bLs (okD a k) (rdI a k)),.agg [A10 .i64 (bLs (okD a k) (rdA a k)),A10 .u8 (bLs (okD a k) (rdK a k))],.int .i64 (dcd a k)]) ([])=(
 (length a=length a/\length k=length k/\length a<1000000000000/\length k<1000000000000)/\((dcd a k !=0)=true->Cont.size (Cont.ints i64 (bLs (okD a k) (rdI a k)))=0/\length
 (bLs (okD a k) (rdI a k))=0/\length (bLs (okD a k) (rdI a k))=0/\Cont.size (Cont.ints i64 (bLs (okD a k) (rdA a k)))=0/\length (bLs (okD a k) (rdA a k))=0/\length (bLs (okD a k)
 (rdA a k))=0/\Cont.size (Cont.ints u8 (bLs (okD a k) (rdK a k)))=0/\length (bLs (okD a k) (rdK a k))=0/\length (bLs (okD a k) (rdK a k))=0/\dcd a k=dcd a k/\True)/\((dcd a k
 !=0)=false->(length a=length a/\length k=length k/\length a<100000000000/\length k<100000000000)/\(qx (length (reverse a)) (qx (length (A0j k)) (length (reverse a)<
 100000000000/\length (A0j k)<100000000000)))/\(qx (length (reverse (reverse a))) (qx (length (A0j (A0j k))) (length (A0j (A0j k))=length (reverse (reverse a))/\length
 (reverse (reverse a))<1000000000)))/\1=1/\qs i64 a (qs u8 k (1=1/\qs i64 (reverse (reverse a)) (qx (length (reverse (reverse a))) (qs u8 (A0j (A0j k)) (qx (length (A0j (A0j
 k))) (0=0/\iL []=[]/\0=0/\0=0/\qs i64 (stI (reverse (reverse a)) (A0j (A0j k))) (qx (length (stI (reverse (reverse a)) (A0j (A0j k)))) ((okF (reverse (reverse a)) (A0j
 (A0j k)) 8=true/\[]++rdI (reverse (reverse a)) (A0j (A0j k))=rdI a k/\rdA (reverse (reverse a)) (A0j (A0j k))=rdA a k/\rdK (reverse (reverse a)) (A0j (A0j k))=rdK
 a k/\0+length (reverse (reverse a))<=8)/\∀(b:L18),(fun(zz2:Nat)=>(fun(zz1:List Int)=>(fun(zz0:Nat)=>okF b.a b.k 8=true/\b.o++rdI b.a b.k=rdI a k/\rdA b.a b.k
 =rdA a k/\rdK b.a b.k=rdK a k/\length b.o+length b.a<=8->(ltb 0 (↑zz2:Int)=true->ltb 0 (↑zz2:Int)=true/\ltn 0 (Cont.size (Cont.ints i64 (stI b.a b.k)))=true/\ltn 0
 (Cont.size (Cont.ints i64 zz1))=true/\qx (length b.o) (A0R ((length b.o+1)*8) 140737488355328=true/\ltb 0 (↑zz2:Int)=true/\ltn 0 (Cont.size (Cont.ints i64 (stI b.a b.k)))=
 true/\ltn 0 (Cont.size (Cont.ints i64 zz1))=true/\(qx (length b.a) (qx (length b.k) (okF b.a b.k 8=true/\2<=length b.a/\0<=getD zz1 0 0/\getD zz1 0 0<(↑(length b.a):Int))))/\
 (qx (length (A1s b.a zz0)) (qx (length (A1R b.k zz0)) (length (A1R b.k zz0)=length (A1s b.a zz0)/\length (A1s b.a zz0)<1000000000)))/\1=1/\qs i64 a (qs u8 k (1=1/\qs
 i64 (A1s b.a zz0) (qx (length (A1s b.a zz0)) (qs u8 (A1R b.k zz0) (qx (length (A1R b.k zz0)) (length b.o+1=length (b.o++[getD zz1 0 0])/\b.o++[getD zz1 0 0]=b.o++[getD
 zz1 0 0]/\length b.o+1=length (b.o++[getD zz1 0 0])/\0=0/\Cont.ints i64 (stI (A1s b.a zz0) (A1R b.k zz0))=Cont.ints i64 (stI (A1s b.a zz0) (A1R b.k zz0))/\length (stI
 (A1s b.a zz0) (A1R b.k zz0))=length (stI (A1s b.a zz0) (A1R b.k zz0))/\length (stI (A1s b.a zz0) (A1R b.k zz0))=length (stI (A1s b.a zz0) (A1R b.k zz0))/\(okF (A1s
 b.a zz0) (A1R b.k zz0) 8=true/\b.o++[getD zz1 0 0]++rdI (A1s b.a zz0) (A1R b.k zz0)=rdI a k/\rdA (A1s b.a zz0) (A1R b.k zz0)=rdA a k/\rdK (A1s b.a zz0) (A1R b.k
 zz0)=rdK a k/\length (b.o++[getD zz1 0 0])+length (A1s b.a zz0)<=8)/\length (A1s b.a zz0)<length b.a/\True))))))))/\(ltb 0 (↑zz2:Int)=false->qx (length b.o) (qx (length
 b.o) (Cont.ints i64 b.o=Cont.ints i64 (bLs (okD a k) (rdI a k))/\length b.o=length (bLs (okD a k) (rdI a k))/\length b.o=length (bLs (okD a k) (rdI a k))/\Cont.ints i64 b.a=
 Cont.ints i64 (bLs (okD a k) (rdA a k))/\length b.a=length (bLs (okD a k) (rdA a k))/\length b.a=length (bLs (okD a k) (rdA a k))/\Cont.ints u8 b.k=Cont.ints u8 (bLs (okD a k) (rdK
 a k))/\length b.k=length (bLs (okD a k) (rdK a k))/\length b.k=length (bLs (okD a k) (rdK a k))/\0=dcd a k/\True)))) (Int.toNat (getD zz1 0 0))) (drop 0 (stI b.a b.k))) (length
 (stI b.a b.k)))))))))))):=by kernel_rfl
theorem C5H (a k:List Int):fnP (UF) G 10000 C7A (.r [] 0 (.r [] 61 (.r [] 0 (.cnd (.r [] 0 .nil) (.br (length (bLs (okD a k) (rdA a k))==0) (.r [(325,.off,Dr.plain),(326,.off,Dr.plain),(327,.off,Dr.plain),(328,.off,Dr.plain),(329,.off,Dr.plain),(330,.off,Dr.plain),(331,.off,Dr.plain),(332,.off,Dr.plain),(333,.off,Dr.plain),(334,.off,Dr.plain),(335,.off,Dr.plain),(336,.off,Dr.plain),(337,.off,Dr.plain),(338,.off,Dr.plain),(339,.off,Dr.plain),(340,.off,Dr.plain),(341,.off,Dr.plain),(342,.off,Dr.plain),(343,.off,Dr.plain),(344,.off,Dr.plain),(345,.off,Dr.plain),(346,.off,Dr.plain),(347,.off,Dr.plain),(348,.off,Dr.plain),(349,.off,Dr.plain),(350,.off,Dr.plain),(351,.auto,Dr.pk true)] 738099137 .nil) (.br (length (bLs (okD a k) (rdA a k))==2) (.br (getD (bLs (okD a k) (rdA a k)) 0 0==getD (bLs (okD a k) (rdA a k)) 1 0) (.r [yM 325,yM 326,yM 327,yM 328,yM 329,yO 330,yO 331,yO 332,yO 333,yO 334,yO 335,yO 336,yO 337,yO 338,(339,.may,Dr.pk true),yM 340,yO 341,yO 342,yO 343,yO 344,yO 345,yO 346,yO 347,yO 348,yO 349,(350,.may,Dr.pk true)] 845802071458437 .nil) (.r [yM 325,yM 326,yM 327,yM 328,yM 329,yO 330,yO 331,yO 332,yO 333,yO 334,yO 335,yO 336,yO 337,yO 338,(339,.may,Dr.pk true),yM 340,(341,.off,Dr.plain),(342,.off,Dr.plain),(343,.off,Dr.plain),(344,.off,Dr.plain),(345,.off,Dr.plain),(346,.off,Dr.plain),(347,.off,Dr.plain),(348,.off,Dr.plain),(349,.off,Dr.plain),(350,.may,Dr.pk false)] 824701158021 .nil)) (.r [yM 325,yM 326,yM 327,yM 328,yM 329,(330,.off,Dr.plain),(331,.off,Dr.plain),(332,.off,Dr.plain),(333,.off,Dr.plain),(334,.off,Dr.plain),(335,.off,Dr.plain),(336,.off,Dr.plain),(337,.off,Dr.plain),(338,.off,Dr.plain),(339,.may,Dr.pk false),yM 340,(341,.off,Dr.plain),(342,.off,Dr.plain),(343,.off,Dr.plain),(344,.off,Dr.plain),(345,.off,Dr.plain),(346,.off,Dr.plain),(347,.off,Dr.plain),(348,.off,Dr.plain),(349,.off,Dr.plain),(350,.may,Dr.pk false)] 939589637 .nil))))))) ([A2W a k]) ([.bool (okD a k&&A2A a k),.int .i64 (dcd a k)]) ([])=(
 (fun(zz11:Bool)=>(fun(zz10:Bool)=>(fun(zz9:List Int)=>(fun(zz8:List Int)=>(fun(zz0:Nat)=>(fun(zz7:Bool)=>(fun(zz6:Bool)=>(fun(zz5:Bool)=>(fun(zz4:
 Bool)=>(fun(zz3:Bool)=>(fun(zz2:Bool)=>(fun(zz1:Bool)=>(length a=length a/\length k=length k/\length a<1000000000/\length k<1000000000)/\((dcd a k !=0)=true->
 false=zz10/\dcd a k=dcd a k/\True)/\((dcd a k !=0)=false->((length (bLs (okD a k) (rdA a k))==0)=true->zz6=true/\zz6=true/\zz6=true/\zz6=true/\zz6=true/\zz6=
 true/\zz6=true/\zz6=true/\((↑zz0:Int)==0)=true/\true=zz10/\0=dcd a k/\True)/\((length (bLs (okD a k) (rdA a k))==0)=false->((length (bLs (okD a k) (rdA a k))==2)
 =true->(zz11=true->(zz3=true->zz3=true)/\(zz3=true->zz3=true)/\(zz3=true->zz3=true)/\zz2=true/\zz2=true/\zz2=true/\ltb 0 (↑zz0:Int)=true/\ltn 0
 (Cont.size (Cont.ints i64 (bLs (okD a k) (rdA a k))))=true/\zz2=true/\ltn 0 (Cont.size (Cont.ints i64 zz8))=true/\zz2=true/\zz2=true/\zz2=true/\ltb 1 (↑zz0:Int)=true/\
 ltn 0 (Cont.size (Cont.ints i64 (bLs (okD a k) (rdA a k))))=true/\zz2=true/\ltn 0 (Cont.size (Cont.ints i64 zz9))=true/\zz2=true/\(zz3=true->zz5=true)/\(zz3=true->((↑zz0
 :Int)==2)=true)/\zz1=true/\zz1=true/\zz1=true/\ltb 0 (↑(length (bLs (okD a k) (rdK a k))):Int)=true/\ltn 0 (Cont.size (Cont.ints u8 (bLs (okD a k) (rdK a k))))=true/\
 zz1=true/\ltn 0 (Cont.size (Cont.ints u8 (drop 0 (bLs (okD a k) (rdK a k)))))=true/\zz1=true/\zz1=true/\zz1=true/\ltb 1 (↑(length (bLs (okD a k) (rdK a k))):Int)=true/\
 ltn 0 (Cont.size (Cont.ints u8 (bLs (okD a k) (rdK a k))))=true/\zz1=true/\ltn 0 (Cont.size (Cont.ints u8 (drop 1 (bLs (okD a k) (rdK a k)))))=true/\zz1=true/\(zz3=true->zz5=
 true)/\(zz3=true->(getD zz8 0 0==getD zz9 0 0)=true)/\zz7=true/\(bif (↑zz0:Int)==0 then true else getD (drop 0 (bLs (okD a k) (rdK a k))) 0 0==getD (drop 1 (bLs (okD a k)
 (rdK a k))) 0 0)=zz10/\0=dcd a k/\True)/\(zz11=false->(zz3=true->zz3=true)/\(zz3=true->zz3=true)/\(zz3=true->zz3=true)/\zz2=true/\zz2=true/\zz2=true/\ltb
 0 (↑zz0:Int)=true/\ltn 0 (Cont.size (Cont.ints i64 (bLs (okD a k) (rdA a k))))=true/\zz2=true/\ltn 0 (Cont.size (Cont.ints i64 zz8))=true/\zz2=true/\zz2=true/\zz2=true
 /\ltb 1 (↑zz0:Int)=true/\ltn 0 (Cont.size (Cont.ints i64 (bLs (okD a k) (rdA a k))))=true/\zz2=true/\ltn 0 (Cont.size (Cont.ints i64 zz9))=true/\zz2=true/\(zz3=true->zz5
 =true)/\(zz3=true->((↑zz0:Int)==2)=true)/\(!zz1)=true/\(!zz1)=true/\(!zz1)=true/\(!zz1)=true/\(!zz1)=true/\(!zz1)=true/\(!zz1)=true/\(!zz1)=true/\(!zz1)=
 true/\(zz3=true->zz5=true)/\(zz3=true->(!getD zz8 0 0==getD zz9 0 0)=true)/\zz7=true/\(bif (↑zz0:Int)==0 then true else false)=zz10/\0=dcd a k/\True))/\((length
 (bLs (okD a k) (rdA a k))==2)=false->(zz3=true->zz3=true)/\(zz3=true->zz3=true)/\(zz3=true->zz3=true)/\(!zz2)=true/\(!zz2)=true/\(!zz2)=true/\(!zz2)=true/\
 (!zz2)=true/\(!zz2)=true/\(!zz2)=true/\(!zz2)=true/\(!zz2)=true/\(zz3=true->zz5=true)/\(zz3=true->(!(↑zz0:Int)==2)=true)/\zz4=true/\zz4=true/\zz4=true
 /\zz4=true/\zz4=true/\zz4=true/\zz4=true/\zz4=true/\zz4=true/\(zz3=true->zz5=true)/\zz7=true/\(bif (↑zz0:Int)==0 then true else false)=zz10/\0=dcd a k/\
 True)))) (!(↑zz0:Int)==0&& !(↑zz0:Int)==0&&true&&getD zz8 0 0==getD zz9 0 0)) (!(↑zz0:Int)==0&& !(↑zz0:Int)==0&&true&&(↑zz0:Int)==2)) (!(↑zz0:Int)==0))
 (!(!(↑zz0:Int)==0&& !(↑zz0:Int)==0&&true&&false))) (!(↑zz0:Int)==0&& !(↑zz0:Int)==0&&true)) (!!(↑zz0:Int)==0)) (bif (↑zz0:Int)==0 then true else !(↑zz0:Int)
 ==0&&true)) (length (bLs (okD a k) (rdA a k)))) (drop 0 (bLs (okD a k) (rdA a k)))) (drop 1 (bLs (okD a k) (rdA a k)))) (okD a k&&A2A a k)) (getD (bLs (okD a k) (rdA a k)) 0 0==getD
 (bLs (okD a k) (rdA a k)) 1 0)):=by kernel_rfl
open List IntKind
theorem C5I (n:Int):fnP (T0) G 10000 C8l (.r [] 0 (.r [] 0 (.ff (.r [] 1 (.r [] 0 (.tt (.r [] 9 (.r [] 0 .nil)))))))) ([.nils,.int .i64 n]) ([.full 0 0]) ([A2j .i64 []])=(
 ltb n 0=false/\inR i64 (n-0)=true/\ltb 0 (n-0)=true/\ltb 0 (n-0)=true/\leb ((n-0)*8) 140737488355328=true/\0=0/\iL []=[]/\0=0/\True):=by kernel_rfl
theorem C5J (n:Int):fnP (T0) G 10000 C8m (.r [] 0 (.r [] 0 (.ff (.r [] 1 (.r [] 0 (.tt (.r [] 9 (.r [] 0 .nil)))))))) ([.nils,.int .i64 n]) ([.full 0 0]) ([A2j .u8 []])=(
 ltb n 0=false/\inR i64 (n-0)=true/\ltb 0 (n-0)=true/\ltb 0 (n-0)=true/\leb ((n-0)*1) 140737488355328=true/\0=0/\iL []=[]/\0=0/\True):=by kernel_rfl
theorem C5K (x y:List Int):fnP (UA) G 10000 C79 (.r [] 0 (.r [] 0 (.r [] 0 (.un (.r [] 0 (.lit (.r [] 15 (.r [] 0 (.r [] 0 (.lit (.r [] 1 (.un (.r [] 0 (.lit (.r [] 15 (.r [] 0 (.r [] 0 (.lit (.r [] 1 (.un (.r [] 0 (.lit (.r [] 0 (.r [] 0 (.un (.r [] 0 (.lit (.r [] 15 (.r [] 1 (.r [] 1 (.un (.r [] 0 (.lit (.r [] 15 (.r [] 0 (.r [] 1 (.un (.r [] 0 (.lit (.r [] 0 .nil)))))))))))))))))))))))))))))))))))))))) ([.imm (.vals [.imm (.ints .i64 x) x.length none,.imm (.ints .i64 y) y.length none]) 2 none]) ([.full 0 (x++y).length]) ([A2j .i64 (x++y)])=(
 inR i64 (0+(↑(length x):Int))=true/\inR i64 (0+(↑(length x):Int)+(↑(length y):Int))=true/\(0<0+(↑(length x):Int)+(↑(length y):Int)/\0+(↑(length x):Int)+(↑(length y)
 :Int)<1000000000000)/\A0R ((0+length x)*8) 140737488355328=true/\Cont.size (Cont.ints i64 x)=length x/\0+length x=0+length x/\A0R ((0+length x+length y)*8) 140737488355328
 =true/\Cont.size (Cont.ints i64 y)=length y/\0+length x+length y=length (x++y)/\[]++x++y=x++y/\0+length x+length y=length (x++y)/\True):=by kernel_rfl
theorem C5L (x y:List Int):fnP (UA) G 10000 C8b (.r [] 0 (.r [] 0 (.r [] 0 (.un (.r [] 0 (.lit (.r [] 15 (.r [] 0 (.r [] 0 (.lit (.r [] 1 (.un (.r [] 0 (.lit (.r [] 15 (.r [] 0 (.r [] 0 (.lit (.r [] 1 (.un (.r [] 0 (.lit (.r [] 0 (.r [] 0 (.un (.r [] 0 (.lit (.r [] 15 (.r [] 1 (.r [] 1 (.un (.r [] 0 (.lit (.r [] 15 (.r [] 0 (.r [] 1 (.un (.r [] 0 (.lit (.r [] 0 .nil)))))))))))))))))))))))))))))))))))))))) ([.imm (.vals [.imm (.ints .u8 x) x.length none,.imm (.ints .u8 y) y.length none]) 2 none]) ([.full 0 (x++y).length]) ([A2j .u8 (x++y)])=(
 inR i64 (0+(↑(length x):Int))=true/\inR i64 (0+(↑(length x):Int)+(↑(length y):Int))=true/\(0<0+(↑(length x):Int)+(↑(length y):Int)/\0+(↑(length x):Int)+(↑(length y)
 :Int)<1000000000000)/\A0R ((0+length x)*1) 140737488355328=true/\Cont.size (Cont.ints u8 x)=length x/\0+length x=0+length x/\A0R ((0+length x+length y)*1) 140737488355328
 =true/\Cont.size (Cont.ints u8 y)=length y/\0+length x+length y=length (x++y)/\[]++x++y=x++y/\0+length x+length y=length (x++y)/\True):=by kernel_rfl
theorem B9p (a:List Int):fnD (T0) G 10000 (C33) (.r [] 0 (.r [(133,.auto,Dr.pk true)] 40 .nil)) ([.full 8640 a.length]) ([(8640,.blk (A2j .i64 a))]) ([.fullc 8640 a.length a.length]) ([])=(
 length a=length a/\length a=length a/\length a=length a/\Int.toNat (↑(length a):Int)=length a/\Int.toNat (↑(length a):Int)=length a/\length a=length a/\a=a/\length a=length
 a/\length a=length a/\True):=by kernel_rfl
theorem B9q (a:List Int):fnD (T0) G 10000 (C34) (.r [] 0 (.r [(133,.auto,Dr.pk true)] 40 .nil)) ([.full 8640 a.length]) ([(8640,.blk (A2j .u8 a))]) ([.fullc 8640 a.length a.length]) ([])=(
 length a=length a/\length a=length a/\length a=length a/\Int.toNat (↑(length a):Int)=length a/\Int.toNat (↑(length a):Int)=length a/\length a=length a/\a=a/\length a=length
 a/\length a=length a/\True):=by kernel_rfl
theorem B9r (a:List Int):fnD (T0) G 10000 (C33) (.r [] 0 (.r [(133,.auto,Dr.pk true)] 40 .nil)) ([.full 8256 a.length]) ([(8256,.blk (A2j .i64 a))]) ([.fullc 8256 a.length a.length]) ([])=(
 length a=length a/\length a=length a/\length a=length a/\Int.toNat (↑(length a):Int)=length a/\Int.toNat (↑(length a):Int)=length a/\length a=length a/\a=a/\length a=length
 a/\length a=length a/\True):=by kernel_rfl
theorem B9s (a:List Int):fnD (T0) G 10000 (C34) (.r [] 0 (.r [(133,.auto,Dr.pk true)] 40 .nil)) ([.full 8256 a.length]) ([(8256,.blk (A2j .u8 a))]) ([.fullc 8256 a.length a.length]) ([])=(
 length a=length a/\length a=length a/\length a=length a/\Int.toNat (↑(length a):Int)=length a/\Int.toNat (↑(length a):Int)=length a/\length a=length a/\a=a/\length a=length
 a/\length a=length a/\True):=by kernel_rfl
theorem C2n (a:List Int):fnD (T0) G 10000 (C4C) (.r [] 0 (.lp (l68 i64 a) [] [] (fun b=>(.r [] 0 (.cnd (.r [] 0 (.r [] 0 .nil)) .nil))))) ([.fullc 8256 a.length a.length]) ([(8256,.blk (A2j .i64 a))]) ([]) ([(8256,.blk (A2j .i64 a.reverse))])=(
 length a=length a/\inR i64 ((↑(length a):Int)-1)=true/\length a=length a/\a=a/\length a=length a/\length a=length a/\iI 0=0/\qx ((↑(length a):Int)-1) ((∃(n:
 Nat),0=(↑n:Int)/\(↑(length a):Int)-1=(↑(length a):Int)-1-(↑n:Int)/\2*n<=length a+1/\length a=length a/\∀(m:Nat),m<length a->Option.getD a[m]? 0=if m<
 n\/length a<=m+n then Option.getD a[length a-1-m]? 0 else Option.getD a[m]? 0)/\∀(b:L68),(fun(zz0:List Int)=>(∃(n:Nat),b.i=(↑n:Int)/\b.j=(↑(length a):Int)-1
 -(↑n:Int)/\2*n<=length a+1/\length b.l=length a/\∀(m:Nat),m<length a->Option.getD b.l[m]? 0=if m<n\/length a<=m+n then Option.getD a[length a-1-m]? 0 else
 Option.getD a[m]? 0)->(ltb b.i b.j=true->leb 0 b.j=true/\ltb b.j (↑(length a):Int)=true/\length b.l=length a/\length b.l=length a/\ltn (Int.toNat b.j) (Cont.size (Cont.ints
 i64 b.l))=true/\leb 0 b.i=true/\ltb b.i (↑(length a):Int)=true/\length b.l=length a/\length b.l=length a/\ltn (Int.toNat b.i) (Cont.size (Cont.ints i64 b.l))=true/\leb 0
 b.i=true/\ltb b.i (↑(length a):Int)=true/\length b.l=length a/\length b.l=length a/\A0R (Int.toNat b.i+1) (Cont.size (Cont.ints i64 b.l))=true/\leb 0 b.j=true/\ltb b.j
 (↑(length a):Int)=true/\length b.l=length a/\length b.l=length a/\A0R (Int.toNat b.j+1) (Cont.size (Cont.ints i64 (set b.l (Int.toNat b.i) (getD b.l (Int.toNat b.j) 0))))=
 true/\inR i64 (b.i+1)=true/\inR i64 (b.j-1)=true/\length b.l=length zz0/\qx zz0 (length a=length a/\length a=length a/\b.i+1=b.i+1/\b.j-1=b.j-1/\(∃(n:
 Nat),b.i+1=(↑n:Int)/\b.j-1=(↑(length a):Int)-1-(↑n:Int)/\2*n<=length a+1/\length zz0=length a/\∀(m:Nat),m<length a->Option.getD zz0[m]? 0=if m<n\/
 length a<=m+n then Option.getD a[length a-1-m]? 0 else Option.getD a[m]? 0)/\length a-Int.toNat (b.i+1)<length a-Int.toNat b.i/\True))/\(ltb b.i b.j=false->length b.l=
 length (reverse a)/\b.l=reverse a/\True)) (set (set b.l (Int.toNat b.i) (getD b.l (Int.toNat b.j) 0)) (Int.toNat b.j) (getD b.l (Int.toNat b.i) 0)))):=by kernel_rfl
theorem C2o (a:List Int):fnD (T0) G 10000 (C4E) (.r [] 0 (.lp (l68 u8 a) [] [] (fun b=>(.r [] 0 (.cnd (.r [] 0 (.r [] 0 .nil)) .nil))))) ([.fullc 8256 a.length a.length]) ([(8256,.blk (A2j .u8 a))]) ([]) ([(8256,.blk (A2j .u8 a.reverse))])=(
 length a=length a/\inR i64 ((↑(length a):Int)-1)=true/\length a=length a/\a=a/\length a=length a/\length a=length a/\iI 0=0/\qx ((↑(length a):Int)-1) ((∃(n:
 Nat),0=(↑n:Int)/\(↑(length a):Int)-1=(↑(length a):Int)-1-(↑n:Int)/\2*n<=length a+1/\length a=length a/\∀(m:Nat),m<length a->Option.getD a[m]? 0=if m<
 n\/length a<=m+n then Option.getD a[length a-1-m]? 0 else Option.getD a[m]? 0)/\∀(b:L68),(fun(zz0:List Int)=>(∃(n:Nat),b.i=(↑n:Int)/\b.j=(↑(length a):Int)-1
 -(↑n:Int)/\2*n<=length a+1/\length b.l=length a/\∀(m:Nat),m<length a->Option.getD b.l[m]? 0=if m<n\/length a<=m+n then Option.getD a[length a-1-m]? 0 else
 Option.getD a[m]? 0)->(ltb b.i b.j=true->leb 0 b.j=true/\ltb b.j (↑(length a):Int)=true/\length b.l=length a/\length b.l=length a/\ltn (Int.toNat b.j) (Cont.size (Cont.ints
 u8 b.l))=true/\leb 0 b.i=true/\ltb b.i (↑(length a):Int)=true/\length b.l=length a/\length b.l=length a/\ltn (Int.toNat b.i) (Cont.size (Cont.ints u8 b.l))=true/\leb 0
 b.i=true/\ltb b.i (↑(length a):Int)=true/\length b.l=length a/\length b.l=length a/\A0R (Int.toNat b.i+1) (Cont.size (Cont.ints u8 b.l))=true/\leb 0 b.j=true/\ltb b.j
 (↑(length a):Int)=true/\length b.l=length a/\length b.l=length a/\A0R (Int.toNat b.j+1) (Cont.size (Cont.ints u8 (set b.l (Int.toNat b.i) (getD b.l (Int.toNat b.j) 0))))=true
 /\inR i64 (b.i+1)=true/\inR i64 (b.j-1)=true/\length b.l=length zz0/\qx zz0 (length a=length a/\length a=length a/\b.i+1=b.i+1/\b.j-1=b.j-1/\(∃(n:Nat),
 b.i+1=(↑n:Int)/\b.j-1=(↑(length a):Int)-1-(↑n:Int)/\2*n<=length a+1/\length zz0=length a/\∀(m:Nat),m<length a->Option.getD zz0[m]? 0=if m<n\/length a
 <=m+n then Option.getD a[length a-1-m]? 0 else Option.getD a[m]? 0)/\length a-Int.toNat (b.i+1)<length a-Int.toNat b.i/\True))/\(ltb b.i b.j=false->length b.l=length
 (reverse a)/\b.l=reverse a/\True)) (set (set b.l (Int.toNat b.i) (getD b.l (Int.toNat b.j) 0)) (Int.toNat b.j) (getD b.l (Int.toNat b.i) 0)))):=by kernel_rfl
theorem C5M (a:List Int)(i:Int):fnP (D4y) G 10000 C7X (.r [] 0 (.r [(136,.auto,Dr.heap)] 64 .nil)) ([.imm (.ints .i64 a) a.length none,.int .i64 i]) ([.fullc 0 (A0r a i.toNat).length (A0r a i.toNat).length]) ([A2j .i64 (A0r a i.toNat)])=(
 leb 0 i=true/\A0R (Int.toNat i) (length a)=true/\Cont.size (Cont.ints i64 a)=length a/\leb 0 i=true/\A0R (Int.toNat i) (length a)=true/\Cont.size (Cont.ints i64 a)=length a/\
 (length a-Int.toNat i=length (drop (Int.toNat i) a)/\Int.toNat i=length (take (Int.toNat i) a)/\0<length (drop (Int.toNat i) a)+length (take (Int.toNat i) a)/\length (drop (Int.toNat i)
 a)+length (take (Int.toNat i) a)<100000000000)/\([(8640,HO.blk (Blk.mk (Cont.ints i64 (drop (Int.toNat i) a++take (Int.toNat i) a)) 1 (length (drop (Int.toNat i) a++take (Int.toNat i) a))
 none (some false) true false))]=[(8640,HO.blk (Blk.mk (Cont.ints i64 (drop (Int.toNat i) a++take (Int.toNat i) a)) 1 (length (drop (Int.toNat i) a++take (Int.toNat i) a)) none (some false) true
 false))]/\length (drop (Int.toNat i) a++take (Int.toNat i) a)=length (drop (Int.toNat i) a++take (Int.toNat i) a))/\length (drop (Int.toNat i) a++take (Int.toNat i) a)=length (A0r a
 (Int.toNat i))/\drop (Int.toNat i) a++take (Int.toNat i) a=A0r a (Int.toNat i)/\length (drop (Int.toNat i) a++take (Int.toNat i) a)=length (A0r a (Int.toNat i))/\length (drop (Int.toNat
 i) a++take (Int.toNat i) a)=length (A0r a (Int.toNat i))/\True):=by kernel_rfl
theorem C5N (a:List Int)(i:Int):fnP (D4z) G 10000 C7Y (.r [] 0 (.r [(136,.auto,Dr.heap)] 64 .nil)) ([.imm (.ints .u8 a) a.length none,.int .i64 i]) ([.fullc 0 (A0r a i.toNat).length (A0r a i.toNat).length]) ([A2j .u8 (A0r a i.toNat)])=(
 leb 0 i=true/\A0R (Int.toNat i) (length a)=true/\Cont.size (Cont.ints u8 a)=length a/\leb 0 i=true/\A0R (Int.toNat i) (length a)=true/\Cont.size (Cont.ints u8 a)=length a/\(length
 a-Int.toNat i=length (drop (Int.toNat i) a)/\Int.toNat i=length (take (Int.toNat i) a)/\0<length (drop (Int.toNat i) a)+length (take (Int.toNat i) a)/\length (drop (Int.toNat i) a)+
 length (take (Int.toNat i) a)<100000000000)/\([(8640,HO.blk (Blk.mk (Cont.ints u8 (drop (Int.toNat i) a++take (Int.toNat i) a)) 1 (length (drop (Int.toNat i) a++take (Int.toNat i) a)) none
 (some false) true false))]=[(8640,HO.blk (Blk.mk (Cont.ints u8 (drop (Int.toNat i) a++take (Int.toNat i) a)) 1 (length (drop (Int.toNat i) a++take (Int.toNat i) a)) none (some false) true
 false))]/\length (drop (Int.toNat i) a++take (Int.toNat i) a)=length (drop (Int.toNat i) a++take (Int.toNat i) a))/\length (drop (Int.toNat i) a++take (Int.toNat i) a)=length (A0r a
 (Int.toNat i))/\drop (Int.toNat i) a++take (Int.toNat i) a=A0r a (Int.toNat i)/\length (drop (Int.toNat i) a++take (Int.toNat i) a)=length (A0r a (Int.toNat i))/\length (drop (Int.toNat
 i) a++take (Int.toNat i) a)=length (A0r a (Int.toNat i))/\True):=by kernel_rfl
theorem C5O (a:List Int):fnP (T0) G 10000 C1v (.r [] 0 (.r [] 0 (.lit (.r [] 1 .nil)))) ([.imm (.ints .i64 a) a.length none]) ([.full 0 a.length]) ([A2j .i64 a])=(
 ltn 0 (length a)=true/\A0R ((0+length a)*8) 140737488355328=true/\Cont.size (Cont.ints i64 a)=length a/\0+length a=length a/\[]++a=a/\0+length a=length a/\True):=by kernel_rfl
theorem C5P (a:List Int):fnP (T0) G 10000 C4D (.r [] 0 (.r [] 0 (.lit (.r [] 1 .nil)))) ([.imm (.ints .u8 a) a.length none]) ([.full 0 a.length]) ([A2j .u8 a])=(
 ltn 0 (length a)=true/\A0R ((0+length a)*1) 140737488355328=true/\Cont.size (Cont.ints u8 a)=length a/\0+length a=length a/\[]++a=a/\0+length a=length a/\True):=by kernel_rfl
theorem C2p:fnP (T0) G 10000 C1v (.r [] 0 (.nl 1 [] 0 3 (.r [] 0 (.lit (.r [] 0 (.frz 2 0 .nil)))) (.r [] 0 (.lit (.r [] 7 (.frz 2 1 .nil)))))) ([.imm (.ints .i64 []) 0 none]) ([.imm (.ints .i64 []) 0 none]) ([])=(
 (0=0/\0=0->0=0/\0=0/\True)/\Cont.ints i64 []=Cont.ints i64 []/\0=0/\True):=by kernel_rfl
theorem C2q:fnP (T0) G 10000 C4D (.r [] 0 (.nl 1 [] 0 3 (.r [] 0 (.lit (.r [] 0 (.frz 2 0 .nil)))) (.r [] 0 (.lit (.r [] 7 (.frz 2 1 .nil)))))) ([.imm (.ints .u8 []) 0 none]) ([.imm (.ints .u8 []) 0 none]) ([])=(
 (0=0/\0=0->0=0/\0=0/\True)/\Cont.ints u8 []=Cont.ints u8 []/\0=0/\True):=by kernel_rfl
theorem C2r:fnP (T0) G 10000 C4C (.r [] 1 (.un (.r [] 0 (.lit .nil)))) ([.imm (.ints .i64 []) 0 none]) ([]) ([])=(
 True):=by kernel_rfl
theorem C2s:fnP (T0) G 10000 C4E (.r [] 1 (.un (.r [] 0 (.lit .nil)))) ([.imm (.ints .u8 []) 0 none]) ([]) ([])=(
 True):=by kernel_rfl
theorem C2t (a:List Int):fnP (D4A) G 10000 C4x (.r [] 0 (.r [(130,.auto,Dr.heap)] 0 (.r [(193,.auto,Dr.heap)] 0 (.r [] 0 (.frz 2 0 .nil))))) ([.imm (.ints .i64 a) a.length none]) ([.imm (.ints .i64 a.reverse) a.length (some a.length)]) ([])=(
 (length a=length a/\0<length a/\length a<100000000000)/\([(8256,HO.blk (Blk.mk (Cont.ints i64 a) 1 (length a) none (some false) true false))]=[(8256,HO.blk (Blk.mk (Cont.ints i64 a) 1
 (length a) none (some false) true false))]/\length a=length a)/\([(8256,HO.blk (Blk.mk (Cont.ints i64 a) 1 (length a) none (some false) true false))]=[(8256,HO.blk (Blk.mk (Cont.ints i64 a) 1
 (length a) none (some false) true false))]/\length a=length a/\length a=length a/\length a<1000000000000)/\length (reverse a)=length a/\Cont.ints i64 (reverse a)=Cont.ints i64 (reverse
 a)/\length a=length a/\length a=length a/\True):=by kernel_rfl
theorem C2u (a:List Int):fnP (D4B) G 10000 C4y (.r [] 0 (.r [(130,.auto,Dr.heap)] 0 (.r [(193,.auto,Dr.heap)] 0 (.r [] 0 (.frz 2 0 .nil))))) ([.imm (.ints .u8 a) a.length none]) ([.imm (.ints .u8 a.reverse) a.length (some a.length)]) ([])=(
 (length a=length a/\0<length a/\length a<100000000000)/\([(8256,HO.blk (Blk.mk (Cont.ints u8 a) 1 (length a) none (some false) true false))]=[(8256,HO.blk (Blk.mk (Cont.ints u8 a) 1
 (length a) none (some false) true false))]/\length a=length a)/\([(8256,HO.blk (Blk.mk (Cont.ints u8 a) 1 (length a) none (some false) true false))]=[(8256,HO.blk (Blk.mk (Cont.ints u8 a) 1
 (length a) none (some false) true false))]/\length a=length a/\length a=length a/\length a<1000000000000)/\length (reverse a)=length a/\Cont.ints u8 (reverse a)=Cont.ints u8 (reverse a)
 /\length a=length a/\length a=length a/\True):=by kernel_rfl
theorem C2v:fnP (C9H) G 10000 C4x (.r [] 0 (.r [] 0 (.r [] 0 (.r [] 0 .nil)))) ([.imm (.ints .i64 []) 0 none]) ([.imm (.ints .i64 []) 0 (some 0)]) ([])=(
 (0=0/\iL []=[])/\0=0/\(0=0/\iL []=[])/\Cont.ints i64 []=Cont.ints i64 []/\0=0/\0=0/\True):=by kernel_rfl
theorem C2w:fnP (C9H) G 10000 C4y (.r [] 0 (.r [] 0 (.r [] 0 (.r [] 0 .nil)))) ([.imm (.ints .u8 []) 0 none]) ([.imm (.ints .u8 []) 0 (some 0)]) ([])=(
 (0=0/\iL []=[])/\0=0/\(0=0/\iL []=[])/\Cont.ints u8 []=Cont.ints u8 []/\0=0/\0=0/\True):=by kernel_rfl
theorem C5Q (a k:List Int)(i:Int):fnP (UC) G 10000 C7C (.r [] 0 (.r [] 1 (.r [] 0 (.ff (.r [yL 323] 14 (.ff (.r [] 21 .nil))))))) ([A2W a k,.int .i64 i]) ([.agg [.fullc 0 (A0r a i.toNat).length (A0r a i.toNat).length,.fullc 1 (A0r k i.toNat).length (A0r k i.toNat).length],.int .i64 0]) ([A2j .i64 (A0r a i.toNat),A2j .u8 (A0r k i.toNat)])=(
 (fun(zz1:Nat)=>(fun(zz0:Nat)=>(length a=length a/\length k=length k/\length a<1000000000000)/\(chk a k !=0)=false/\(!ltb i 0)=true/\leb (if 1>(↑(length a):Int)
 then 1 else(↑(length a):Int)) i=false/\(length a=length a/\0<length a/\length a<100000000000/\0<=i/\i<=(↑(length a):Int))/\(length k=length k/\0<length k/\length k
 <100000000000/\0<=i/\i<=(↑(length k):Int))/\qx zz0 (qx (A0r a (Int.toNat i)) (qx zz1 (qx (A0r k (Int.toNat i)) (qx zz0 (qx zz0 (qx zz1 (qx zz1 (iI 0=0/\True))))))))) (length
 (A0r a (Int.toNat i)))) (length (A0r k (Int.toNat i)))):=by kernel_rfl
theorem C2x (a k:List Int):fnP (UC) G 10000 C32 (.r [] 0 (.r [] 21 (.r [] 1 (.r [] 0 (.tt (.r [] 9 (.r [] 3 .nil))))))) ([A2W a k]) ([.agg [A10 .i64 a.reverse,.fullc 0 (A0j k).length (A0j k).length]]) ([A2j .u8 (A0j k)])=(
 (fun(zz0:Nat)=>(length a=length a/\length a<100000000000)/\(length k=length k/\length k<100000000000)/\ltb 0 (↑(length k):Int)=true/\inR i64 ((↑(length k):Int)-1)=
 true/\(length k=length (reverse k)/\0<length (reverse k)/\length (reverse k)<100000000000/\0<=(↑(length k):Int)-1/\(↑(length k):Int)-1<=(↑(length (reverse k)):Int))/\
 length (A0r (reverse k) zz0)=length (A0j k)/\A0r (reverse k) zz0=A0j k/\qx (Cont.ints i64 (reverse a)) (length a=length (reverse a)/\length a=length (reverse a)/\length
 (A0r (reverse k) zz0)=length (A0j k)/\length (A0r (reverse k) zz0)=length (A0j k)/\True)) (Int.toNat ((↑(length k):Int)-1))):=by kernel_rfl
theorem C2y (a k:List Int):fnP (UC) G 10000 C32 (.r [] 0 (.r [] 21 (.r [] 1 (.r [] 0 (.tt (.r [] 9 (.frz 3 0 (.r [] 3 .nil)))))))) ([A2W a k]) ([C0u a.reverse (A0j k)]) ([])=(
 (fun(zz0:Nat)=>(length a=length a/\length a<100000000000)/\(length k=length k/\length k<100000000000)/\ltb 0 (↑(length k):Int)=true/\inR i64 ((↑(length k):Int)-1)=
 true/\(length k=length (reverse k)/\0<length (reverse k)/\length (reverse k)<100000000000/\0<=(↑(length k):Int)-1/\(↑(length k):Int)-1<=(↑(length (reverse k)):Int))/\
 length (A0r (reverse k) zz0)=length (A0r (reverse k) zz0)/\Cont.ints i64 (reverse a)=Cont.ints i64 (reverse a)/\length a=length (reverse a)/\length a=length (reverse a)/\
 Cont.ints u8 (A0r (reverse k) zz0)=Cont.ints u8 (A0j k)/\length (A0r (reverse k) zz0)=length (A0j k)/\length (A0r (reverse k) zz0)=length (A0j k)/\True) (Int.toNat
 ((↑(length k):Int)-1))):=by kernel_rfl
theorem C2z (a k:List Int):fnP (UC) G 10000 C32 (.r [] 0 (.r [] 21 (.r [] 1 (.r [] 0 (.ff (.r [] 3 .nil)))))) ([A2W a k]) ([C0u a.reverse (A0j k)]) ([])=(
 (length a=length a/\length a<100000000000)/\(length k=length k/\length k<100000000000)/\ltb 0 (↑(length k):Int)=false/\Cont.ints i64 (reverse a)=Cont.ints i64 (reverse a)/\length a
 =length (reverse a)/\length a=length (reverse a)/\Cont.ints u8 (reverse k)=Cont.ints u8 (A0j k)/\length k=length (A0j k)/\length k=length (A0j k)/\True):=by kernel_rfl
theorem C5R (a k:List Int):fnP (UO) G 10000 C4v (.r [] 0 (.r [] 5 (.r [] 1 (.lp (l21 (A0j k)) [] [] (fun b=>(.r [] 0 (.cnd (.r [] 0 (.rs 3 [] 0 18 (.r [] 3 (.lit (.r [] 1 (.r [] 0 .nil)))) (.r [] 3 (.cnd (.r [] 1 (.r [] 0 .nil)) (.r [] 0 .nil))))) (.frz 3 0 (.r [] 3 .nil))))))))) ([A2W a k]) ([C0u a.reverse (A29 (A0j k))]) ([])=(
 (fun(zz3:Nat)=>(fun(zz0:Nat)=>(length a=length a/\length k=length k/\length a<100000000000/\0<length k/\length k<100000000000)/\qx zz0 (1=1/\qs i64 a (qs u8 k (1
 =1/\qx zz0 (A0j k=A0j k/\1=1/\qs i64 (reverse a) (qx zz3 (qx zz0 (qx zz0 (0=0/\0=0/\qx zz0 (qx zz0 (ql (A0j k) (iI 0=0/\(∃(n:Nat),0=(↑n:Int)/\n<=length
 (A0j k)/\A0j k=take n (A29 (A0j k))++drop n (A0j k))/\∀(b:L21),(fun(zz2:Prop)=>(fun(zz1:List Int)=>(∃(n:Nat),b.i=(↑n:Int)/\n<=length (A0j k)/\b.l=
 take n (A29 (A0j k))++drop n (A0j k))->(ltb b.i (↑zz0:Int)=true->leb 0 b.i=true/\ltb b.i (↑zz0:Int)=true/\length b.l=length (A0j k)/\length b.l=length (A0j k)/\
 ltn (Int.toNat b.i) (Cont.size (Cont.ints u8 b.l))=true/\((getD b.l (Int.toNat b.i) 0==1)=true->inR u8 (3-getD b.l (Int.toNat b.i) 0)=true/\leb 0 b.i=true/\ltb b.i (↑zz0:
 Int)=true/\length b.l=length (A0j k)/\length b.l=length (A0j k)/\A0R (Int.toNat b.i+1) (Cont.size (Cont.ints u8 b.l))=true/\inR i64 (b.i+1)=true/\1=1/\qs i64 a (qs
 u8 k (1=1/\length b.l=length zz1/\qx zz1 (1=1/\qs i64 (reverse a) (qx zz3 (qx zz0 (qx zz0 (0=0/\0=0/\qx zz0 (qx zz0 (ql (A0j k) (b.i+1=b.i+1/\zz2/\length (A0j k)-
 Int.toNat (b.i+1)<length (A0j k)-Int.toNat b.i/\True)))))))))))/\((getD b.l (Int.toNat b.i) 0==1)=false->((getD b.l (Int.toNat b.i) 0==2)=true->inR u8 (3-getD b.l
 (Int.toNat b.i) 0)=true/\leb 0 b.i=true/\ltb b.i (↑zz0:Int)=true/\length b.l=length (A0j k)/\length b.l=length (A0j k)/\A0R (Int.toNat b.i+1) (Cont.size (Cont.ints u8
 b.l))=true/\inR i64 (b.i+1)=true/\1=1/\qs i64 a (qs u8 k (1=1/\length b.l=length zz1/\qx zz1 (1=1/\qs i64 (reverse a) (qx zz3 (qx zz0 (qx zz0 (0=0/\0=0/\qx zz0 (qx
 zz0 (ql (A0j k) (b.i+1=b.i+1/\zz2/\length (A0j k)-Int.toNat (b.i+1)<length (A0j k)-Int.toNat b.i/\True)))))))))))/\((getD b.l (Int.toNat b.i) 0==2)=false->inR
 i64 (b.i+1)=true/\1=1/\qs i64 a (qs u8 k (1=1/\qx (length b.l) (b.l=b.l/\1=1/\qs i64 (reverse a) (qx zz3 (qx zz0 (qx zz0 (0=0/\0=0/\qx zz0 (qx zz0 (ql (A0j k) (b.i+
 1=b.i+1/\(∃(n:Nat),b.i+1=(↑n:Int)/\n<=length (A0j k)/\b.l=take n (A29 (A0j k))++drop n (A0j k))/\length (A0j k)-Int.toNat (b.i+1)<length (A0j k)-
 Int.toNat b.i/\True)))))))))))))/\(ltb b.i (↑zz0:Int)=false->length b.l=length (A0j k)/\qs i64 (reverse a) (qx zz3 (Cont.ints u8 b.l=Cont.ints u8 (A29 (A0j k))/\length
 (A0j k)=length (A29 (A0j k))/\length (A0j k)=length (A29 (A0j k))/\True)))) (set b.l (Int.toNat b.i) (3-getD b.l (Int.toNat b.i) 0))) (∃(n:Nat),b.i+1=(↑n:Int)/\n
 <=length (A0j k)/\set b.l (Int.toNat b.i) (3-getD b.l (Int.toNat b.i) 0)=take n (A29 (A0j k))++drop n (A0j k)))))))))))))) (length (A0j k))) (length (reverse a))):=by kernel_rfl
theorem C2A (a:List Int):fnP (UOz) G 10000 C4v (.r [] 0 (.r [] 5 (.r [] 1 (.un (.r [] 0 (.lit (.r [] 3 .nil))))))) ([.agg [.imm (.ints .i64 a) a.length none,.imm (.ints .u8 []) 0 none]]) ([C0u a.reverse []]) ([])=(
 (length a=length a/\0=0/\length a<100000000000/\0<100000000000)/\qs i64 (reverse a) (qx (length (reverse a)) (Cont.ints u8 []=Cont.ints u8 []/\0=0/\0=0/\True))):=by kernel_rfl
open List IntKind
theorem C5S (a k:List Int):fnP (TB1) G 10000 C77 (.r [] 0 (.r [] 1 (.r [] 0 (.cnd (.r [] 0 .nil) (.r [] 1 (.r [] 0 (.frz 4 0 (.r [] 1 (.gho 5 9001 1 (Cont.ints i64 []) (.lp (l38 a k) [] [] (fun b=>(.r [] 0 (.cnd (.r [] 0 (.r [] 33 (.cnd (.r [] 0 .nil) (.r [] 0 (.un (.r [] 0 (.lit (.r [] 7 (.r [] 1 (.cnd (.r [] 0 .nil) (.r [] 1 (.un (.r [] 0 (.lit (.r [] 7 (.r [] 1 (.cnd (.r [] 0 .nil) (.r [] 1 (.un (.r [] 0 (.lit (.r [] 4 (.r [] 0 .nil))))))))))))))))))))))) (.frz 5 0 (.r [] 0 .nil))))))))))))))) ([A2W a k]) ([A10 .i64 (stI a k)]) ([])=(
 (ltb (↑(length a):Int) 4=true->Cont.size (Cont.ints i64 (stI a k))=0/\length (stI a k)=0/\length (stI a k)=0/\True)/\(ltb (↑(length a):Int) 4=false->1=1/\qs i64 a (qs
 u8 k (1=1/\ql a (0=0/\iL []=[]/\0=0/\Cont.vals [AV.int i64 (↑(length a):Int)]=Cont.vals [AV.int i64 (↑(length a):Int)]/\0=0/\qs i64 a (ql a (iI 0=0/\(∃(n:Nat),0
 =(↑n:Int)/\n<=length a/\[]=inL (filter (stB a k) (range.loop n [])))/\∀(b:L38),(fun(zz3:Int)=>(fun(zz2:Int)=>(fun(zz1:Prop)=>(fun(zz0:Int)=>(fun(zz4:Bool)
 =>(∃(n:Nat),b.i=(↑n:Int)/\n<=length a/\b.l=inL (filter (stB a k) (range.loop n [])))->(ltb b.i (↑(length a):Int)=true->rd i64 a b.i (rd u8 k b.i (inR i64 (b.i+1)=true
 /\(0<(↑(length a):Int)/\(↑(length a):Int)<1000000000000/\ -1000000000000<b.i+1/\b.i+1<1000000000000)/\rd u8 k zz0 ((zz4=true->inR i64 (b.i+1)=true/\1=1/\qs i64
 a (qs u8 k (1=1/\ql a (qx (length b.l) (b.l=b.l/\0=0/\Cont.vals [AV.int i64 (↑(length a):Int)]=Cont.vals [AV.int i64 (↑(length a):Int)]/\qx (length b.l) (qs i64 a (ql a (b.i
 +1=b.i+1/\zz1/\length a-Int.toNat (b.i+1)<length a-Int.toNat b.i/\True))))))))/\(zz4=false->inR i64 (b.i-1)=true/\(0<(↑(length a):Int)/\(↑(length a):Int)<
 1000000000000/\ -1000000000000<b.i-1/\b.i-1<1000000000000)/\inR i64 (b.i+1)=true/\(0<(↑(length a):Int)/\(↑(length a):Int)<1000000000000/\ -1000000000000<b.i+1/\
 b.i+1<1000000000000)/\rd i64 a zz2 ((ltb (getD (drop (Int.toNat zz2) a) 0 0) zz3=true->inR i64 (b.i+1)=true/\1=1/\qs i64 a (qs u8 k (1=1/\ql a (qx (length b.l) (b.l=b.l
 /\0=0/\Cont.vals [AV.int i64 (↑(length a):Int)]=Cont.vals [AV.int i64 (↑(length a):Int)]/\qx (length b.l) (qs i64 a (ql a (b.i+1=b.i+1/\zz1/\length a-Int.toNat (b.i+1)
 <length a-Int.toNat b.i/\True))))))))/\(ltb (getD (drop (Int.toNat zz2) a) 0 0) zz3=false->rd i64 a zz0 ((ltb (getD (drop (Int.toNat zz0) a) 0 0) zz3=true->inR i64 (b.i+1)=
 true/\1=1/\qs i64 a (qs u8 k (1=1/\ql a (qx (length b.l) (b.l=b.l/\0=0/\Cont.vals [AV.int i64 (↑(length a):Int)]=Cont.vals [AV.int i64 (↑(length a):Int)]/\qx (length b.l)
 (qs i64 a (ql a (b.i+1=b.i+1/\zz1/\length a-Int.toNat (b.i+1)<length a-Int.toNat b.i/\True))))))))/\(ltb (getD (drop (Int.toNat zz0) a) 0 0) zz3=false->qx (length b.l)
 (A0R ((length b.l+1)*8) 140737488355328=true/\inR i64 (b.i+1)=true/\1=1/\qs i64 a (qs u8 k (1=1/\ql a (length b.l+1=length (b.l++[b.i])/\b.l++[b.i]=b.l++[b.i]
 /\0=0/\Cont.vals [AV.int i64 (↑(length a):Int)]=Cont.vals [AV.int i64 (↑(length a):Int)]/\length b.l+1=length (b.l++[b.i])/\qs i64 a (ql a (b.i+1=b.i+1/\(∃(n:Nat),
 b.i+1=(↑n:Int)/\n<=length a/\b.l++[b.i]=inL (filter (stB a k) (range.loop n [])))/\length a-Int.toNat (b.i+1)<length a-Int.toNat b.i/\True)))))))))))))))/\(ltb b.i
 (↑(length a):Int)=false->qx (length b.l) (qx (length b.l) (Cont.ints i64 b.l=Cont.ints i64 (stI a k)/\length b.l=length (stI a k)/\length b.l=length (stI a k)/\True)))) (getD
 (drop (Int.toNat b.i) k) 0 0==getD (drop (Int.toNat zz0) k) 0 0)) (Int.tmod (b.i+1+(↑(length a):Int)) (↑(length a):Int))) (∃(n:Nat),b.i+1=(↑n:Int)/\n<=length a/\b.l=
 inL (filter (stB a k) (range.loop n [])))) (Int.tmod (b.i-1+(↑(length a):Int)) (↑(length a):Int))) (getD (drop (Int.toNat b.i) a) 0 0)))))))):=by kernel_rfl
theorem C5T (a k:List Int)(i:Int):fnP (TB1) G 10000 C78 (.r [] 0 (.r [] 1 (.r [] 1 (.r [] 0 (.frz 6 0 (.r [] 0 (.ghc 256 0 9001 1 (Cont.ints i64 []) (.ghc 256 1 9002 1 (Cont.ints u8 []) (.lp (l40 a k (Int.toNat i)) [] [] (fun b=>(.r [] 0 (.cnd (.r [] 0 (.rs 4 [] 0 22 (.r [] 3 (.lit (.r [] 0 .nil))) (.r [] 12 (.cnd (.r [] 0 .nil) (.r [] 1 (.r [] 0 (.cnd (.r [] 129 (.r [] 28729 (.r [] 0 .nil))) (.r [] 28729 (.r [] 0 .nil))))))))) (.frz 7 0 (.r [] 21 .nil)))))))))))))) ([A2W a k,.int .i64 i]) ([.agg [A10 .i64 (A1s a i.toNat),A10 .u8 (A1R k i.toNat)]]) ([])=(
 (fun(zz7:Int)=>(fun(zz4:List Int)=>(fun(zz0:List Int)=>1=1/\qs i64 a (qs u8 k (1=1/\1=1/\ql a (1=1/\0=0/\0=0/\0=0/\iL []=[]/\0=0/\iL []=[]/\i=i
 /\0=0/\0=0/\Cont.vals [AV.int i64 (↑(length a):Int)]=Cont.vals [AV.int i64 (↑(length a):Int)]/\0=0/\ql a (iI 0=0/\(∃(n:Nat),0=(↑n:Int)/\n<=length a/\[]=map
 (B3T a (Int.toNat i)) (A2v (length a) (Int.toNat i) n)/\[]=map (gt k) (A2v (length a) (Int.toNat i) n))/\∀(b:L40),(fun(zz6:Bool)=>(fun(zz5:Bool)=>(fun(zz3:Prop)=>
 (fun(zz2:List Int)=>(fun(zz1:List Int)=>(∃(n:Nat),b.i=(↑n:Int)/\n<=length a/\b.a=map (B3T a (Int.toNat i)) (A2v (length a) (Int.toNat i) n)/\b.k=map (gt k)
 (A2v (length a) (Int.toNat i) n))->(ltb b.i (↑(length a):Int)=true->((b.i==i)=true->inR i64 (b.i+1)=true/\1=1/\qs i64 a (qs u8 k (1=1/\1=1/\ql a (1=1/\qx
 (length b.a) (qx (length b.k) (qx (length b.a) (b.a=b.a/\qx (length b.k) (b.k=b.k/\i=i/\0=0/\0=0/\Cont.vals [AV.int i64 (↑(length a):Int)]=Cont.vals [AV.int i64 (↑(length
 a):Int)]/\0=0/\ql a (b.i+1=b.i+1/\zz3/\length a-Int.toNat (b.i+1)<length a-Int.toNat b.i/\True)))))))))/\((b.i==i)=false->inR i64 (i+1)=true/\(0<(↑(length
 a):Int)/\(↑(length a):Int)<1000000000000/\ -1000000000000<i+1/\i+1<1000000000000)/\(zz5=true->inR i64 (b.i+1)=true/\1=1/\qs i64 a (qs u8 k (1=1/\1=1/\ql a
 (1=1/\qx (length b.a) (qx (length b.k) (qx (length b.a) (b.a=b.a/\qx (length b.k) (b.k=b.k/\i=i/\0=0/\0=0/\Cont.vals [AV.int i64 (↑(length a):Int)]=Cont.vals [AV.int
 i64 (↑(length a):Int)]/\0=0/\ql a (b.i+1=b.i+1/\zz3/\length a-Int.toNat (b.i+1)<length a-Int.toNat b.i/\True)))))))))/\(zz5=false->rd i64 a b.i (inR i64 (i-1)=
 true/\(0<(↑(length a):Int)/\(↑(length a):Int)<1000000000000/\ -1000000000000<i-1/\i-1<1000000000000)/\(zz6=true->inR i64 (i+1)=true/\(0<(↑(length a):Int)/\
 (↑(length a):Int)<1000000000000/\ -1000000000000<i+1/\i+1<1000000000000)/\rd i64 a zz7 (rd i64 a i (inR i64 (getD zz0 0 0-getD zz4 0 0)=true/\inR i64 (getD zz1 0 0+(getD
 zz0 0 0-getD zz4 0 0))=true/\qx (length b.a) (A0R ((length b.a+1)*8) 140737488355328=true/\rd u8 k b.i (qx (length b.k) (A0R ((length b.k+1)*1) 140737488355328=true/\inR
 i64 (b.i+1)=true/\1=1/\qs i64 a (qs u8 k (1=1/\1=1/\ql a (1=1/\length b.a+1=length (b.a++[getD zz1 0 0+(getD zz0 0 0-getD zz4 0 0)])/\length b.k+1=length (b.k
 ++[getD zz2 0 0])/\length b.a+1=length (b.a++[getD zz1 0 0+(getD zz0 0 0-getD zz4 0 0)])/\b.a++[getD zz1 0 0+(getD zz0 0 0-getD zz4 0 0)]=b.a++[getD zz1 0 0+(getD
 zz0 0 0-getD zz4 0 0)]/\length b.k+1=length (b.k++[getD zz2 0 0])/\b.k++[getD zz2 0 0]=b.k++[getD zz2 0 0]/\i=i/\0=0/\0=0/\Cont.vals [AV.int i64 (↑(length a):
 Int)]=Cont.vals [AV.int i64 (↑(length a):Int)]/\0=0/\ql a (b.i+1=b.i+1/\(∃(n:Nat),b.i+1=(↑n:Int)/\n<=length a/\b.a++[getD zz1 0 0+(getD zz0 0 0-getD zz4 0
 0)]=map (B3T a (Int.toNat i)) (A2v (length a) (Int.toNat i) n)/\b.k++[getD zz2 0 0]=map (gt k) (A2v (length a) (Int.toNat i) n))/\length a-Int.toNat (b.i+1)<length a-
 Int.toNat b.i/\True))))))))))/\(zz6=false->qx (length b.a) (A0R ((length b.a+1)*8) 140737488355328=true/\rd u8 k b.i (qx (length b.k) (A0R ((length b.k+1)*1)
 140737488355328=true/\inR i64 (b.i+1)=true/\1=1/\qs i64 a (qs u8 k (1=1/\1=1/\ql a (1=1/\length b.a+1=length (b.a++[getD zz1 0 0])/\length b.k+1=length (b.k++
 [getD zz2 0 0])/\length b.a+1=length (b.a++[getD zz1 0 0])/\b.a++[getD zz1 0 0]=b.a++[getD zz1 0 0]/\length b.k+1=length (b.k++[getD zz2 0 0])/\b.k++[getD zz2 0 0]=
 b.k++[getD zz2 0 0]/\i=i/\0=0/\0=0/\Cont.vals [AV.int i64 (↑(length a):Int)]=Cont.vals [AV.int i64 (↑(length a):Int)]/\0=0/\ql a (b.i+1=b.i+1/\(∃(n:Nat),b.i
 +1=(↑n:Int)/\n<=length a/\b.a++[getD zz1 0 0]=map (B3T a (Int.toNat i)) (A2v (length a) (Int.toNat i) n)/\b.k++[getD zz2 0 0]=map (gt k) (A2v (length a) (Int.toNat i)
 n))/\length a-Int.toNat (b.i+1)<length a-Int.toNat b.i/\True))))))))))))/\(ltb b.i (↑(length a):Int)=false->qx (length b.a) (qx (length b.k) (qx (length b.a) (qx (length b.k)
 (Cont.ints i64 b.a=Cont.ints i64 (A1s a (Int.toNat i))/\length b.a=length (A1s a (Int.toNat i))/\length b.a=length (A1s a (Int.toNat i))/\Cont.ints u8 b.k=Cont.ints u8
 (A1R k (Int.toNat i))/\length b.k=length (A1R k (Int.toNat i))/\length b.k=length (A1R k (Int.toNat i))/\True)))))) (drop (Int.toNat b.i) a)) (drop (Int.toNat b.i) k)) (∃(n:
 Nat),b.i+1=(↑n:Int)/\n<=length a/\b.a=map (B3T a (Int.toNat i)) (A2v (length a) (Int.toNat i) n)/\b.k=map (gt k) (A2v (length a) (Int.toNat i) n))) (b.i==Int.tmod (i+
 1+(↑(length a):Int)) (↑(length a):Int))) (b.i==Int.tmod (i-1+(↑(length a):Int)) (↑(length a):Int))))))) (drop (Int.toNat zz7) a)) (drop (Int.toNat i) a)) (Int.tmod (i+1+
 (↑(length a):Int)) (↑(length a):Int))):=by kernel_rfl
set_option linter.unusedSimpArgs false
theorem tm1 {j n:Nat}:((j:Int)+1+n).tmod n=(((j+1)%n:Nat):Int):=by
 have e:(j:Int)+1+n=((j+1+n:Nat):Int):=by omega
 rw[e]
 change (((j+1+n)%n:Nat):Int)=_
 rw[Nat.add_mod_right]
theorem tm2 {j n:Nat}(h:0<n):((j:Int)-1+n).tmod n=(((j+n-1)%n:Nat):Int):=by
 have e:(j:Int)-1+n=((j+n-1:Nat):Int):=by omega
 rw[e];rfl
theorem A8t {p:Nat->Bool}{n:Nat}(h:p n=true):(List.range (n+1)).filter p=(List.range n).filter p++[n]:=by
 rw[List.range_succ,List.filter_append];simp[h]
theorem B1n {p:Nat->Bool}{n:Nat}(h:p n=false):(List.range (n+1)).filter p=(List.range n).filter p:=by
 rw[List.range_succ,List.filter_append];simp[h]
theorem C2B {p:Nat->Bool}{n:Nat}{l:List Int}(hl:l=inL ((List.range n).filter p))(h:p n=true):l++[(n:Int)]=inL ((List.range (n+1)).filter p):=by
 rw[A8t h,hl];simp[inL]
theorem B7c {p:Nat->Bool}{n:Nat}{l:List Int}(hl:l=inL ((List.range n).filter p))(h:p n=false):l=inL ((List.range (n+1)).filter p):=by
 rw[B1n h,hl]
theorem C2C {p:Nat->Bool}{n:Nat}{l:List Int}(hl:l=inL ((List.range n).filter p)):l.length<=n:=by
 rw[hl];simp only[inL,List.length_map];exact Nat.le_trans (List.length_filter_le _ _) (by simp)
theorem B7d {a k:List Int}{n:Nat}:stB a k n=true↔¬ k[n]?.getD 0=k[(n+1)%a.length]?.getD 0/\a[n]?.getD 0<=a[(n+a.length-1)%a.length]?.getD 0/\a[n]?.getD 0<=a[(n+1)%a.length]?.getD 0:=by
 simp only[stB,Bool.and_eq_true,decide_eq_true_eq,Bool.not_eq_true',beq_eq_false_iff_ne,ne_eq];exact Iff.rfl
theorem B7e {a k:List Int}{n:Nat}(h:¬ (¬ k[n]?.getD 0=k[(n+1)%a.length]?.getD 0/\a[n]?.getD 0<=a[(n+a.length-1)%a.length]?.getD 0/\a[n]?.getD 0<=a[(n+1)%a.length]?.getD 0)):stB a k n=false:=by
 cases e:stB a k n with
 |false=>rfl
 |true=>exact absurd (B7d.1 e) h
theorem D6l (a k:List Int)(hk:k.length=a.length)(hz:a.length<1000000000):SpecP Tryz.prog G 64 [A2W a k] (A10 .i64 (stI a k)) []:=by
 refine A0e hcm hmx C2m D3L rfl (C5S a k) ?_;dsimp -failIfUnchanged -proj -eta -iota -zeta only[rd,rdw,qs,ql,qx];simp only[A0h,A0x,A0k,A0M,A0u,A2c,A0t,A1u,A0p,A12,A1v,A0i,A0F,A0y,A0H,A0Q,List.getElem?_drop,beq_iff_eq,beq_eq_false_iff_ne,bne_iff_ne,bne_eq_false_iff_eq,ne_eq,Nat.zero_add,Nat.add_zero,Nat.mul_one,Int.toNat_natCast,and_true,true_and,List.length_drop,List.length_append,List.length_cons,List.length_nil,List.length_set,List.getD_eq_getElem?_getD,implies_true,iI,iL,Bool.not_eq_true',Bool.not_eq_false',Int.natCast_inj];refine⟨fun h4=>?_,fun h4=>⟨⟨0,rfl,by omega,rfl⟩,?_⟩⟩
 ·have h:a.length<4:=by omega
  have e:stI a k=[]:=by simp[stI,A1J,h,inL]
  rw[e];simp
 ·have h4:¬ a.length<4:=by omega
  rintro⟨i,l⟩ ⟨n,rfl,hn,hl⟩;have hlen:=C2C hl;simp only at hl hlen;simp only[Int.toNat_natCast,tm1,tm2 (show 0<a.length by omega),hk];have hm1:(n+1)%a.length<a.length:=Nat.mod_lt _ (by omega);have hm2:(n+a.length-1)%a.length<a.length:=Nat.mod_lt _ (by omega);refine⟨fun hlt=>?_,fun hge=>?_⟩
  ·refine⟨by omega,by omega,by omega,by omega,by omega,by omega,by omega,by omega,by omega,by omega,by omega,by omega,by omega,by omega,fun he=>⟨by omega,⟨n+1,by omega,by omega,?_⟩,by omega⟩,fun he=>⟨by omega,by omega,by omega,by omega,by omega,by omega,by omega,by omega,fun h1=>⟨by omega,⟨n+1,by omega,by omega,?_⟩,by omega⟩,fun h1=>⟨by omega,by omega,by omega,by omega,fun h2=>⟨by omega,⟨n+1,by omega,by omega,?_⟩,by omega⟩,fun h2=>⟨by omega,by omega,⟨n+1,by omega,by omega,?_⟩,by omega⟩⟩⟩⟩
   ·exact B7c hl (B7e fun h=>h.1 he)
   ·exact B7c hl (B7e fun h=>by omega)
   ·exact B7c hl (B7e fun h=>by omega)
   ·exact C2B hl (B7d.2 ⟨he,h1,h2⟩)
  ·have e:n=a.length:=by omega
   subst e;have e2:l=inL (A1J a k):=by rw[hl,A1J,if_neg h4];rfl
   exact⟨congrArg _ e2,congrArg _ e2,congrArg _ e2⟩
theorem D6m:A1j Tryz.prog G 64 e38:=by
 intro args r h hp;unfold e38 at h;split at h<;>cases h;obtain⟨rfl,rfl,h1,h2⟩:=hp;exact(D6l _ _ h1 h2).caps
theorem C96:A3W Tryz.prog G tlC:=⟨D6m,D6h,C5B⟩
theorem C0y:∀{a k:List Int} {s:Int},0<=s->okF a k s=true->(∀x∈a,1<=x/\x<=s)/\a.sum<=s/\∀x∈k,x=1\/x=2
 |[],[],s,hs,h=>⟨by simp,by simpa using hs,by simp⟩
 |x::a,y::k,s,hs,h=>by
  simp only[okF,Bool.and_eq_true,Bool.or_eq_true,beq_iff_eq,decide_eq_true_eq]at h;obtain⟨h1,h2,h3,h4⟩:=h;obtain⟨g1,g2,g3⟩:=C0y (by omega) h4;refine⟨fun z hz=>?_,by simp;omega,fun z hz=>?_⟩
  ·rcases List.mem_cons.1 hz with rfl|hz
   ·omega
   ·have:=g1 z hz;omega
  ·rcases List.mem_cons.1 hz with rfl|hz
   ·exact h3
   ·exact g3 z hz
 |[],y::k,s,hs,h=>by simp[okF]at h
 |x::a,[],s,hs,h=>by simp[okF]at h
theorem C0z:∀{a k:List Int} {s:Int},k.length=a.length->A4s a k (8-s)=0->(∀x∈k,x≠3)->okF a k s=true
 |[],[],s,hl,h,hk=>rfl
 |x::a,y::k,s,hl,h,hk=>by
  simp only[A4s]at h;split at h
  ·cases h
  ·rename_i hc;have hy:=hk y (by simp);have e:8-s+x=8-(s-x):=by omega
   rw[e]at h;have:=C0z (by simpa using hl) h (fun z hz=>hk z (by simp[hz]));simp only[okF,Bool.and_eq_true,Bool.or_eq_true,beq_iff_eq,decide_eq_true_eq];exact⟨by omega,by omega,by omega,this⟩
 |[],y::k,s,hl,h,hk=>by simp at hl
 |x::a,[],s,hl,h,hk=>by simp at hl
theorem B3Z:∀{l:List Int} {x:Int} {i:Int},0<=i->(0<=A2P x l i↔x∈l)
 |[],x,i,h=>by simp[A2P]
 |y::l,x,i,h=>by
  simp only[A2P];split
  ·rename_i e;simp[e,h]
  ·rename_i e;rw[B3Z (by omega)];simp[e]
theorem A1B {l:List Int}{x:Int}:A1q l x=true↔x∈l:=by
 unfold A1q;rw[A0k];exact B3Z (by omega)
theorem C0A {a k:List Int}(h:dcd a k=0):okF a k 8=true:=by
 unfold dcd at h;split at h
 ·rename_i hc;have hl:=(A1V hc).1;cases hm:A1q k 3 with
  |true=>rw[hm]at h;simp[bI]at h
  |false=>
   refine C0z hl.symm ?_ fun x hx e=>?_
   ·unfold chk at hc;rw[if_pos hl]at hc;exact hc
   ·subst e;rw[A1B.2 hx]at hm;cases hm
 ·contradiction
theorem B2B {a k:List Int}(h:okF a k 8=true){n:Nat}(hn:n<a.length):1<=a[n]?.getD 0/\a[n]?.getD 0<=8:=(C0y (by omega) h).1 _ (A6a hn)
theorem B7f {n i m:Nat}(h:A2K n i m=false):A2v n i (m+1)=A2v n i m:=B1n h
theorem B30 {n i m:Nat}(h:A2K n i m=true):A2v n i (m+1)=A2v n i m++[m]:=A8t h
theorem B31 {n i m:Nat}:(A2v n i m).length<=m:=Nat.le_trans (List.length_filter_le _ _) (by simp)
theorem D6n (a k:List Int)(i:Int)(hok:okF a k 8=true)(h2:2<=a.length)(h0:0<=i)(hi:i<a.length):SpecP Tryz.prog G 65 [A2W a k,.int .i64 i] (.agg [A10 .i64 (A1s a i.toNat),A10 .u8 (A1R k i.toNat)]) []:=by
 refine A0e hcm hmx C2m D3N rfl (C5T a k i) ?_;dsimp -failIfUnchanged -proj -eta -iota -zeta only[rd,rdw,qs,ql,qx];obtain⟨hk,hz⟩:=A4t hok;have hz:=hz (by omega);obtain⟨m,rfl⟩:∃m:Nat,i=m:=⟨i.toNat,by omega⟩;simp only[Int.toNat_natCast];have hm:m<a.length:=by omega
 simp only[A0h,A0x,A0k,A0M,A0u,A2c,A0t,A1u,A0p,A12,A1v,A0i,A0F,A0y,A0H,A0Q,List.getElem?_drop,beq_iff_eq,beq_eq_false_iff_ne,bne_iff_ne,bne_eq_false_iff_eq,ne_eq,Nat.zero_add,Nat.add_zero,Nat.mul_one,Int.toNat_natCast,and_true,true_and,List.length_drop,List.length_append,List.length_cons,List.length_nil,List.length_set,List.getD_eq_getElem?_getD,implies_true,iI,iL,Bool.not_eq_true',Bool.not_eq_false',Int.natCast_inj];refine⟨⟨0,rfl,by omega,rfl,rfl⟩,?_⟩;rintro⟨j,A,K⟩ ⟨n,rfl,hn,hA,hK⟩;simp only at hA hK;have hla:A.length<=n:=by rw[hA];simpa using B31
 have hlk:K.length<=n:=by rw[hK];simpa using B31
 have hm1:(m+1)%a.length<a.length:=Nat.mod_lt _ (by omega);have hm2:(m+a.length-1)%a.length<a.length:=Nat.mod_lt _ (by omega);have g1:=B2B hok hm1;have g2:=B2B hok hm;simp only[Int.toNat_natCast,tm1,tm2 (show 0<a.length by omega),hk,List.length_append,List.length_cons,List.length_nil];refine⟨fun hlt=>?_,fun hge=>?_⟩
 ·have g3:=B2B hok (show n<a.length by omega);have fin:A2K a.length m n=false->∃n_1:Nat,(n:Int)+1=n_1/\n_1<=a.length/\A=(A2v a.length m n_1).map (B3T a m)/\K=(A2v a.length m n_1).map (gt k):=fun h=>⟨n+1,by omega,by omega,by rw[B7f h,hA],by rw[B7f h,hK]⟩;have fy:A2K a.length m n=true->∀v w,B3T a m n=v->gt k n=w->∃n_1:Nat,(n:Int)+1=n_1/\n_1<=a.length/\A++[v]=(A2v a.length m n_1).map (B3T a m)/\K++[w]=(A2v a.length m n_1).map (gt k):=fun h v w hv hw=>⟨n+1,by omega,by omega,by rw[B30 h,hA];simp[hv],by rw[B30 h,hK];simp[hw]⟩;refine⟨fun he=>⟨by omega,fin ?_,by omega⟩,fun he=>⟨by omega,by omega,fun h1=>⟨by omega,fin ?_,by omega⟩,fun h1=>⟨by omega,by omega,by omega,by omega,by omega,by omega,fun h3=>?_,fun h3=>?_⟩⟩⟩
  ·have:n=m:=by omega
   simp[A2K,this]
  ·have:n=(m+1)%a.length:=by omega
   simp[A2K,this]
  ·have hkb:A2K a.length m n=true:=by
    have e1:n≠m:=by omega
    have e2:n≠(m+1)%a.length:=by omega
    simp[A2K,e1,e2]
   have hv:B3T a m n=a[n]?.getD 0+(a[(m+1)%a.length]?.getD 0-a[m]?.getD 0):=by
    have e3:n=(m+a.length-1)%a.length:=by omega
    unfold B3T;rw[if_pos (by simpa using e3)];rfl
   refine⟨by omega,by omega,by omega,by omega,by omega,by omega,by omega,by omega,by omega,by omega,by omega,by omega,by omega,by omega,by omega,by omega,by omega,by omega,by omega,fy hkb _ _ hv rfl,by omega⟩
  ·have hkb:A2K a.length m n=true:=by
    have e1:n≠m:=by omega
    have e2:n≠(m+1)%a.length:=by omega
    simp[A2K,e1,e2]
   have hv:B3T a m n=a[n]?.getD 0:=by
    have e3:n≠(m+a.length-1)%a.length:=by omega
    unfold B3T;rw[if_neg (by simpa using e3)];rfl
   refine⟨by omega,by omega,by omega,by omega,by omega,by omega,by omega,fy hkb _ _ hv rfl,by omega⟩
 ·have e:n=a.length:=by omega
  subst e;have eA:A=A1s a m:=hA;have eK:K=A1R k m:=by rw[hK];unfold A1R;rw[hk]
  rw[eA,eK];simp
theorem D6o:A1j Tryz.prog G 65 e40:=by
 intro args r h hp;unfold e40 at h;split at h<;>cases h;obtain⟨rfl,rfl,h1,h2,h3,h4⟩:=hp;exact(D6n _ _ _ h1 h2 h3 h4).caps
theorem C97:A3W Tryz.prog G tlD:=⟨D6o,C96⟩
theorem C5U {b:Bool}{l:List Int}(h:b=false):bLs b l=[]:=by rw[h];rfl
theorem B7g {b:Bool}{l:List Int}(h:b=true):bLs b l=l:=by rw[h];rfl
theorem B7h (l:List Int)(i:Nat):(A0r l i).length=l.length:=by simp[A0r];omega
theorem B7i (l:List Int):(A0j l).length=l.length:=by rw[A0j,B7h,List.length_reverse]
theorem B1o (l:List Int):(A29 l).length=l.length:=by simp[A29]
theorem C2D {a k:List Int}(h:chk a k=0):a.length=k.length:=(A1V h).1
theorem C5V {k:List Int}{j:Nat}(hj:j<k.length):(A29 k)[j]?.getD 0=if k[j]?.getD 0=1\/k[j]?.getD 0=2 then 3-k[j]?.getD 0 else k[j]?.getD 0:=by
 rw[A29,List.getElem?_map,List.getElem?_eq_getElem hj];rfl
theorem C2E {a:List Int}{m:Nat}(h:m<a.length):a.reverse[m]?.getD 0=a[a.length-1-m]?.getD 0:=by
 rw[List.getElem?_reverse h]
theorem B9t {a b:List Int}(hl:a.length=b.length)(h:∀m,m<a.length->a[m]?.getD 0=b[m]?.getD 0):a=b:=by
 refine List.ext_getElem hl fun m h1 h2=>?_;have:=h m h1
 rwa [List.getElem?_eq_getElem h1,List.getElem?_eq_getElem h2]at this
theorem B32 {l:List Int}{i m:Nat}{v:Int}(h:i<l.length):(l.set i v)[m]?.getD 0=if i=m then v else l[m]?.getD 0:=by
 rw[List.getElem?_set];split
 ·simp_all
 ·rfl
theorem B7j {a l:List Int}{n:Nat}(hl:l.length=a.length)(hn:n<a.length-1-n)(h:∀m,m<a.length->l[m]?.getD 0=if m<n\/a.length<=m+n then a[a.length-1-m]?.getD 0 else a[m]?.getD 0):
  ∀m,m<a.length->((l.set n (l[a.length-1-n]?.getD 0)).set (a.length-1-n) (l[n]?.getD 0))[m]?.getD 0=if m<n+1\/a.length<=m+(n+1)then a[a.length-1-m]?.getD 0 else a[m]?.getD 0:=by
 intro m hm;rw[B32 (by simp;omega),B32 (by omega)];have h1:=h n (by omega);have h2:=h (a.length-1-n) (by omega);rw[if_neg (by omega)]at h1 h2
 by_cases e1:a.length-1-n=m
 ·rw[if_pos e1,if_pos (by omega),h1];congr 2;omega
 ·rw[if_neg e1]
  by_cases e2:n=m
  ·rw[if_pos e2,if_pos (by omega),h2,e2]
  ·rw[if_neg e2,h m hm]
   by_cases e3:m<n\/a.length<=m+n
   ·rw[if_pos e3,if_pos (by omega)]
   ·rw[if_neg e3,if_neg (by omega)]
theorem C0B {a l:List Int}{n:Nat}(hl:l.length=a.length)(hn:a.length<=2*n+1)(h:∀m,m<a.length->l[m]?.getD 0=if m<n\/a.length<=m+n then a[a.length-1-m]?.getD 0 else a[m]?.getD 0):l=a.reverse:=by
 refine B9t (by simp[hl]) fun m hm=>?_;rw[C2E (by omega),h m (by omega)];split
 ·rfl
 ·congr 2;omega
theorem D6p (n:Int)(h0:0<n)(h1:n<1000000000000):SpecP Tryz.prog G 88 [.nils,.int .i64 n] (.full 0 0) [A2j .i64 []]:=by
 refine A0e hcm hmx A3w D4l rfl (C5I n) ?_;simp;omega
theorem D6q:A1j Tryz.prog G 88 (B5d .i64 8):=by
 intro args r h hp;unfold B5d at h;split at h<;>cases h;obtain⟨h0,h1⟩:=hp;exact D6p _ h0 h1
theorem D6r (n:Int)(h0:0<n)(h1:n<1000000000000):SpecP Tryz.prog G 89 [.nils,.int .i64 n] (.full 0 0) [A2j .u8 []]:=by
 refine A0e hcm hmx A3w D4n rfl (C5J n) ?_;simp;omega
theorem D6s:A1j Tryz.prog G 89 (B5d .u8 1):=by
 intro args r h hp;unfold B5d at h;split at h<;>cases h;obtain⟨h0,h1⟩:=hp;exact D6r _ h0 h1
theorem D4N:A3W Tryz.prog G uA:=⟨D6q,D6s,C97⟩
theorem D4O:TabOk Tryz.prog G UA:=A0q A0C D4N
theorem D6t (x y:List Int)(h0:0<x.length+y.length)(h1:x.length+y.length<100000000000):SpecP Tryz.prog G 66 [.imm (.vals [.imm (.ints .i64 x) x.length none,.imm (.ints .i64 y) y.length none]) 2 none] (.full 0 (x++y).length) [A2j .i64 (x++y)]:=by
 refine A0e hcm hmx D4O D3P rfl (C5K x y) ?_;simp;omega
theorem D6u:A1j Tryz.prog G 66 (C37 .i64):=by
 intro args r h hp;unfold C37 at h;split at h
 ·rw[cond_eq_ite]at h;split at h
  ·rename_i hk;rw[Bool.and_eq_true]at hk;cases h;obtain⟨rfl,rfl,h0,h1⟩:=hp;cases A0J hk.1;cases A0J hk.2;exact(D6t _ _ h0 h1).caps
  ·cases h
 ·cases h
theorem D6v (x y:List Int)(h0:0<x.length+y.length)(h1:x.length+y.length<100000000000):SpecP Tryz.prog G 68 [.imm (.vals [.imm (.ints .u8 x) x.length none,.imm (.ints .u8 y) y.length none]) 2 none] (.full 0 (x++y).length) [A2j .u8 (x++y)]:=by
 refine A0e hcm hmx D4O D3S rfl (C5L x y) ?_;simp;omega
theorem D6w:A1j Tryz.prog G 68 (C37 .u8):=by
 intro args r h hp;unfold C37 at h;split at h
 ·rw[cond_eq_ite]at h;split at h
  ·rename_i hk;rw[Bool.and_eq_true]at hk;cases h;obtain⟨rfl,rfl,h0,h1⟩:=hp;cases A0J hk.1;cases A0J hk.2;exact(D6v _ _ h0 h1).caps
  ·cases h
 ·cases h
theorem C5W:A3W Tryz.prog G uB:=⟨D6u,D6w,D4N⟩
theorem C98 (a:List Int):SpecD Tryz.prog G (.fn 40 [] []) [.full 8640 a.length] [(8640,.blk (A2j .i64 a))] (.fullc 8640 a.length a.length) [] []:=by
 refine A2b hcm hmx A3w C7S rfl (B9p a) ?_;simp
theorem C99 (a:List Int):SpecD Tryz.prog G (.fn 40 [] []) [.full 8256 a.length] [(8256,.blk (A2j .i64 a))] (.fullc 8256 a.length a.length) [] []:=by
 refine A2b hcm hmx A3w C7S rfl (B9r a) ?_;simp
theorem D6x (a:List Int)(hl:a.length<1000000000000):SpecD Tryz.prog G (.fn 69 [] []) [.fullc 8256 a.length a.length] [(8256,.blk (A2j .i64 a))] (.tup []) [(8256,.blk (A2j .i64 a.reverse))] []:=by
 refine A2b hcm hmx A3w C81 rfl (C2n a) ?_;dsimp -failIfUnchanged -proj -eta -iota -zeta only[rd,rdw,qs,ql,qx];simp only[A0h,A0x,A0k,A0M,A0u,A2c,A0t,A1u,A0p,A12,A1v,A0i,A0F,A0y,A0H,A0Q,List.getElem?_drop,beq_iff_eq,beq_eq_false_iff_ne,bne_iff_ne,bne_eq_false_iff_eq,ne_eq,Nat.zero_add,Nat.add_zero,Nat.mul_one,Int.toNat_natCast,and_true,true_and,List.length_drop,List.length_append,List.length_cons,List.length_nil,List.length_set,List.getD_eq_getElem?_getD,implies_true,iI,iL,Bool.not_eq_true',Bool.not_eq_false',Int.natCast_inj];refine⟨by omega,⟨0,rfl,by omega,by omega,fun m hm=>by rw[if_neg (by omega)]⟩,?_⟩;rintro⟨i,j,l⟩ ⟨n,rfl,rfl,h1,h2,h3⟩;simp only[Int.toNat_natCast]at h2 h3 ⊢;refine⟨fun hlt=>?_,fun hge=>?_⟩
 ·have ej:((a.length:Int)-1-n).toNat=a.length-1-n:=by omega
  rw[ej];have hs:=B7j h2 (by omega) h3;refine⟨by omega,by omega,by omega,by omega,by omega,by omega,by omega,by omega,by omega,by omega,by omega,by omega,by omega,by omega,by omega,by omega,by omega,by omega,by omega,by omega,by omega,by omega,⟨n+1,by omega,by omega,by omega,by omega,hs⟩,by omega⟩
 ·have:=C0B h2 (by omega) h3;exact⟨by rw[this],this⟩
theorem D0a (a:List Int):SpecD Tryz.prog G (.fn 67 [] []) [.full 8640 a.length] [(8640,.blk (A2j .u8 a))] (.fullc 8640 a.length a.length) [] []:=by
 refine A2b hcm hmx A3w C8a rfl (B9q a) ?_;simp
theorem D0b (a:List Int):SpecD Tryz.prog G (.fn 67 [] []) [.full 8256 a.length] [(8256,.blk (A2j .u8 a))] (.fullc 8256 a.length a.length) [] []:=by
 refine A2b hcm hmx A3w C8a rfl (B9s a) ?_;simp
theorem D6y (a:List Int)(hl:a.length<1000000000000):SpecD Tryz.prog G (.fn 71 [] []) [.fullc 8256 a.length a.length] [(8256,.blk (A2j .u8 a))] (.tup []) [(8256,.blk (A2j .u8 a.reverse))] []:=by
 refine A2b hcm hmx A3w C83 rfl (C2o a) ?_;dsimp -failIfUnchanged -proj -eta -iota -zeta only[rd,rdw,qs,ql,qx];simp only[A0h,A0x,A0k,A0M,A0u,A2c,A0t,A1u,A0p,A12,A1v,A0i,A0F,A0y,A0H,A0Q,List.getElem?_drop,beq_iff_eq,beq_eq_false_iff_ne,bne_iff_ne,bne_eq_false_iff_eq,ne_eq,Nat.zero_add,Nat.add_zero,Nat.mul_one,Int.toNat_natCast,and_true,true_and,List.length_drop,List.length_append,List.length_cons,List.length_nil,List.length_set,List.getD_eq_getElem?_getD,implies_true,iI,iL,Bool.not_eq_true',Bool.not_eq_false',Int.natCast_inj];refine⟨by omega,⟨0,rfl,by omega,by omega,fun m hm=>by rw[if_neg (by omega)]⟩,?_⟩;rintro⟨i,j,l⟩ ⟨n,rfl,rfl,h1,h2,h3⟩;simp only[Int.toNat_natCast]at h2 h3 ⊢;refine⟨fun hlt=>?_,fun hge=>?_⟩
 ·have ej:((a.length:Int)-1-n).toNat=a.length-1-n:=by omega
  rw[ej];have hs:=B7j h2 (by omega) h3;refine⟨by omega,by omega,by omega,by omega,by omega,by omega,by omega,by omega,by omega,by omega,by omega,by omega,by omega,by omega,by omega,by omega,by omega,by omega,by omega,by omega,by omega,by omega,⟨n+1,by omega,by omega,by omega,by omega,hs⟩,by omega⟩
 ·have:=C0B h2 (by omega) h3;exact⟨by rw[this],this⟩
theorem C0C {k:IntKind}{id f1:Nat}(h1:∀a,SpecD Tryz.prog G (.fn f1 [] []) [.full id a.length] [(id,.blk (A2j k a))] (.fullc id a.length a.length) [] []):C7n Tryz.prog G (C8p k id f1):=by
 intro h cv args r hr hp;unfold C8p at hr;split at hr
 ·simp only[cond_eq_ite]at hr;split at hr
  ·rename_i hi;rw[Bool.and_eq_true]at hi;have e1:=Nat.eq_of_beq_eq_true hi.1;have e2:=Nat.eq_of_beq_eq_true hi.2;subst e1;subst e2
   cases hr;obtain⟨rfl,rfl⟩:=hp;exact h1 _
  ·cases hr
 ·cases hr
theorem C5X {k:IntKind}{id f1 f2:Nat}(h1:∀a,SpecD Tryz.prog G (.fn f1 [] []) [.full id a.length] [(id,.blk (A2j k a))] (.fullc id a.length a.length) [] [])(h2:∀a:List Int,a.length<1000000000000->SpecD Tryz.prog G (.fn f2 [] []) [.fullc id a.length a.length] [(id,.blk (A2j k a))] (.tup []) [(id,.blk (A2j k a.reverse))] []):C7n Tryz.prog G (chT k id f1 f2):=by
 intro h cv args r hr hp;unfold chT at hr;split at hr
 ·simp only[cond_eq_ite]at hr;split at hr
  ·rename_i hi;rw[Bool.and_eq_true]at hi;have e1:=Nat.eq_of_beq_eq_true hi.1;have e2:=Nat.eq_of_beq_eq_true hi.2;subst e1;subst e2
   cases hr;obtain⟨rfl,rfl⟩:=hp;exact h1 _
  ·cases hr
 ·simp only[cond_eq_ite]at hr;split at hr
  ·rename_i hi;rw[Bool.and_eq_true]at hi;have e1:=Nat.eq_of_beq_eq_true hi.1;have e2:=Nat.eq_of_beq_eq_true hi.2;subst e1;subst e2
   cases hr;obtain⟨rfl,rfl,rfl,hl⟩:=hp;exact h2 _ hl
  ·cases hr
 ·cases hr
theorem C5Y:TabOk Tryz.prog G D4y:=A0q (C0C C98) C5W
theorem C5Z:TabOk Tryz.prog G D4z:=A0q (C0C D0a) C5W
theorem D6z (a:List Int)(i:Int)(h0:0<a.length)(hl:a.length<100000000000)(h1:0<=i)(h2:i<=a.length):SpecP Tryz.prog G 46 [.imm (.ints .i64 a) a.length none,.int .i64 i] (.fullc 0 (A0r a i.toNat).length (A0r a i.toNat).length) [A2j .i64 (A0r a i.toNat)]:=by
 refine A0e hcm hmx C5Y D3j rfl (C5M a i) ?_;simp[A0r,h1];omega
theorem D6A:A1j Tryz.prog G 46 (A8o .i64):=by
 intro args r h hp;unfold A8o at h;split at h
 ·rw[cond_eq_ite]at h;split at h
  ·rename_i hk;cases h;cases A0J hk;obtain⟨rfl,h0,hl,h1,h2⟩:=hp;exact(D6z _ _ h0 hl h1 h2).caps
  ·cases h
 ·cases h
theorem D6B (a:List Int)(h0:0<a.length)(hl:a.length<100000000000):SpecP Tryz.prog G 41 [.imm (.ints .i64 a) a.length none] (.full 0 a.length) [A2j .i64 a]:=by
 refine A0e hcm hmx A3w C4w rfl (C5O a) ?_;simp[h0];omega
theorem D0c:SpecP Tryz.prog G 41 [.imm (.ints .i64 []) 0 none] (.imm (.ints .i64 []) 0 none) []:=by
 refine A0e hcm hmx A3w C4w rfl C2p ?_;simp
theorem D0d:SpecP Tryz.prog G 69 [.imm (.ints .i64 []) 0 none] (.tup []) []:=by
 refine A0e hcm hmx A3w C81 rfl C2r ?_;simp
theorem D4P:A1j Tryz.prog G 41 (A4u .i64):=by
 intro args r h hp;unfold A4u at h;split at h
 ·rw[cond_eq_ite]at h;split at h
  ·rename_i hk;cases h;cases A0J hk;obtain⟨rfl,h0,hl⟩:=hp;exact(D6B _ h0 hl).caps
  ·cases h
 ·cases h
theorem D0e:A1j Tryz.prog G 41 (A5m .i64):=by
 intro args r h hp;unfold A5m at h;split at h
 ·rw[cond_eq_ite]at h;split at h
  ·rename_i hk;cases h;cases A0J hk;obtain⟨rfl,rfl⟩:=hp;exact D0c.caps
  ·cases h
 ·cases h
theorem D0f:A1j Tryz.prog G 69 (B5e .i64):=by
 intro args r h hp;unfold B5e at h;split at h
 ·rw[cond_eq_ite]at h;split at h
  ·rename_i hk;cases h;cases A0J hk;obtain⟨rfl,rfl⟩:=hp;exact D0d.caps
  ·cases h
 ·cases h
theorem D6C (a:List Int)(i:Int)(h0:0<a.length)(hl:a.length<100000000000)(h1:0<=i)(h2:i<=a.length):SpecP Tryz.prog G 47 [.imm (.ints .u8 a) a.length none,.int .i64 i] (.fullc 0 (A0r a i.toNat).length (A0r a i.toNat).length) [A2j .u8 (A0r a i.toNat)]:=by
 refine A0e hcm hmx C5Z D3l rfl (C5N a i) ?_;simp[A0r,h1];omega
theorem D6D:A1j Tryz.prog G 47 (A8o .u8):=by
 intro args r h hp;unfold A8o at h;split at h
 ·rw[cond_eq_ite]at h;split at h
  ·rename_i hk;cases h;cases A0J hk;obtain⟨rfl,h0,hl,h1,h2⟩:=hp;exact(D6C _ _ h0 hl h1 h2).caps
  ·cases h
 ·cases h
theorem D6E (a:List Int)(h0:0<a.length)(hl:a.length<100000000000):SpecP Tryz.prog G 70 [.imm (.ints .u8 a) a.length none] (.full 0 a.length) [A2j .u8 a]:=by
 refine A0e hcm hmx A3w C82 rfl (C5P a) ?_;simp[h0];omega
theorem D0g:SpecP Tryz.prog G 70 [.imm (.ints .u8 []) 0 none] (.imm (.ints .u8 []) 0 none) []:=by
 refine A0e hcm hmx A3w C82 rfl C2q ?_;simp
theorem D0h:SpecP Tryz.prog G 71 [.imm (.ints .u8 []) 0 none] (.tup []) []:=by
 refine A0e hcm hmx A3w C83 rfl C2s ?_;simp
theorem D6F:A1j Tryz.prog G 70 (A4u .u8):=by
 intro args r h hp;unfold A4u at h;split at h
 ·rw[cond_eq_ite]at h;split at h
  ·rename_i hk;cases h;cases A0J hk;obtain⟨rfl,h0,hl⟩:=hp;exact(D6E _ h0 hl).caps
  ·cases h
 ·cases h
theorem D0i:A1j Tryz.prog G 70 (A5m .u8):=by
 intro args r h hp;unfold A5m at h;split at h
 ·rw[cond_eq_ite]at h;split at h
  ·rename_i hk;cases h;cases A0J hk;obtain⟨rfl,rfl⟩:=hp;exact D0g.caps
  ·cases h
 ·cases h
theorem D0j:A1j Tryz.prog G 71 (B5e .u8):=by
 intro args r h hp;unfold B5e at h;split at h
 ·rw[cond_eq_ite]at h;split at h
  ·rename_i hk;cases h;cases A0J hk;obtain⟨rfl,rfl⟩:=hp;exact D0h.caps
  ·cases h
 ·cases h
theorem D4Q:A3W Tryz.prog G uP:=⟨D4P,D6F,C5W⟩
theorem C50:TabOk Tryz.prog G D4A:=A0q (C5X C99 D6x) D4Q
theorem C51:TabOk Tryz.prog G D4B:=A0q (C5X D0b D6y) D4Q
theorem D6G:A3W Tryz.prog G uZ:=⟨D0e,D0i,D0f,D0j,C5W⟩
theorem C0D:TabOk Tryz.prog G C9H:=A0q A0C D6G
theorem D6H (a:List Int)(hl:a.length<100000000000):SpecP Tryz.prog G 48 [.imm (.ints .i64 a) a.length none] (.imm (.ints .i64 a.reverse) a.length (some a.length)) []:=by
 by_cases h:a=[]
 ·subst h;refine A0e hcm hmx C0D C8T rfl C2v ?_;simp
 ·refine A0e hcm hmx C50 C8T rfl (C2t a) ?_;have:0<a.length:=List.length_pos_iff.2 h;simp[this,hl];omega
theorem D6I (a:List Int)(hl:a.length<100000000000):SpecP Tryz.prog G 49 [.imm (.ints .u8 a) a.length none] (.imm (.ints .u8 a.reverse) a.length (some a.length)) []:=by
 by_cases h:a=[]
 ·subst h;refine A0e hcm hmx C0D C8U rfl C2w ?_;simp
 ·refine A0e hcm hmx C51 C8U rfl (C2u a) ?_;have:0<a.length:=List.length_pos_iff.2 h;simp[this,hl];omega
theorem D6J:A1j Tryz.prog G 48 (A5n .i64):=by
 intro args r h hp;unfold A5n at h;split at h
 ·rw[cond_eq_ite]at h;split at h
  ·rename_i hk;cases h;cases A0J hk;obtain⟨rfl,hl⟩:=hp;exact(D6H _ hl).caps
  ·cases h
 ·cases h
theorem D6K:A1j Tryz.prog G 49 (A5n .u8):=by
 intro args r h hp;unfold A5n at h;split at h
 ·rw[cond_eq_ite]at h;split at h
  ·rename_i hk;cases h;cases A0J hk;obtain⟨rfl,hl⟩:=hp;exact(D6I _ hl).caps
  ·cases h
 ·cases h
theorem C8z:A3W Tryz.prog G uC:=⟨D6A,D6D,D6J,D6K,C5W⟩
theorem C8A:TabOk Tryz.prog G UC:=A0q A0C C8z
theorem D6L (a k:List Int)(i:Int)(hl:a.length<100000000000)(hc:chk a k=0)(h0:0<=i)(h1:i<a.length):SpecP Tryz.prog G 22 [A2W a k,.int .i64 i] (.tup [.agg [.fullc 0 (A0r a i.toNat).length (A0r a i.toNat).length,.fullc 1 (A0r k i.toNat).length (A0r k i.toNat).length],.int .i64 0]) [A2j .i64 (A0r a i.toNat),A2j .u8 (A0r k i.toNat)]:=by
 refine A0e hcm hmx C8A D2C rfl (C5Q a k i) ?_;dsimp -failIfUnchanged -proj -eta -iota -zeta only[rd,rdw,qs,ql,qx];have hk:=C2D hc;simp only[A0h,A0x,A0k,A0M,A0u,A2c,A0t,A1u,A0p,A12,A1v,A0i,A0F,A0y,A0H,A0Q,List.getElem?_drop,beq_iff_eq,beq_eq_false_iff_ne,bne_iff_ne,bne_eq_false_iff_eq,ne_eq,Nat.zero_add,Nat.add_zero,Nat.mul_one,Int.toNat_natCast,and_true,true_and,List.length_drop,List.length_append,List.length_cons,List.length_nil,List.length_set,List.getD_eq_getElem?_getD,implies_true,iI,iL,Bool.not_eq_true',Bool.not_eq_false',Int.natCast_inj,B7h];refine⟨by omega,hc,by omega,?_,by omega,by omega⟩;split<;>omega
theorem D0k (a k:List Int)(hl:a.length<100000000000)(h0:0<k.length)(hk:k.length<100000000000):SpecP Tryz.prog G 23 [A2W a k] (.agg [A10 .i64 a.reverse,.fullc 0 (A0j k).length (A0j k).length]) [A2j .u8 (A0j k)]:=by
 refine A0e hcm hmx C8A C7D rfl (C2x a k) ?_;dsimp -failIfUnchanged -proj -eta -iota -zeta only[rd,rdw,qs,ql,qx];have e:((k.length:Int)-1).toNat=k.length-1:=by omega
 simp only[A0h,A0x,A0k,A0M,A0u,A2c,A0t,A1u,A0p,A12,A1v,A0i,A0F,A0y,A0H,A0Q,List.getElem?_drop,beq_iff_eq,beq_eq_false_iff_ne,bne_iff_ne,bne_eq_false_iff_eq,ne_eq,Nat.zero_add,Nat.add_zero,Nat.mul_one,Int.toNat_natCast,and_true,true_and,List.length_drop,List.length_append,List.length_cons,List.length_nil,List.length_set,List.getD_eq_getElem?_getD,implies_true,iI,iL,Bool.not_eq_true',Bool.not_eq_false',Int.natCast_inj,List.length_reverse,e,A0j];omega
theorem D6M (a k:List Int)(hl:a.length<100000000000)(hk:k.length<100000000000):SpecP Tryz.prog G 23 [A2W a k] (C0u a.reverse (A0j k)) []:=by
 by_cases h:k=[]
 ·subst h;refine A0e hcm hmx C8A C7D rfl (C2z a []) ?_;simp[hl,A0j,A0r]
 ·refine A0e hcm hmx C8A C7D rfl (C2y a k) ?_;have:0<k.length:=List.length_pos_iff.2 h;have e:((k.length:Int)-1).toNat=k.length-1:=by omega
  simp only[A0h,A0x,A0k,A0M,A0u,A2c,A0t,A1u,A0p,A12,A1v,A0i,A0F,A0y,A0H,A0Q,List.getElem?_drop,beq_iff_eq,beq_eq_false_iff_ne,bne_iff_ne,bne_eq_false_iff_eq,ne_eq,Nat.zero_add,Nat.add_zero,Nat.mul_one,Int.toNat_natCast,and_true,true_and,List.length_drop,List.length_append,List.length_cons,List.length_nil,List.length_set,List.getD_eq_getElem?_getD,implies_true,iI,iL,Bool.not_eq_true',Bool.not_eq_false',Int.natCast_inj,List.length_reverse,e,A0j];omega
theorem D0l:A1j Tryz.prog G 23 C9I:=by
 intro args r h hp;unfold C9I at h;split at h<;>cases h;obtain⟨rfl,rfl,h1,h2,h3⟩:=hp;exact(D0k _ _ h1 h2 h3).caps
theorem D0m:A1j Tryz.prog G 23 e20:=by
 intro args r h hp;unfold e20 at h;split at h<;>cases h;obtain⟨rfl,rfl,h1,h2⟩:=hp;exact(D6M _ _ h1 h2).caps
theorem D6N:A1j Tryz.prog G 22 C9J:=by
 intro args r h hp;unfold C9J at h;split at h<;>cases h;obtain⟨rfl,rfl,h1,h2,h3,h4⟩:=hp;exact(D6L _ _ _ h1 h2 h3 h4).caps
theorem D6O:TabOk Tryz.prog G UO:=A0q A0C ⟨D0l,C8z⟩
theorem D0n:TabOk Tryz.prog G UOz:=A0q A0C ⟨D0m,C8z⟩
theorem C2F {k:List Int}{n:Nat}(h:n<k.length):((A29 k).take n++k.drop n)[n]?.getD 0=k[n]?.getD 0/\∀v,v=(if k[n]?.getD 0=1\/k[n]?.getD 0=2 then 3-k[n]?.getD 0 else k[n]?.getD 0)->((A29 k).take n++k.drop n).set n v=(A29 k).take (n+1)++k.drop (n+1):=by
 have hl:((A29 k).take n).length=n:=by rw[List.length_take,B1o];omega
 have e1:k.drop n=k[n]?.getD 0::k.drop (n+1):=A1A h;refine⟨?_,fun v hv=>?_⟩
 ·rw[List.getElem?_append_right (by omega),hl,Nat.sub_self,e1];rfl
 ·have e2:(A29 k).take (n+1)=(A29 k).take n++[v]:=by
   rw[List.take_add_one,hv,<- C5V h,List.getElem?_eq_getElem (by rw[B1o];exact h)];rfl
  rw[e1,e2,List.set_append_right _ _ (by omega),hl,Nat.sub_self,List.set_cons_zero,List.append_assoc];rfl
theorem D6P (a k:List Int)(hl:a.length<100000000000)(hk:k.length<100000000000):SpecP Tryz.prog G 24 [A2W a k] (C0u a.reverse (A29 (A0j k))) []:=by
 by_cases h:k=[]
 ·subst h;refine A0e hcm hmx D0n C8R rfl (C2A a) ?_;dsimp -failIfUnchanged -proj -eta -iota -zeta only[rd,rdw,qs,ql,qx];simp[hl,A0j,A0r]
 ·have h0:0<k.length:=List.length_pos_iff.2 h;have hm:=B7i k;refine A0e hcm hmx D6O C8R rfl (C5R a k) ?_;dsimp -failIfUnchanged -proj -eta -iota -zeta only[rd,rdw,qs,ql,qx];generalize hM:A0j k=M at*;simp only[A0h,A0x,A0k,A0M,A0u,A2c,A0t,A1u,A0p,A12,A1v,A0i,A0F,A0y,A0H,A0Q,List.getElem?_drop,beq_iff_eq,beq_eq_false_iff_ne,bne_iff_ne,bne_eq_false_iff_eq,ne_eq,Nat.zero_add,Nat.add_zero,Nat.mul_one,Int.toNat_natCast,and_true,true_and,List.length_drop,List.length_append,List.length_cons,List.length_nil,List.length_set,List.getD_eq_getElem?_getD,implies_true,iI,iL,Bool.not_eq_true',Bool.not_eq_false',Int.natCast_inj,B1o];refine⟨by omega,⟨0,rfl,by omega,by simp⟩,?_⟩;rintro⟨i,l⟩ ⟨n,rfl,h1,rfl⟩;have hlen:((A29 M).take n++M.drop n).length=M.length:=by simp[B1o];omega
  simp only[Int.toNat_natCast,hlen,true_and,and_true,List.length_set];refine⟨fun hlt=>?_,fun hge=>?_⟩
  ·obtain⟨g1,g2⟩:=C2F (k:=M) (n:=n) (by omega);rw[g1];refine⟨by omega,by omega,by omega,fun c1=>?_,fun c1=>⟨fun c2=>?_,fun c2=>?_⟩⟩
   ·exact⟨by omega,by omega,by omega,by omega,by omega,⟨n+1,by omega,by omega,g2 _ (by rw[if_pos (.inl c1)])⟩,by omega⟩
   ·exact⟨by omega,by omega,by omega,by omega,by omega,⟨n+1,by omega,by omega,g2 _ (by rw[if_pos (.inr c2)])⟩,by omega⟩
   ·refine⟨by omega,⟨n+1,by omega,by omega,?_⟩,by omega⟩;rw[<- g2 _ rfl,if_neg (by omega),<- g1];apply Eq.symm;rw[List.getElem?_eq_getElem (by omega)];exact List.set_getElem_self _
  ·have:n=M.length:=by omega
   subst this;rw[List.take_of_length_le (by rw[B1o];omega),List.drop_length,List.append_nil]
theorem D4R:A1j Tryz.prog G 24 e21:=by
 intro args r h hp;unfold e21 at h;split at h<;>cases h;obtain⟨rfl,rfl,h1,h2⟩:=hp;exact(D6P _ _ h1 h2).caps
theorem D4S:A3W Tryz.prog G uR:=⟨D0m,C8z⟩
theorem D6Q:TabOk Tryz.prog G UR:=A0q A0C D4S
theorem B33 (x:Int)(l:List Int):A0j (x::l)=x::l.reverse:=by
 simp[A0j,A0r]
theorem C2G (l:List Int):A0j (A0j l)=l:=by
 cases l with
 |nil=>rfl
 |cons x l=>rw[B33,B33,List.reverse_reverse]
theorem C2H {a k:List Int}(h:0<(stI a k).length):∃(i:Nat) (r:List Nat),A1J a k=i::r/\(stI a k)[0]?.getD 0=(i:Int):=by
 unfold stI inL at*;cases e:A1J a k with
 |nil=>rw[e]at h;simp at h
 |cons i r=>exact⟨i,r,rfl,rfl⟩
theorem C2I {a k:List Int}(h:(stI a k).length=0):A1J a k=[]:=by
 unfold stI inL at*;exact List.length_eq_zero_iff.1 (by simpa using h)
theorem B7k {a k:List Int}{i:Nat}{r:List Nat}(h:A1J a k=i::r):rdI a k=(i:Int)::rdI (A1s a i) (A1R k i)/\rdA a k=rdA (A1s a i) (A1R k i)/\rdK a k=rdK (A1s a i) (A1R k i):=by
 unfold rdI rdA rdK;rw[B9g h];exact⟨rfl,rfl,rfl⟩
theorem B9u {a k:List Int}(h:A1J a k=[]):rdI a k=[]/\rdA a k=a/\rdK a k=k:=by
 unfold rdI rdA rdK;rw[C1T h];exact⟨rfl,rfl,rfl⟩
theorem B7l {a k:List Int}:okD a k=true↔dcd a k=0:=by simp[okD]
theorem D6R (a k:List Int)(hz:a.length<1000000000)(hkz:k.length<1000000000):SpecP Tryz.prog G 43 [A2W a k] (.tup [A10 .i64 (bLs (okD a k) (rdI a k)),.agg [A10 .i64 (bLs (okD a k) (rdA a k)),A10 .u8 (bLs (okD a k) (rdK a k))],.int .i64 (dcd a k)]) []:=by
 refine A0e hcm hmx D6Q D3d rfl (C5G a k) ?_;dsimp -failIfUnchanged -proj -eta -iota -zeta only[rd,rdw,qs,ql,qx];simp only[A0h,A0x,A0k,A0M,A0u,A2c,A0t,A1u,A0p,A12,A1v,A0i,A0F,A0y,A0H,A0Q,List.getElem?_drop,beq_iff_eq,beq_eq_false_iff_ne,bne_iff_ne,bne_eq_false_iff_eq,ne_eq,Nat.zero_add,Nat.add_zero,Nat.mul_one,Int.toNat_natCast,and_true,true_and,List.length_drop,List.length_append,List.length_cons,List.length_nil,List.length_set,List.getD_eq_getElem?_getD,implies_true,iI,iL,Bool.not_eq_true',Bool.not_eq_false',Int.natCast_inj,C2G,List.reverse_reverse,List.drop_zero,List.nil_append,List.length_reverse,B7i];refine⟨by omega,fun h=>?_,fun h=>?_⟩
 ·have e:okD a k=false:=by simpa[okD]using h
  simp[C5U e]
 ·have hok:=C0A h;obtain⟨hl,h8⟩:=A4t hok;have h8:=h8 (by omega);have eD:okD a k=true:=B7l.2 h;simp only[B7g eD];refine⟨by omega,by omega,⟨hl,by omega⟩,⟨hok,by omega⟩,?_⟩;rintro⟨o,A,K⟩ ⟨p1,p2,p3,p4,p5⟩;simp only at p1 p2 p3 p4 p5 ⊢;refine⟨fun hlt=>?_,fun hge=>?_⟩
  ·obtain⟨i,r,hi,hg⟩:=C2H (a:=A) (k:=K) (by omega);have him:i∈A1J A K:=by rw[hi];simp
   obtain⟨s1,s2⟩:=A57 him;obtain⟨t1,t2⟩:=B61 p1 him;have t3:=A58 (a:=A) s2;obtain⟨u1,u2,u3⟩:=B7k hi;rw[hg];simp only[Int.toNat_natCast];have t4:=A4t t1;refine⟨by omega,by omega,by omega,by omega,by omega,by omega,by omega,⟨p1,by omega,by omega,by omega⟩,⟨t4.1,by omega⟩,⟨t1,?_,?_,?_,by omega⟩,t3⟩
   ·rw[<- p2,u1];simp
   ·rw[<- p3,u2]
   ·rw[<- p4,u3]
  ·obtain⟨u1,u2,u3⟩:=B9u (C2I (a:=A) (k:=K) (by omega));rw[u1,List.append_nil]at p2;rw[u2]at p3;rw[u3]at p4;subst p2;subst p3;subst p4;simp[h]
theorem D6S:A1j Tryz.prog G 43 e18:=by
 intro args r h hp;unfold e18 at h;split at h<;>cases h;obtain⟨rfl,rfl,h1,h2⟩:=hp;exact(D6R _ _ h1 h2).caps
theorem D6T:A3W Tryz.prog G uF:=⟨D6S,D4R,D4S⟩
theorem D6U:TabOk Tryz.prog G UF:=A0q A0C D6T
theorem rd_ok {a k:List Int}(h:okF a k 8=true):okF (rdA a k) (rdK a k) 8=true/\A1J (rdA a k) (rdK a k)=[]/\base (rdA a k) (rdK a k)=A2A a k:=by
 obtain⟨h1,h2,h3⟩:=B63 _ a k (Nat.le_refl _) h;exact⟨h2,h3,rfl⟩
theorem B9v {a k:List Int}:base a k=true↔a.length=0\/a.length=2/\a[0]?.getD 0=a[1]?.getD 0/\k[0]?.getD 0=k[1]?.getD 0:=by
 simp[base,gt]
end Go.Proofs.YthiammkiobbclaaGreatDoor.X
