/-
 What is to be shown of the functions (made by a program).
-/
import Derived.Test.YtfafinkgmhkdmaaGreatDoorKOZ
set_option maxRecDepth 1000000
set_option linter.unusedVariables false
namespace Go.Proofs.YtfafinkgmhkdmaaGreatDoor.X
open Go Go.Ab
open List IntKind
theorem C4n (a k b j:List Int):fnP (T0) G 10000 C5I (.r [] 0 (.r [yL 136,yL 145,yL 154] 126843 (.ff (.r [] 0 (.lp (l26 a b) [] [] (fun b_1=>(.r [] 1 (.cnd (.r [] 33 (.cnd (.r [] 0 .nil) (.r [] 0 .nil))) (.r [] 0 (.lp (m26 a b k j) [] [] (fun b_2=>(.r [] 1 (.cnd (.r [] 33 (.cnd (.r [] 0 .nil) (.r [] 0 .nil))) (.r [] 0 .nil)))))))))))))) ([.agg [A7F .i64 a,A7F .u8 k],A3T b j]) ([.bool (eqB a b&&eqB k j)]) ([])=(
 (!(↑(length a):Int) !=(↑(length b):Int))=true/\(!(↑(length k):Int) !=(↑(length j):Int))=true/\(!(↑(length a):Int) !=(↑(length a):Int))=true/\((↑(length k):Int) !=
 (↑(length k):Int))=false/\1=1/\qs i64 a (length a=length a/\qs u8 k (length k=length k/\1=1/\qs i64 b (qs u8 j (0=0/\0=0/\iI 0=0/\(∃(n:Nat),0=(↑n:Int)/\n<=
 length a/\eqB (drop n a) (drop n b)=eqB a b)/\∀(b_1:L26),(fun(zz0:Bool)=>(∃(n:Nat),b_1.i=(↑n:Int)/\n<=length a/\eqB (drop n a) (drop n b)=eqB a b)->(ltb b_1.i
 (↑(length a):Int)=true->rd i64 a b_1.i (rd i64 b b_1.i ((zz0=true->false=(eqB a b&&eqB k j)/\True)/\(zz0=false->inR i64 (b_1.i+1)=true/\1=1/\qs i64 a (length a=
 length a/\qs u8 k (length k=length k/\1=1/\qs i64 b (qs u8 j (0=0/\0=0/\qx (b_1.i+1) ((∃(n:Nat),b_1.i+1=(↑n:Int)/\n<=length a/\eqB (drop n a) (drop n b)=eqB a
 b)/\length a-Int.toNat (b_1.i+1)<length a-Int.toNat b_1.i/\True)))))))))/\(ltb b_1.i (↑(length a):Int)=false->1=1/\qs i64 a (length a=length a/\qs u8 k (length k=
 length k/\1=1/\qs i64 b (qs u8 j (0=0/\0=0/\qx (ltb b_1.i (↑(length a):Int)) (iI 0=0/\(∃(n:Nat),0=(↑n:Int)/\n<=length k/\eqB a b=true/\eqB (drop n k) (drop n j)
 =eqB k j)/\∀(b_2:L26),(fun(zz1:Bool)=>(∃(n:Nat),b_2.i=(↑n:Int)/\n<=length k/\eqB a b=true/\eqB (drop n k) (drop n j)=eqB k j)->(ltb b_2.i (↑(length k):Int)=
 true->rd u8 k b_2.i (rd u8 j b_2.i ((zz1=true->false=(eqB a b&&eqB k j)/\True)/\(zz1=false->inR i64 (b_2.i+1)=true/\1=1/\qs i64 a (length a=length a/\qs u8 k (length
 k=length k/\1=1/\qs i64 b (qs u8 j (0=0/\0=0/\qx (ltb b_1.i (↑(length a):Int)) (qx (b_2.i+1) ((∃(n:Nat),b_2.i+1=(↑n:Int)/\n<=length k/\eqB a b=true/\eqB (drop
 n k) (drop n j)=eqB k j)/\length k-Int.toNat (b_2.i+1)<length k-Int.toNat b_2.i/\True))))))))))/\(ltb b_2.i (↑(length k):Int)=false->true=(eqB a b&&eqB k j)/\True))
 (getD (drop (Int.toNat b_2.i) k) 0 0 !=getD (drop (Int.toNat b_2.i) j) 0 0)))))))) (getD (drop (Int.toNat b_1.i) a) 0 0 !=getD (drop (Int.toNat b_1.i) b) 0 0)))))):=by kernel_rfl
theorem C8Q (c l:Int)(ks:List Int):fnP (VL) G 10000 C5L (.r [] 0 (.r [] 5 (.r [] 1 (.r [] 785 (.r [yM 326,yM 327,yM 328,yM 329,yM 330,yM 333,yM 334,yM 335,yM 336,yM 337,yM 340,yM 341,yM 342,yM 343,yM 344,yM 345,yM 346,yM 347,yM 350,yM 351,yM 352,yM 353,yM 354,yM 357,yM 358,yM 359,yM 360,yM 361,yM 364,yM 365,yM 366,yM 367,yM 368] 4626332890182623813 (.ff (.r [] 0 (.lp (l8 (ofA c l ks)) [] [] (fun b=>(.r [] 0 (.cnd (.r [] 1 (.r [yM 719,yM 720,yM 721,yM 722,yM 723,yM 724,yM 725] 16793633 (.ff (.r [] 0 (.jn (jI 8 u8 (oKd (ofK c ks) (length (ofA c l ks)) b.i)) [106] [] (.cnd (.r [] 0 .nil) .nil) (fun b_1=>(.r [] 1 (.ff (.r [] 0 .nil))))))))) (.r [] 1 .nil)))))))))))) ([fV c l ks]) ([.bool true]) ([])=(
 (fun(A K:List Int)=>(fun(zz19:Nat)=>(fun(zz16:Bool)=>(fun(zz15:Bool)=>(fun(zz12:Nat)=>(fun(zz11:Nat)=>(fun(zz10:Bool)=>(fun(zz8:Nat)=>(fun(zz14:
 Bool)=>(fun(zz5:Bool)=>(fun(zz3:Bool)=>(fun(zz2:Bool)=>(fun(zz1:Bool)=>(fun(zz0:Bool)=>(qx (length ks) (okK ks))/\length A=length A/\length A=length A/\
 length K=length K/\(length A=length A/\length K=length K/\length A<100000000000/\length K<100000000000)/\length A=length A/\length K=length K/\(length A=length A/\
 length K=length K/\length A<100000000000/\length K<100000000000)/\(zz14=true->zz14=true)/\(zz14=true->zz14=true)/\(zz14=true->zz14=true)/\(zz14=true->zz14=
 true)/\(bif (↑zz8:Int) !=(↑(length A):Int)then true else !(↑zz8:Int) !=(↑(length A):Int)&&true)=true/\(zz5=true->zz5=true)/\(zz5=true->zz5=true)/\(zz5=true->
 zz5=true)/\(zz5=true->zz5=true)/\(bif bif (↑zz8:Int) !=(↑(length A):Int)then true else(↑zz12:Int) !=(↑(length A):Int)then true else zz5&&true)=true/\(zz3=true->
 zz3=true)/\(zz3=true->zz3=true)/\(zz3=true->zz3=true)/\(zz3=true->zz3=true)/\(zz3=true->zz3=true)/\(zz3=true->zz3=true)/\(zz3=true->qx zz8 (qx zz11 (qx
 zz8 (qx zz11 (qx zz8 (qx zz11 (qx zz8 (qx zz11 (length (reverse A)<1000000000000/\length (A17 (A0k K))<1000000000000)))))))))/\(zz3=true->zz3=true)/\(bif bif bif (↑zz8:Int)
 !=(↑(length A):Int)then true else(↑zz12:Int) !=(↑(length A):Int)then true else(↑zz11:Int) !=(↑(length A):Int)then true else zz3&&true)=true/\(zz2=true->zz2=true)
 /\(zz2=true->qx zz8 (qx zz12 (length (reverse A)<100000000000/\length (A0k K)<100000000000)))/\(zz2=true->zz2=true)/\(zz2=true->zz2=true)/\(zz2=true->length A=
 length A)/\(zz2=true->length K=length K)/\(zz2=true->qx zz19 (qx (length (A0k (A0k K))) (length A=length A/\length K=length K/\qx zz19 (qx (length (A0k (A0k K)))
 (length (reverse (reverse A))=length A/\length (A0k (A0k K))=length K/\length (reverse (reverse A))<1000000000000/\length (A0k (A0k K))<1000000000000)))))/\(zz2=true->
 zz2=true)/\(bif bif bif bif (↑zz8:Int) !=(↑(length A):Int)then true else(↑zz12:Int) !=(↑(length A):Int)then true else(↑zz11:Int) !=(↑(length A):Int)then true else
 !zz10 then true else zz2&&true)=true/\(zz1=true->zz1=true)/\(zz1=true->qx zz8 (qx zz11 (length (reverse A)<100000000000/\length (A17 (A0k K))<100000000000)))/\(zz1=
 true->zz1=true)/\(zz1=true->zz1=true)/\(zz1=true->length A=length A)/\(zz1=true->length K=length K)/\(zz1=true->qx zz19 (qx (length (A17 (A0k (A17 (A0k K)))))
 (length A=length A/\length K=length K/\qx zz19 (qx (length (A17 (A0k (A17 (A0k K))))) (length (reverse (reverse A))=length A/\length (A17 (A0k (A17 (A0k K))))=length K
 /\length (reverse (reverse A))<1000000000000/\length (A17 (A0k (A17 (A0k K))))<1000000000000)))))/\(zz1=true->zz1=true)/\(bif bif bif bif bif (↑zz8:Int) !=(↑(length A):
 Int)then true else(↑zz12:Int) !=(↑(length A):Int)then true else(↑zz11:Int) !=(↑(length A):Int)then true else !zz10 then true else !zz15 then true else zz1&&true)=true/\
 (zz0=true->zz0=true)/\(zz0=true->length A=length A)/\(zz0=true->length K=length K)/\(zz0=true->length A=length A/\length K=length K/\length A<100000000000/\
 length K<100000000000)/\(zz0=true->zz0=true)/\(zz0=true->zz0=true)/\(zz0=true->qx zz8 (qx zz12 (qx zz8 (qx zz12 (qx zz8 (qx zz12 (qx zz8 (qx zz12 (length (reverse A)<
 1000000000000/\length (A0k K)<1000000000000)))))))))/\(zz0=true->zz0=true)/\(bif bif bif bif bif bif (↑zz8:Int) !=(↑(length A):Int)then true else(↑zz12:Int) !=(↑(length
 A):Int)then true else(↑zz11:Int) !=(↑(length A):Int)then true else !zz10 then true else !zz15 then true else !zz16 then true else zz0&&true)=true/\(bif bif bif bif bif bif
 (↑zz8:Int) !=(↑(length A):Int)then true else(↑zz12:Int) !=(↑(length A):Int)then true else(↑zz11:Int) !=(↑(length A):Int)then true else !zz10 then true else !zz15 then
 true else !zz16 then true else !(eqB (reverse A) (reverse A)&&eqB (A0k K) (A0k K)))=false/\1=1/\c=c/\l=l/\qs u8 ks (length A=length A/\qx (ofA c l ks) (length K=length
 K/\ofK c ks=ofK c ks/\1=1/\length A=length A/\length K=length K/\1=1/\qs i64 (reverse A) (qx zz8 (qs u8 (A0k K) (qx zz12 (1=1/\qs i64 (reverse A) (qx zz8 (qs u8 (A17
 (A0k K)) (qx zz11 (0=0/\ql A (0=0/\0=0/\iI 0=0/\(∃(n:Nat),0=(↑n:Int)/\n<=length A)/\∀(b:L8),(fun(zz17:Int)=>(fun(zz13:List Int)=>(fun(zz9:List Int)
 =>(fun(zz7:Nat)=>(fun(zz6:Nat)=>(fun(zz18:Bool)=>(fun(zz4:Bool)=>(∃(n:Nat),b.i=(↑n:Int)/\n<=length A)->(ltb b.i (↑(length A):Int)=true->inR i64
 ((↑(length A):Int)-b.i)=true/\(!(↑(length A):Int)==0)=true/\leb 0 zz17=true/\ltb zz17 (↑(length K):Int)=true/\length K=length K/\length K=length K/\ltn zz6
 (Cont.size (Cont.ints u8 K))=true/\rd i64 (reverse A) b.i (inR i64 ((↑(length A):Int)-1)=true/\inR i64 ((↑(length A):Int)-1-b.i)=true/\leb 0 ((↑(length A):Int)-1-
 b.i)=true/\ltb ((↑(length A):Int)-1-b.i) (↑(length A):Int)=true/\length A=length A/\length A=length A/\ltn zz7 (Cont.size (Cont.ints i64 A))=true/\(zz4=true->zz4=
 true)/\(zz4=true->zz4=true)/\(zz4=true->zz4=true)/\(zz4=true->leb 0 b.i=true)/\(zz4=true->ltb b.i (↑zz12:Int)=true)/\(zz4=true->ltn 0 (Cont.size (Cont.ints u8
 (A0k K)))=true)/\(zz4=true->zz4=true)/\(zz4=true->ltn 0 (Cont.size (Cont.ints u8 zz13))=true)/\(zz4=true->zz4=true)/\(zz4=true->zz4=true)/\(bif getD zz9 0 0 !=
 getD A zz7 0 then true else !getD zz9 0 0 !=getD A zz7 0&&true)=true/\(bif getD zz9 0 0 !=getD A zz7 0 then true else getD zz13 0 0 !=getD K zz6 0)=false/\(((getD K zz6 0 !=3)=
 true->inR u8 (3-getD K zz6 0)=true/\1=1/\c=c/\l=l/\qs u8 ks (length A=length A/\qx (ofA c l ks) (length K=length K/\ofK c ks=ofK c ks/\1=1/\length A=length A/\
 length K=length K/\1=1/\qs i64 (reverse A) (qx zz8 (qs u8 (A0k K) (qx zz12 (1=1/\qs i64 (reverse A) (qx zz8 (qs u8 (A17 (A0k K)) (qx zz11 (0=0/\ql A (0=0/\0=0/\b.i=
 b.i/\qx (3-getD K zz6 0) (zz4= !getD zz9 0 0 !=getD A zz7 0/\1=1/\zz4= !getD zz9 0 0 !=getD A zz7 0/\qs u8 (A0k K) (qx zz12 (zz4= !getD zz9 0 0 !=getD A zz7 0/\b.i=b.i/\
 zz4= !getD zz9 0 0 !=getD A zz7 0/\qx (Cont.ints u8 zz13) (zz4= !getD zz9 0 0 !=getD A zz7 0/\qx (getD zz13 0 0) (zz4= !getD zz9 0 0 !=getD A zz7 0/\qx (getD K zz6 0) (zz4= !getD
 zz9 0 0 !=getD A zz7 0/\zz18=zz18/\3-getD K zz6 0=oKd K (length A) b.i/\True))))))))))))))))))/\((getD K zz6 0 !=3)=false->1=1/\c=c/\l=l/\qs u8 ks (length A=length
 A/\qx (ofA c l ks) (length K=length K/\ofK c ks=ofK c ks/\1=1/\length A=length A/\length K=length K/\1=1/\qs i64 (reverse A) (qx zz8 (qs u8 (A0k K) (qx zz12 (1=1/\qs
 i64 (reverse A) (qx zz8 (qs u8 (A17 (A0k K)) (qx zz11 (0=0/\ql A (0=0/\0=0/\b.i=b.i/\qx (getD K zz6 0) (zz4= !getD zz9 0 0 !=getD A zz7 0/\1=1/\zz4= !getD zz9 0 0 !=
 getD A zz7 0/\qs u8 (A0k K) (qx zz12 (zz4= !getD zz9 0 0 !=getD A zz7 0/\b.i=b.i/\zz4= !getD zz9 0 0 !=getD A zz7 0/\qx (Cont.ints u8 zz13) (zz4= !getD zz9 0 0 !=getD A zz7 0/\
 qx (getD zz13 0 0) (zz4= !getD zz9 0 0 !=getD A zz7 0/\qx (getD K zz6 0) (zz4= !getD zz9 0 0 !=getD A zz7 0/\zz18=zz18/\getD K zz6 0=oKd K (length A) b.i/\True)))))))))))))))))))
 /\∀(b_1:VI),b_1.v=oKd K (length A) b.i->rd u8 (A17 (A0k K)) b.i ((getD (drop (Int.toNat b.i) (A17 (A0k K))) 0 0 !=b_1.v)=false/\inR i64 (b.i+1)=true/\1=1/\c=c/\l
 =l/\qs u8 ks (length A=length A/\qx (ofA c l ks) (length K=length K/\ofK c ks=ofK c ks/\1=1/\length A=length A/\length K=length K/\1=1/\qs i64 (reverse A) (qx zz8 (qs
 u8 (A0k K) (qx zz12 (1=1/\qs i64 (reverse A) (qx zz8 (qs u8 (A17 (A0k K)) (qx zz11 (0=0/\ql A (0=0/\0=0/\b.i+1=b.i+1/\(∃(n:Nat),b.i+1=(↑n:Int)/\n<=length
 A)/\length A-Int.toNat (b.i+1)<length A-Int.toNat b.i/\True))))))))))))))/\(ltb b.i (↑(length A):Int)=false->true=true/\True)) (!getD zz9 0 0 !=getD A zz7 0)) (getD zz13
 0 0 !=getD K zz6 0)) (Int.toNat zz17)) (Int.toNat ((↑(length A):Int)-1-b.i))) (drop (Int.toNat b.i) (reverse A))) (drop (Int.toNat b.i) (A0k K))) (Int.tmod ((↑(length A):Int)-
 b.i) (↑(length A):Int)))))))))))))) (!bif bif bif bif bif (↑zz8:Int) !=(↑(length A):Int)then true else(↑zz12:Int) !=(↑(length A):Int)then true else(↑zz11:Int) !=(↑(length
 A):Int)then true else !zz10 then true else !zz15 then true else !zz16)) (!bif bif bif bif (↑zz8:Int) !=(↑(length A):Int)then true else(↑zz12:Int) !=(↑(length A):Int)then true
 else(↑zz11:Int) !=(↑(length A):Int)then true else !zz10 then true else !zz15)) (!bif bif bif (↑zz8:Int) !=(↑(length A):Int)then true else(↑zz12:Int) !=(↑(length A):Int)
 then true else(↑zz11:Int) !=(↑(length A):Int)then true else !zz10)) (!bif bif (↑zz8:Int) !=(↑(length A):Int)then true else(↑zz12:Int) !=(↑(length A):Int)then true else
 (↑zz11:Int) !=(↑(length A):Int))) (!bif (↑zz8:Int) !=(↑(length A):Int)then true else(↑zz12:Int) !=(↑(length A):Int))) (!(↑zz8:Int) !=(↑(length A):Int))) (length
 (reverse A))) (eqB (reverse A) (reverse A)&&eqB (A17 (A0k K)) (A17 (A0k K)))) (length (A17 (A0k K)))) (length (A0k K))) (eqB (reverse (reverse A)) A&&eqB (A0k (A0k K)) K))
 (eqB (reverse (reverse A)) A&&eqB (A17 (A0k (A17 (A0k K)))) K)) (length (reverse (reverse A)))) (ofA c l ks) (ofK c ks)):=by kernel_rfl
end Go.Proofs.YtfafinkgmhkdmaaGreatDoor.X
