/-
 Cones: what the laws compute (valid orders).
-/
import Derived.Test.YthiammkiobbclaaGreatDoorD20Z
set_option maxRecDepth 1000000
set_option linter.unusedVariables false
namespace Go.Proofs.YthiammkiobbclaaGreatDoor.X
open Go Go.Ab
def t6:List (Nat×CtE):=[(10,e25),(25,C8t),(26,C8r),(27,C48),(13,C47),(28,C39),(18,e24),(14,C49),(11,e11)]
def T6:Tab:=A2t t6 A3E
open List IntKind
theorem D1b (c l:Int)(ks ys:List Int):fnP (T6) G 10000 fe6 (.r [] 0 (.r [] 5 (.r [] 1 (.r [] 0 (.r [] 49 (.r [] 1 (.br (A0l (ofA c l ks) (ofK c ks)) (.r [] 1 (.ff (.r [yL 579,yL 587,yL 594] 3872290 .nil))) (.r [] 1 (.tt (.r [yL 515,yL 520,yL 524] 950 .nil)))))))))) ([fV c l ks,.imm (.ints .u8 ys) ys.length none]) ([.bool true]) ([])=(
 (fun(A K:List Int)=>(fun(zz1:Nat)=>(fun(zz0:Nat)=>(qx (length ks) (okK ks))/\length A=length A/\(qx (length ys) ((∀(y:Int),y∈ys->0<=y/\y<256)/\0<=(↑(length A)
 :Int)/\(↑(length A):Int)<1000000))/\length A=length A/\length K=length K/\(length A=length A/\length K=length K/\length A<1000000)/\length A=length A/\length K=
 length K/\(length A=length A/\length K=length K/\length A<1000000/\qx (length (oxL ys zz0)) (length (oxL ys zz0)<1000000))/\(A0l A K=true->length A=length A/\length K=
 length K/\(length A=length A/\length K=length K/\length A<1000000)/\(!A0l A K)=false/\(ofE A K==0)=true/\length A=length A/\length K=length K/\(length A=length A/\
 length K=length K/\okA A)/\A0R zz0 (length (A0b A))=true/\Cont.size (Cont.ints i64 (A0b A))=length (A0b A)/\(qx zz1 (Int.toNat (↑(length A):Int)=length (take zz0 (A0b
 A))/\qx zz1 (length (bLs (A0l A K) (take (length A) (A0b A)))<1000000000000)))/\decide (bLs (A0l A K) (take (length A) (A0b A))=take zz0 (A0b A))=true/\length A=length A/\
 length K=length K/\(length A=length A/\length K=length K/\qx (length (oxL ys zz0)) (okA A/\length A=length K/\List.Perm (oxL ys zz0) (map (fun(i:Nat)=>(↑i:Int))
 (range.loop (length A) []))))/\(A3n A K (oxL ys zz0)==A3d A K (oxL ys zz0))=true/\true=true/\True)/\(A0l A K=false->length A=length A/\length K=length K/\(length A=
 length A/\length K=length K/\length A<1000000)/\(!A0l A K)=true/\(ofE A K==14)=true/\((↑zz1:Int)==0)=true/\(A3n A K (oxL ys zz0)==14)=true/\true=true/\True))
 (Int.toNat (↑(length A):Int))) (length (bLs (A0l A K) (take (length A) (A0b A))))) (ofA c l ks) (ofK c ks)):=by kernel_rfl
open List IntKind
theorem C2Y (a k:List Int):fnP (T0) G 10000 C7H (.r [] 0 (.jn (j28) [] [] (.r [] 0 .nil) (fun b=>(.r [] 0 (.lp (l28 a) [] [] (fun b_1=>(.r [] 1 (.cnd (.r [] 1 (.r [] 1 (.cnd (.r [] 0 (.r [] 256 (.r [] 0 .nil))) (.r [] 256 (.r [] 0 .nil))))) (.frz 3 0 (.r [] 0 .nil)))))))))) ([A2W a k]) ([A3X .i64 (A0b a)]) ([])=(
 (1=1/\qs i64 a (qs u8 k (1=1/\iL [0]=[0]/\0=0/\1=1/\True/\True)))/\∀(b:Unit),True->1=1/\qs i64 a (qs u8 k (1=1/\iL [0]=[0]/\0=0/\1=1/\iI 0=0/\(∃(m:
 Nat),0=(↑m:Int)/\m<=length a/\[0]=take (m+1) (A0b a))/\∀(b_1:L28),(fun(zz0:Nat)=>(∃(m:Nat),b_1.i=(↑m:Int)/\m<=length a/\b_1.r=take (m+1) (A0b a))->
 (ltb b_1.i (↑(length a):Int)=true->rd i64 a b_1.i (((Int.tmod b_1.i 2==1)=true->inR i64 (0-getD (drop zz0 a) 0 0)=true/\leb 0 b_1.i=true/\ltb b_1.i (↑(length b_1.r):Int)
 =true/\qx (length b_1.r) (qx (length b_1.r) (ltn zz0 (Cont.size (Cont.ints i64 b_1.r))=true/\inR i64 (getD b_1.r zz0 0+(0-getD (drop zz0 a) 0 0))=true/\qx (length b_1.r) (A0R
 ((length b_1.r+1)*8) 140737488355328=true/\inR i64 (b_1.i+1)=true/\1=1/\qs i64 a (qs u8 k (length b_1.r+1=length (b_1.r++[getD b_1.r zz0 0+(0-getD (drop zz0 a) 0
 0)])/\b_1.r++[getD b_1.r zz0 0+(0-getD (drop zz0 a) 0 0)]=b_1.r++[getD b_1.r zz0 0+(0-getD (drop zz0 a) 0 0)]/\0=0/\length b_1.r+1=length (b_1.r++[getD b_1.r zz0 0+
 (0-getD (drop zz0 a) 0 0)])/\qx (b_1.i+1) ((∃(m:Nat),b_1.i+1=(↑m:Int)/\m<=length a/\b_1.r++[getD b_1.r zz0 0+(0-getD (drop zz0 a) 0 0)]=take (m+1) (A0b a))/\
 length a-Int.toNat (b_1.i+1)<length a-Int.toNat b_1.i/\True)))))))/\((Int.tmod b_1.i 2==1)=false->leb 0 b_1.i=true/\ltb b_1.i (↑(length b_1.r):Int)=true/\qx (length
 b_1.r) (qx (length b_1.r) (ltn zz0 (Cont.size (Cont.ints i64 b_1.r))=true/\inR i64 (getD b_1.r zz0 0+getD (drop zz0 a) 0 0)=true/\qx (length b_1.r) (A0R ((length b_1.r+1)*8)
 140737488355328=true/\inR i64 (b_1.i+1)=true/\1=1/\qs i64 a (qs u8 k (length b_1.r+1=length (b_1.r++[getD b_1.r zz0 0+getD (drop zz0 a) 0 0])/\b_1.r++[getD b_1.r zz0 0
 +getD (drop zz0 a) 0 0]=b_1.r++[getD b_1.r zz0 0+getD (drop zz0 a) 0 0]/\0=0/\length b_1.r+1=length (b_1.r++[getD b_1.r zz0 0+getD (drop zz0 a) 0 0])/\qx (b_1.i+1) ((∃
 (m:Nat),b_1.i+1=(↑m:Int)/\m<=length a/\b_1.r++[getD b_1.r zz0 0+getD (drop zz0 a) 0 0]=take (m+1) (A0b a))/\length a-Int.toNat (b_1.i+1)<length a-Int.toNat
 b_1.i/\True)))))))))/\(ltb b_1.i (↑(length a):Int)=false->qx (length b_1.r) (Cont.ints i64 b_1.r=Cont.ints i64 (A0b a)/\length b_1.r=length (A0b a)/\True))) (Int.toNat
 b_1.i)))):=by kernel_rfl
theorem C2Z (a k o:List Int)(y:Int)(g:Bool):fnP (T35) G 10000 C7N (.r [] 0 (.r [] 1 (.r [] 1 (.r [] 0 (.gho 11 9800 1 (Cont.ints i64 []) (.jn (j35) [] [] (.r [] 0 .nil) (fun b=>(.lp (l35 a o y g) [] [] (fun b_1=>(.r [] 0 (.cnd (.r [] 0 (.r [] 0 (.jn (jP (skG (A0b a) g y (gR o b_1.i)=false)) [14,15] [] (.rs 2 [] 0 54 (.rs 4 [] 0 58 (.r [] 63 (.lit (.r [] 0 .nil))) (.rs 6 [] 15 64 (.r [] 3 (.lit (.r [] 0 .nil))) (.rs 3 [] 0 67 (.rs 4 [] 0 71 (.r [] 63 (.lit (.r [] 0 .nil))) (.r [] 63 (.cnd (.r [] 0 .nil) .nil))) (.r [] 15 (.lit .nil))))) (.rs 13 [] 3 67 (.rs 4 [] 0 71 (.r [] 63 (.lit (.r [] 0 .nil))) (.r [] 63 (.cnd (.r [] 0 .nil) .nil))) (.r [] 15 (.lit .nil)))) (fun b_2=>(.r [] 0 (.jn (jI 16 i64 (if gR (A0b a) (gR o b_1.i)=y then gR o b_1.i else -1)) [] [] (.r [] 0 (.cnd (.r [] 0 .nil) .nil)) (fun b_3=>(.jn (jI 16 i64 (crI (↑(length a):Int) (A0b a) y (gR o b_1.i))) [13] [] (.r [] 0 (.cnd (.r [] 0 .nil) .nil)) (fun b_4=>(.r [] 0 (.cnd (.r [] 0 (.cnd (.r [] 0 .nil) (.r [] 0 .nil))) (.jn (k35 b_1.n b_1.l (A5Q (take b_1.l b_1.c) (crI (↑(length a):Int) (A0b a) y (gR o b_1.i))=false)) [97] [] (.rs 4 [] 0 104 (.r [] 384 (.cnd (.r [] 0 (.r [] 0 .nil)) .nil)) (.r [] 3 (.lit .nil))) (fun b_5=>(.r [] 0 (.lp (m35 b_1.c b_1.l (crI (↑(length a):Int) (A0b a) y (gR o b_1.i))) [] [] (fun b_6=>(.r [] 0 (.cnd (.r [] 0 (.cnd (.r [] 0 .nil) (.r [] 0 .nil))) (.r [] 4 (.r [] 0 .nil)))))))))))))))))))) (.r [] 0 .nil)))))))))))) ([A2W a k,A3X .i64 o,.int .i64 y,.bool g]) ([.bool (A5F a.length (A0b a) o y g)]) ([])=(
 (length a=length a/\length k=length k/\okA a)/\(1=1/\qs i64 a (qs u8 k (0=0/\iL []=[]/\qs i64 o (y=y/\g=g/\qs i64 (A0b a) (ql a (0=0/\0=0/\0=0/\iI 0=0/\
 True/\True))))))/\∀(b:Unit),True->1=1/\qs i64 a (qs u8 k (0=0/\iL []=[]/\qs i64 o (y=y/\g=g/\qs i64 (A0b a) (ql a (0=0/\1=1/\0=0/\0=0/\iI 0=0/\(∃(m:
 Nat),0=(↑m:Int)/\m<=length o/\0=0/\0<=0/\0<=m/\B3U (length a) (A0b a) y g [] (drop m o)=A5F (length a) (A0b a) o y g)/\∀(b_1:L35),(fun(zz8:Int)=>(fun(zz7:
 List Int)=>(fun(zz6:Nat)=>(fun(zz3:List Int)=>(fun(zz2:Prop)=>(fun(zz1:List Int)=>(fun(zz0:List Int)=>(fun(zz5:Int)=>(fun(zz4:Int)=>(∃(m:Nat),b_1.i=
 (↑m:Int)/\m<=length o/\b_1.n=length b_1.c/\b_1.l<=b_1.n/\b_1.l<=m/\B3U (length a) (A0b a) y g zz7 (drop m o)=A5F (length a) (A0b a) o y g)->(ltb b_1.i (↑(length o):
 Int)=true->rd i64 o b_1.i (rd i64 (A0b a) (getD zz3 0 0) (inR i64 (getD zz3 0 0+1)=true/\rd i64 (A0b a) (getD zz3 0 0+1) (rd i64 (A0b a) (getD zz3 0 0) (inR i64 (getD zz3 0 0
 +1)=true/\rd i64 (A0b a) (getD zz3 0 0+1) (((g=true->(ltb y zz4=true->inR i64 (b_1.i+1)=true/\1=1/\qs i64 a (qs u8 k (b_1.n=b_1.n/\b_1.c=b_1.c/\qs i64 o (y=y/\
 g=g/\qs i64 (A0b a) (ql a (b_1.n=b_1.n/\1=1/\0=0/\b_1.l=b_1.l/\qx (b_1.i+1) (zz2/\length o-Int.toNat (b_1.i+1)<length o-Int.toNat b_1.i/\True)))))))/\(ltb y zz4
 =false->(leb zz5 y=true->inR i64 (b_1.i+1)=true/\1=1/\qs i64 a (qs u8 k (b_1.n=b_1.n/\b_1.c=b_1.c/\qs i64 o (y=y/\g=g/\qs i64 (A0b a) (ql a (b_1.n=b_1.n/\1=1
 /\0=0/\b_1.l=b_1.l/\qx (b_1.i+1) (zz2/\length o-Int.toNat (b_1.i+1)<length o-Int.toNat b_1.i/\True)))))))/\(leb zz5 y=false->((!g)=true->(leb y zz4=true->inR i64
 (b_1.i+1)=true/\1=1/\qs i64 a (qs u8 k (b_1.n=b_1.n/\b_1.c=b_1.c/\qs i64 o (y=y/\g=g/\qs i64 (A0b a) (ql a (b_1.n=b_1.n/\1=1/\0=0/\b_1.l=b_1.l/\qx (b_1.i+
 1) (zz2/\length o-Int.toNat (b_1.i+1)<length o-Int.toNat b_1.i/\True)))))))/\(leb y zz4=false->(ltb zz5 y=true->inR i64 (b_1.i+1)=true/\1=1/\qs i64 a (qs u8 k (b_1.n
 =b_1.n/\b_1.c=b_1.c/\qs i64 o (y=y/\g=g/\qs i64 (A0b a) (ql a (b_1.n=b_1.n/\1=1/\0=0/\b_1.l=b_1.l/\qx (b_1.i+1) (zz2/\length o-Int.toNat (b_1.i+1)<length o
 -Int.toNat b_1.i/\True)))))))/\(ltb zz5 y=false->1=1/\qs i64 a (qs u8 k (b_1.n=b_1.n/\b_1.c=b_1.c/\qs i64 o (y=y/\g=g/\qs i64 (A0b a) (ql a (b_1.n=b_1.n/\1=1/\0
 =0/\b_1.l=b_1.l/\b_1.i=b_1.i/\qx (getD zz3 0 0) (skG (A0b a) g y (gR o b_1.i)=false/\True)))))))))/\((!g)=false->1=1/\qs i64 a (qs u8 k (b_1.n=b_1.n/\b_1.c=b_1.c/\
 qs i64 o (y=y/\g=g/\qs i64 (A0b a) (ql a (b_1.n=b_1.n/\1=1/\0=0/\b_1.l=b_1.l/\b_1.i=b_1.i/\qx (getD zz3 0 0) (skG (A0b a) g y (gR o b_1.i)=false/\True))))))))))/\
 (g=false->((!g)=true->(leb y zz4=true->inR i64 (b_1.i+1)=true/\1=1/\qs i64 a (qs u8 k (b_1.n=b_1.n/\b_1.c=b_1.c/\qs i64 o (y=y/\g=g/\qs i64 (A0b a) (ql a
 (b_1.n=b_1.n/\1=1/\0=0/\b_1.l=b_1.l/\qx (b_1.i+1) (zz2/\length o-Int.toNat (b_1.i+1)<length o-Int.toNat b_1.i/\True)))))))/\(leb y zz4=false->(ltb zz5 y=true->
 inR i64 (b_1.i+1)=true/\1=1/\qs i64 a (qs u8 k (b_1.n=b_1.n/\b_1.c=b_1.c/\qs i64 o (y=y/\g=g/\qs i64 (A0b a) (ql a (b_1.n=b_1.n/\1=1/\0=0/\b_1.l=b_1.l/\qx
 (b_1.i+1) (zz2/\length o-Int.toNat (b_1.i+1)<length o-Int.toNat b_1.i/\True)))))))/\(ltb zz5 y=false->1=1/\qs i64 a (qs u8 k (b_1.n=b_1.n/\b_1.c=b_1.c/\qs i64 o (y=
 y/\g=g/\qs i64 (A0b a) (ql a (b_1.n=b_1.n/\1=1/\0=0/\b_1.l=b_1.l/\b_1.i=b_1.i/\qx (getD zz3 0 0) (skG (A0b a) g y (gR o b_1.i)=false/\True)))))))))/\((!g)=false
 ->1=1/\qs i64 a (qs u8 k (b_1.n=b_1.n/\b_1.c=b_1.c/\qs i64 o (y=y/\g=g/\qs i64 (A0b a) (ql a (b_1.n=b_1.n/\1=1/\0=0/\b_1.l=b_1.l/\b_1.i=b_1.i/\qx (getD zz3 0
 0) (skG (A0b a) g y (gR o b_1.i)=false/\True)))))))))/\∀(b_2:Unit),skG (A0b a) g y (gR o b_1.i)=false->(rd i64 (A0b a) (getD zz3 0 0) (((getD zz1 0 0==y)=true->1=1/\
 qs i64 a (qs u8 k (b_1.n=b_1.n/\b_1.c=b_1.c/\qs i64 o (y=y/\g=g/\qs i64 (A0b a) (ql a (b_1.n=b_1.n/\1=1/\0=0/\b_1.l=b_1.l/\b_1.i=b_1.i/\qx (getD zz3 0 0) (qx
 (getD zz3 0 0) ((getD zz3 0 0=if gR (A0b a) (gR o b_1.i)=y then gR o b_1.i else -1)/\True))))))))/\((getD zz1 0 0==y)=false->1=1/\qs i64 a (qs u8 k (b_1.n=b_1.n/\b_1.c=
 b_1.c/\qs i64 o (y=y/\g=g/\qs i64 (A0b a) (ql a (b_1.n=b_1.n/\1=1/\0=0/\b_1.l=b_1.l/\b_1.i=b_1.i/\qx (getD zz3 0 0) (iI (-1)= -1/\(-1=if gR (A0b a) (gR o b_1.i)
 =y then gR o b_1.i else -1)/\True)))))))))/\∀(b_3:VI),(b_3.v=if gR (A0b a) (gR o b_1.i)=y then gR o b_1.i else -1)->(inR i64 (getD zz3 0 0+1)=true/\rd i64 (A0b a) (getD
 zz3 0 0+1) (((getD zz0 0 0==y)=true->inR i64 (getD zz3 0 0+1)=true/\(!(↑(length a):Int)==0)=true/\1=1/\qs i64 a (qs u8 k (b_1.n=b_1.n/\b_1.c=b_1.c/\qs i64 o (y=
 y/\g=g/\qs i64 (A0b a) (ql a (b_1.n=b_1.n/\1=1/\0=0/\b_1.l=b_1.l/\b_1.i=b_1.i/\qx (Int.tmod (getD zz3 0 0+1) (↑(length a):Int)) (Int.tmod (getD zz3 0 0+1)
 (↑(length a):Int)=crI (↑(length a):Int) (A0b a) y (gR o b_1.i)/\True)))))))/\((getD zz0 0 0==y)=false->1=1/\qs i64 a (qs u8 k (b_1.n=b_1.n/\b_1.c=b_1.c/\qs i64 o (y=
 y/\g=g/\qs i64 (A0b a) (ql a (b_1.n=b_1.n/\1=1/\0=0/\b_1.l=b_1.l/\b_1.i=b_1.i/\b_3.v=b_3.v/\b_3.v=crI (↑(length a):Int) (A0b a) y (gR o b_1.i)/\True))))))))/\
 ∀(b_4:VI),b_4.v=crI (↑(length a):Int) (A0b a) y (gR o b_1.i)->(ltb b_4.v 0=true->b_1.n=b_1.n/\(ltb 0 (↑b_1.l:Int)=true->false=A5F (length a) (A0b a) o y g/\True)
 /\(ltb 0 (↑b_1.l:Int)=false->inR i64 (b_1.i+1)=true/\1=1/\qs i64 a (qs u8 k (b_1.n=b_1.n/\b_1.c=b_1.c/\qs i64 o (y=y/\g=g/\qs i64 (A0b a) (ql a (b_1.n=b_1.n/\1
 =1/\0=0/\b_1.l=b_1.l/\qx (b_1.i+1) (zz2/\length o-Int.toNat (b_1.i+1)<length o-Int.toNat b_1.i/\True))))))))/\(ltb b_4.v 0=false->(b_1.n=b_1.n/\(ltb 0 (↑b_1.l:
 Int)=true->b_1.n=b_1.n/\inR i64 ((↑b_1.l:Int)-1)=true/\leb 0 ((↑b_1.l:Int)-1)=true/\ltb ((↑b_1.l:Int)-1) (↑b_1.l:Int)=true/\b_1.n=b_1.n/\b_1.n=b_1.n/\ltn
 zz6 (Cont.size (Cont.ints i64 b_1.c))=true/\((getD b_1.c zz6 0==b_4.v)=true->b_1.n=b_1.n/\inR i64 ((↑b_1.l:Int)-1)=true/\b_1.n=b_1.n/\leb 0 ((↑b_1.l:Int)-1)=true/\
 A0R zz6 b_1.l=true/\inR i64 (b_1.i+1)=true/\1=1/\qs i64 a (qs u8 k (b_1.n=b_1.n/\b_1.c=b_1.c/\qs i64 o (y=y/\g=g/\qs i64 (A0b a) (ql a (b_1.n=b_1.n/\1=1/\0=
 0/\qx zz6 (qx (b_1.i+1) ((∃(m:Nat),b_1.i+1=(↑m:Int)/\m<=length o/\b_1.n=length b_1.c/\Int.toNat ((↑b_1.l:Int)-1)<=b_1.n/\Int.toNat ((↑b_1.l:Int)-1)<=m/\B3U
 (length a) (A0b a) y g (take zz6 b_1.c) (drop m o)=A5F (length a) (A0b a) o y g)/\length o-Int.toNat (b_1.i+1)<length o-Int.toNat b_1.i/\True))))))))/\((getD b_1.c zz6 0==
 b_4.v)=false->1=1/\qs i64 a (qs u8 k (b_1.n=b_1.n/\b_1.c=b_1.c/\qs i64 o (y=y/\g=g/\qs i64 (A0b a) (ql a (b_1.n=b_1.n/\1=1/\0=0/\b_1.l=b_1.l/\b_1.i=b_1.i/\
 b_4.v=b_4.v/\A5Q zz7 zz8=false/\True)))))))/\(ltb 0 (↑b_1.l:Int)=false->1=1/\qs i64 a (qs u8 k (b_1.n=b_1.n/\b_1.c=b_1.c/\qs i64 o (y=y/\g=g/\qs i64 (A0b a)
 (ql a (b_1.n=b_1.n/\1=1/\0=0/\b_1.l=b_1.l/\b_1.i=b_1.i/\b_4.v=b_4.v/\A5Q zz7 zz8=false/\True)))))))/\∀(b_5:Unit),A5Q zz7 zz8=false->1=1/\qs i64 a (qs u8 k
 (b_1.n=b_1.n/\b_1.c=b_1.c/\qs i64 o (y=y/\g=g/\qs i64 (A0b a) (ql a (b_1.n=b_1.n/\1=1/\0=0/\b_1.l=b_1.l/\b_1.i=b_1.i/\b_4.v=b_4.v/\iI 0=0/\(∃(m:Nat),0
 =(↑m:Int)/\m<=b_1.l/\∀(j:Nat),j<m->gR zz7 (↑j:Int)≠crI (↑(length a):Int) (A0b a) y (gR o b_1.i))/\∀(b_6:L83),(∃(m:Nat),b_6.i=(↑m:Int)/\m<=b_1.l/\∀(j:
 Nat),j<m->gR zz7 (↑j:Int)≠crI (↑(length a):Int) (A0b a) y (gR o b_1.i))->b_1.n=b_1.n/\(ltb b_6.i (↑b_1.l:Int)=true->leb 0 b_6.i=true/\ltb b_6.i (↑b_1.l:Int)=true
 /\b_1.n=b_1.n/\b_1.n=b_1.n/\ltn (Int.toNat b_6.i) (Cont.size (Cont.ints i64 b_1.c))=true/\((getD b_1.c (Int.toNat b_6.i) 0==b_4.v)=true->false=A5F (length a) (A0b a) o y g
 /\True)/\((getD b_1.c (Int.toNat b_6.i) 0==b_4.v)=false->inR i64 (b_6.i+1)=true/\1=1/\qs i64 a (qs u8 k (b_1.n=b_1.n/\b_1.c=b_1.c/\qs i64 o (y=y/\g=g/\qs i64 (A0b
 a) (ql a (b_1.n=b_1.n/\1=1/\0=0/\b_1.l=b_1.l/\b_1.i=b_1.i/\b_4.v=b_4.v/\qx (b_6.i+1) ((∃(m:Nat),b_6.i+1=(↑m:Int)/\m<=b_1.l/\∀(j:Nat),j<m->gR zz7 (↑j:
 Int)≠crI (↑(length a):Int) (A0b a) y (gR o b_1.i))/\b_1.l-Int.toNat (b_6.i+1)<b_1.l-Int.toNat b_6.i/\True))))))))/\(ltb b_6.i (↑b_1.l:Int)=false->b_1.n=b_1.n/\A0R
 ((b_1.l+1)*8) 140737488355328=true/\inR i64 (b_1.i+1)=true/\1=1/\qs i64 a (qs u8 k (qx (max b_1.n (b_1.l+1)) (take b_1.l b_1.c++[b_4.v]++drop (b_1.l+1) b_1.c=take
 b_1.l b_1.c++[b_4.v]++drop (b_1.l+1) b_1.c/\qs i64 o (y=y/\g=g/\qs i64 (A0b a) (ql a (qx (max b_1.n (b_1.l+1)) (1=1/\0=0/\qx (b_1.l+1) (qx (b_1.i+1) ((∃(m:Nat),
 b_1.i+1=(↑m:Int)/\m<=length o/\max b_1.n (b_1.l+1)=length (take b_1.l b_1.c++[b_4.v]++drop (b_1.l+1) b_1.c)/\b_1.l+1<=max b_1.n (b_1.l+1)/\b_1.l+1<=m/\B3U
 (length a) (A0b a) y g (take (b_1.l+1) (take b_1.l b_1.c++[b_4.v]++drop (b_1.l+1) b_1.c)) (drop m o)=A5F (length a) (A0b a) o y g)/\length o-Int.toNat (b_1.i+1)<length
 o-Int.toNat b_1.i/\True))))))))))))))))))))))/\(ltb b_1.i (↑(length o):Int)=false->true=A5F (length a) (A0b a) o y g/\True)) (if getD zz0 0 0<getD zz1 0 0 then getD zz0 0 0
 else getD zz1 0 0)) (if getD zz0 0 0>getD zz1 0 0 then getD zz0 0 0 else getD zz1 0 0)) (drop (Int.toNat (getD zz3 0 0+1)) (A0b a))) (drop (Int.toNat (getD zz3 0 0)) (A0b a))) (∃(m
 :Nat),b_1.i+1=(↑m:Int)/\m<=length o/\b_1.n=length b_1.c/\b_1.l<=b_1.n/\b_1.l<=m/\B3U (length a) (A0b a) y g zz7 (drop m o)=A5F (length a) (A0b a) o y g)) (drop
 (Int.toNat b_1.i) o)) (Int.toNat ((↑b_1.l:Int)-1))) (take b_1.l b_1.c)) (crI (↑(length a):Int) (A0b a) y (gR o b_1.i)))))))):=by kernel_rfl
theorem C20 (a k o:List Int):fnP (T14) G 10000 C7u (.r [] 0 (.r [] 1 (.r [] 1 (.r [] 0 (.lp (l14 a o) [] [] (fun b=>(.r [] 0 (.cnd (.r [yM 457,yM 458,yM 459,yM 460,yM 461,yM 462,yM 463,yM 464] 524353 (.cnd (.r [] 0 .nil) (.r [] 0 .nil))) (.r [] 1 (.r [] 0 (.lp (m14 o (length a)) [] [] (fun b_1=>(.r [] 0 (.cnd (.r [] 0 (.r [] 0 .nil)) (.frz 8 0 (.r [] 0 (.lp (n14 a k (A4X o)) [] [] (fun b_2=>(.r [] 0 (.cnd (.r [] 0 (.jn (j14 (odI (↑(length a):Int) b_2.i) (evI (↑(length a):Int) b_2.i)) [] [] (.r [] 1 (.cnd (.r [] 0 .nil) .nil)) (fun b_3=>(.r [yM 1287,yM 1288,yM 1289,yM 1290,yM 1291,yM 1292,yM 1293,yM 1294,yM 1295,yM 1298,yM 1299,yM 1300,yM 1301,yM 1302,yM 1303,yM 1304,yM 1305,yM 1306,yM 1307,yM 1308,yM 1309,yM 1310,yM 1311,yM 1312,yM 1313,yM 1314] 2251799832559617 (.cnd (.r [] 0 .nil) (.r [] 0 .nil)))))) (.r [] 0 .nil))))))))))))))))))))) ([A2W a k,A3X .i64 o]) ([.int .i64 (A3d a k o)]) ([])=(
 (fun(zz6:Nat)=>(length a=length a/\length k=length k/\okA a)/\1=1/\qs i64 a (qs u8 k (qs i64 o (0=0/\qs i64 (A0b a) (ql a (iI 0=0/\(∃(m:Nat),0=(↑m:Int)/\m<=
 length a/\∀(j:Nat),j<m->B1P (length a) (A0b a) o (↑j:Int)=false)/\∀(b:L83),(fun(zz12:Bool)=>(fun(zz8:Int)=>(fun(zz15:Bool)=>(fun(zz2:Bool)=>(∃(m:
 Nat),b.i=(↑m:Int)/\m<=length a/\∀(j:Nat),j<m->B1P (length a) (A0b a) o (↑j:Int)=false)->(ltb b.i (↑(length a):Int)=true->rd i64 (A0b a) b.i ((length a=length
 a/\length k=length k/\length o=length o/\okA a/\length o<1000000/\∀(x:Int),x∈o->0<=x/\x<(↑(length a):Int))/\(zz2=true->zz2=true)/\(zz2=true->zz2=true)/\
 (zz2=true->leb 0 b.i=true)/\(zz2=true->ltb b.i (↑(length (A0b a)):Int)=true)/\(zz2=true->ltn 0 (Cont.size (Cont.ints i64 (A0b a)))=true)/\(zz2=true->zz2=true)/\
 (zz2=true->ltn 0 (Cont.size (Cont.ints i64 (drop (Int.toNat b.i) (A0b a))))=true)/\(zz2=true->zz2=true)/\(zz2=true->zz2=true)/\(zz2=true->zz2=true)/\(zz2=true->
 length a=length a/\length k=length k/\length o=length o/\okA a/\length o<1000000/\∀(x:Int),x∈o->0<=x/\x<(↑(length a):Int))/\(zz2=true->zz2=true)/\(bif !A5F
 (length a) (A0b a) o zz8 true then true else !!A5F (length a) (A0b a) o zz8 true&&true)=true/\(zz15=true->12=A3d a k o/\True)/\(zz15=false->inR i64 (b.i+1)=true/\1
 =1/\qs i64 a (qs u8 k (qs i64 o (0=0/\qs i64 (A0b a) (ql a (b.i+1=b.i+1/\(∃(m:Nat),b.i+1=(↑m:Int)/\m<=length a/\∀(j:Nat),j<m->B1P (length a) (A0b a) o
 (↑j:Int)=false)/\length a-Int.toNat (b.i+1)<length a-Int.toNat b.i/\True))))))))/\(ltb b.i (↑(length a):Int)=false->leb (↑(length a):Int) (↑(length a):Int)=true/\
 leb ((↑(length a):Int)*8) 140737488355328=true/\1=1/\qs i64 a (qs u8 k (Int.toNat (↑(length a):Int)=length a/\Int.toNat (↑(length a):Int)=length a/\qx (replicate zz6 (0:
 Int)) (qs i64 o (0=0/\ql a (qx zz12 (qx zz6 (iI 0=0/\(∃(m:Nat),0=(↑m:Int)/\m<=length o/\length (replicate zz6 (0:Int))=length a/\rkA (replicate zz6 (0:Int)) (↑m:
 Int) (drop m o)=A4X o)/\∀(b_1:L14),(fun(zz16:Bool)=>(fun(zz9:Int)=>(fun(zz17:List Int)=>(∃(m:Nat),b_1.i=(↑m:Int)/\m<=length o/\length b_1.p=length a/\rkA
 b_1.p (↑m:Int) (drop m o)=A4X o)->(ltb b_1.i (↑(length a):Int)=true->rd i64 o b_1.i (leb 0 zz9=true/\ltb zz9 (↑zz6:Int)=true/\length a=Int.toNat (↑(length a):Int)/\
 length a=Int.toNat (↑(length a):Int)/\A0R (Int.toNat zz9+1) (Cont.size (Cont.ints i64 b_1.p))=true/\inR i64 (b_1.i+1)=true/\1=1/\qs i64 a (qs u8 k (length a=length a/\
 length a=length a/\qx zz17 (qs i64 o (0=0/\ql a (qx zz12 (qx zz6 (qx (b_1.i+1) ((∃(m:Nat),b_1.i+1=(↑m:Int)/\m<=length o/\length zz17=length a/\rkA zz17 (↑m:Int)
 (drop m o)=A4X o)/\length o-Int.toNat (b_1.i+1)<length o-Int.toNat b_1.i/\True))))))))))/\(ltb b_1.i (↑(length a):Int)=false->length a=Int.toNat (↑(length a):Int)/\1
 =1/\qs i64 a (qs u8 k (length a=length a/\length a=length a/\b_1.p=b_1.p/\0=0/\ql a (qx zz12 (qx (Cont.ints i64 b_1.p) (qx zz6 (length a=length a/\qx zz16 (iI 0=0/\(∃(m
 :Nat),0=(↑m:Int)/\m<=length a/\∀(j:Nat),j<m->B5v (length a) k (A4X o) (↑j:Int)=false)/\∀(b_2:L83),(fun(zz14:Int)=>(fun(zz13:Int)=>(fun(zz7:List Int)
 =>(fun(zz5:List Int)=>(fun(zz4:List Int)=>(fun(zz10:Bool)=>(fun(zz3:Bool)=>(fun(zz1:Bool)=>(fun(zz11:Bool)=>(fun(zz0:Bool)=>(∃(m:Nat),b_2.i=(↑m:
 Int)/\m<=length a/\∀(j:Nat),j<m->B5v (length a) k (A4X o) (↑j:Int)=false)->(ltb b_2.i (↑(length a):Int)=true->inR i64 (b_2.i+(↑(length a):Int))=true/\inR i64
 (b_2.i+(↑(length a):Int)-1)=true/\(!(↑(length a):Int)==0)=true/\(((Int.tmod b_2.i 2==0)=true->1=1/\qs i64 a (qs u8 k (length a=length a/\length a=length a/\
 b_1.p=b_1.p/\0=0/\ql a (qx zz12 (qx (Cont.ints i64 b_1.p) (qx zz6 (length a=length a/\qx zz16 (b_2.i=b_2.i/\Int.tmod (b_2.i+(↑(length a):Int)-1) (↑(length a):Int)=odI
 (↑(length a):Int) b_2.i/\b_2.i=evI (↑(length a):Int) b_2.i/\True/\True))))))))/\((Int.tmod b_2.i 2==0)=false->1=1/\qs i64 a (qs u8 k (length a=length a/\length a=
 length a/\b_1.p=b_1.p/\0=0/\ql a (qx zz12 (qx (Cont.ints i64 b_1.p) (qx zz6 (length a=length a/\qx zz16 (b_2.i=b_2.i/\b_2.i=odI (↑(length a):Int) b_2.i/\Int.tmod (b_2.i+
 (↑(length a):Int)-1) (↑(length a):Int)=evI (↑(length a):Int) b_2.i/\True/\True)))))))))/\∀(b_3:Unit),True->rd u8 k b_2.i ((zz3=true->zz3=true)/\(zz3=true->zz3=
 true)/\(zz3=true->leb 0 zz13=true)/\(zz3=true->ltb zz13 (↑zz6:Int)=true)/\(zz3=true->ltn 0 (Cont.size (Cont.ints i64 b_1.p))=true)/\(zz3=true->zz3=true)/\(zz3=
 true->ltn 0 (Cont.size (Cont.ints i64 zz4))=true)/\(zz3=true->zz3=true)/\(zz3=true->zz3=true)/\(zz3=true->leb 0 zz14=true)/\(zz3=true->ltb zz14 (↑zz6:Int)=true)
 /\(zz3=true->ltn 0 (Cont.size (Cont.ints i64 b_1.p))=true)/\(zz3=true->zz3=true)/\(zz3=true->ltn 0 (Cont.size (Cont.ints i64 zz5))=true)/\(zz3=true->zz3=true)/\(zz3=
 true->zz3=true)/\(bif getD zz7 0 0==2 then getD zz7 0 0==2&&true else true)=true/\(zz1=true->zz1=true)/\(zz1=true->zz1=true)/\(zz1=true->zz1=true)/\(zz1=true
 ->leb 0 b_2.i=true)/\(zz1=true->ltb b_2.i (↑(length k):Int)=true)/\(zz1=true->ltn 0 (Cont.size (Cont.ints u8 k))=true)/\(zz1=true->zz1=true)/\(zz1=true->ltn 0
 (Cont.size (Cont.ints u8 zz7))=true)/\(zz1=true->zz1=true)/\(zz0=true->zz0=true)/\(zz0=true->zz0=true)/\(zz0=true->leb 0 zz13=true)/\(zz0=true->ltb zz13 (↑zz6:
 Int)=true)/\(zz0=true->ltn 0 (Cont.size (Cont.ints i64 b_1.p))=true)/\(zz0=true->zz0=true)/\(zz0=true->ltn 0 (Cont.size (Cont.ints i64 zz4))=true)/\(zz0=true->zz0=
 true)/\(zz0=true->zz0=true)/\(zz0=true->leb 0 zz14=true)/\(zz0=true->ltb zz14 (↑zz6:Int)=true)/\(zz0=true->ltn 0 (Cont.size (Cont.ints i64 b_1.p))=true)/\(zz0=
 true->zz0=true)/\(zz0=true->ltn 0 (Cont.size (Cont.ints i64 zz5))=true)/\(zz0=true->zz0=true)/\(zz0=true->zz0=true)/\(zz1=true->(zz11&&true)=true)/\(zz1=true
 ->(bif getD zz7 0 0==1 then zz11&&true&&getD zz7 0 0==1&&true else true)=true)/\(bif bif getD zz7 0 0==2 then ltb (getD zz4 0 0) (getD zz5 0 0)else false then true else zz1
 &&true)=true/\(zz10=true->13=A3d a k o/\True)/\(zz10=false->inR i64 (b_2.i+1)=true/\1=1/\qs i64 a (qs u8 k (length a=length a/\length a=length a/\b_1.p=b_1.p/\
 0=0/\ql a (qx zz12 (qx (Cont.ints i64 b_1.p) (qx zz6 (length a=length a/\qx zz16 (qx (b_2.i+1) ((∃(m:Nat),b_2.i+1=(↑m:Int)/\m<=length a/\∀(j:Nat),j<m->B5v
 (length a) k (A4X o) (↑j:Int)=false)/\length a-Int.toNat (b_2.i+1)<length a-Int.toNat b_2.i/\True)))))))))))/\(ltb b_2.i (↑(length a):Int)=false->0=A3d a k o/\True))
 (zz11&&true&&getD zz7 0 0==1)) (zz1&& !bif getD zz7 0 0==2 then ltb (getD zz4 0 0) (getD zz5 0 0)else false)) (!bif getD zz7 0 0==2 then ltb (getD zz4 0 0) (getD zz5 0 0)else
 false)) (getD zz7 0 0==2)) (bif bif getD zz7 0 0==2 then ltb (getD zz4 0 0) (getD zz5 0 0)else false then true else bif getD zz7 0 0==1 then ltb (getD zz5 0 0) (getD zz4 0 0)else
 false)) (drop (Int.toNat zz13) b_1.p)) (drop (Int.toNat zz14) b_1.p)) (drop (Int.toNat b_2.i) k)) (odI (↑(length a):Int) b_2.i)) (evI (↑(length a):Int) b_2.i)))))))))) (set b_1.p
 (Int.toNat zz9) b_1.i)) (getD (drop (Int.toNat b_1.i) o) 0 0)) (ltb b_1.i (↑(length a):Int))))))))))) (!!A5F (length a) (A0b a) o zz8 true)) (bif !A5F (length a) (A0b a) o zz8 true
 then true else !A5F (length a) (A0b a) o zz8 false)) (getD (drop (Int.toNat b.i) (A0b a)) 0 0)) (ltb b.i (↑(length a):Int)))))))) (Int.toNat (↑(length a):Int))):=by kernel_rfl
theorem C21 (x:List Int)(n:Int):fnP (T0) G 10000 C7E (.r [] 0 (.r [] 0 (.r [] 0 (.gho 5 9801 1 (Cont.ints i64 []) (.gho 6 9802 1 (Cont.ints i64 []) (.lp (D5S n) [] [] (fun b=>(.r [] 0 (.cnd (.r [] 4 (.r [] 0 .nil)) (.frz 5 0 (.r [] 0 (.lp (D5T x n) [] [] (fun b_1=>(.r [] 0 (.cnd (.r [] 0 (.jn (jI 9 i64 (pkX x b_1.i (↑(length b_1.l):Int))) [] [] (.r [] 0 (.cnd (.r [] 0 .nil) .nil)) (fun b_2=>(.r [] 64 (.br (pkX x b_1.i (↑(length b_1.l):Int)+1==(↑(length b_1.l):Int)) (.r [(899,.auto,Dr.pk false),(904,.auto,Dr.pk true)] 0 (.r [] 0 .nil)) (.r [(899,.auto,Dr.pk false),(904,.auto,Dr.wrap)] 0 (.frz 5 0 (.r [] 0 .nil)))))))) (.frz 6 0 (.r [] 0 .nil))))))))))))))))) ([A3X .u8 x,.int .i64 n]) ([A3X .i64 (oxL x n.toNat)]) ([])=(
 0=0/\iL []=[]/\0=0/\0=0/\iL []=[]/\Cont.ints u8 x=Cont.ints u8 x/\length x=length x/\n=n/\0=0/\0=0/\iI 0=0/\(∃(m:Nat),0=(↑m:Int)/\m<=Int.toNat n/\
 []=idN m)/\∀(b:LX),(∃(m:Nat),b.i=(↑m:Int)/\m<=Int.toNat n/\b.l=idN m)->(ltb b.i n=true->length b.l=length b.l/\A0R ((length b.l+1)*8) 140737488355328=true/\
 inR i64 (b.i+1)=true/\length b.l+1=length (b.l++[b.i])/\b.l++[b.i]=b.l++[b.i]/\0=0/\0=0/\iL []=[]/\Cont.ints u8 x=Cont.ints u8 x/\length x=length x/\n=n/\
 length b.l+1=length (b.l++[b.i])/\0=0/\b.i+1=b.i+1/\(∃(m:Nat),b.i+1=(↑m:Int)/\m<=Int.toNat n/\b.l++[b.i]=idN m)/\Int.toNat n-Int.toNat (b.i+1)<
 Int.toNat n-Int.toNat b.i/\True)/\(ltb b.i n=false->length b.l=length b.l/\length b.l=length b.l/\b.l=b.l/\0=0/\iL []=[]/\Cont.ints u8 x=Cont.ints u8 x/\length x=
 length x/\n=n/\Cont.ints i64 b.l=Cont.ints i64 b.l/\length b.l=length b.l/\0=0/\ltb b.i n=ltb b.i n/\iI 0=0/\(∃(m:Nat),0=(↑m:Int)/\m<=Int.toNat n/\length b.l=
 Int.toNat n-m/\0=m/\[]++oxR x (Int.toNat n-m) (↑m:Int) b.l=oxL x (Int.toNat n))/\∀(b_1:LY),(fun(zz4:Bool)=>(fun(zz3:Int)=>(∃(m:Nat),b_1.i=(↑m:Int)/\m<=
 Int.toNat n/\length b_1.l=Int.toNat n-m/\length b_1.p=m/\b_1.p++oxR x (Int.toNat n-m) (↑m:Int) b_1.l=oxL x (Int.toNat n))->(ltb b_1.i n=true->((ltb b_1.i (↑(length x):
 Int)=true->leb 0 b_1.i=true/\ltb b_1.i (↑(length x):Int)=true/\ltn 0 (Cont.size (Cont.ints u8 x))=true/\ltn 0 (Cont.size (Cont.ints u8 (drop (Int.toNat b_1.i) x)))=true/\inR
 i64 zz3=true/\(!(↑(length b_1.l):Int)==0)=true/\length b.l=length b.l/\b.l=b.l/\length b_1.p=length b_1.p/\b_1.p=b_1.p/\Cont.ints u8 x=Cont.ints u8 x/\length x=
 length x/\n=n/\Cont.ints i64 b_1.l=Cont.ints i64 b_1.l/\length b_1.l=length b_1.l/\length b_1.p=length b_1.p/\ltb b.i n=ltb b.i n/\b_1.i=b_1.i/\Int.tmod zz3 (↑(length
 b_1.l):Int)=Int.tmod zz3 (↑(length b_1.l):Int)/\Int.tmod zz3 (↑(length b_1.l):Int)=pkX x b_1.i (↑(length b_1.l):Int)/\True)/\(ltb b_1.i (↑(length x):Int)=false->length
 b.l=length b.l/\b.l=b.l/\length b_1.p=length b_1.p/\b_1.p=b_1.p/\Cont.ints u8 x=Cont.ints u8 x/\length x=length x/\n=n/\Cont.ints i64 b_1.l=Cont.ints i64 b_1.l/\
 length b_1.l=length b_1.l/\length b_1.p=length b_1.p/\ltb b.i n=ltb b.i n/\b_1.i=b_1.i/\iI 0=0/\0=pkX x b_1.i (↑(length b_1.l):Int)/\True))/\∀(b_2:VI),(fun(zz1:
 Nat)=>(fun(zz0:Nat)=>(fun(zz5:List Int)=>(fun(zz2:List Int)=>b_2.v=pkX x b_1.i (↑(length b_1.l):Int)->leb 0 b_2.v=true/\ltb b_2.v (↑(length b_1.l):Int)=true/\
 ltn 0 (Cont.size (Cont.ints i64 b_1.l))=true/\ltn 0 (Cont.size (Cont.ints i64 zz2))=true/\length b_1.p=length b_1.p/\A0R ((length b_1.p+1)*8) 140737488355328=true/\(zz4=
 true->leb 0 b_2.v=true/\leb b_2.v b_2.v=true/\A0R zz0 (length b_1.l)=true/\Cont.size (Cont.ints i64 b_1.l)=length b_1.l/\inR i64 (b_2.v+1)=true/\leb 0 (b_2.v+1)=true/\
 A0R zz1 (length b_1.l)=true/\Cont.size (Cont.ints i64 b_1.l)=length b_1.l/\length b_1.l-Int.toNat (b_2.v+1)=0/\Cont.size (Cont.ints i64 (drop zz1 b_1.l))=length b_1.l-
 Int.toNat (b_2.v+1)/\inR i64 (b_1.i+1)=true/\length b.l=length b.l/\b.l=b.l/\length b_1.p+1=length (b_1.p++[getD zz2 0 0])/\b_1.p++[getD zz2 0 0]=b_1.p++[getD zz2
 0 0]/\Cont.ints u8 x=Cont.ints u8 x/\length x=length x/\n=n/\Cont.ints i64 zz5=Cont.ints i64 zz5/\Int.toNat b_2.v=length zz5/\length b_1.p+1=length (b_1.p++[getD zz2 0
 0])/\ltb b.i n=ltb b.i n/\b_1.i+1=b_1.i+1/\(∃(m:Nat),b_1.i+1=(↑m:Int)/\m<=Int.toNat n/\length zz5=Int.toNat n-m/\length (b_1.p++[getD zz2 0 0])=m/\b_1.p++
 [getD zz2 0 0]++oxR x (Int.toNat n-m) (↑m:Int) zz5=oxL x (Int.toNat n))/\Int.toNat n-Int.toNat (b_1.i+1)<Int.toNat n-Int.toNat b_1.i/\True)/\(zz4=false->leb 0 b_2.v=
 true/\leb b_2.v b_2.v=true/\A0R zz0 (length b_1.l)=true/\Cont.size (Cont.ints i64 b_1.l)=length b_1.l/\inR i64 (b_2.v+1)=true/\leb 0 (b_2.v+1)=true/\A0R zz1 (length
 b_1.l)=true/\Cont.size (Cont.ints i64 b_1.l)=length b_1.l/\Int.toNat b_2.v=Int.toNat b_2.v/\Cont.size (Cont.ints i64 zz5)=Int.toNat b_2.v/\A0R ((Int.toNat b_2.v+(length b_1.l
 -Int.toNat (b_2.v+1)))*8) 140737488355328=true/\ltn 0 (length b_1.l-Int.toNat (b_2.v+1))=true/\Cont.size (Cont.ints i64 (drop zz1 b_1.l))=length b_1.l-Int.toNat (b_2.v+
 1)/\Int.toNat b_2.v+(length b_1.l-Int.toNat (b_2.v+1))=Int.toNat b_2.v+(length b_1.l-Int.toNat (b_2.v+1))/\inR i64 (b_1.i+1)=true/\length b.l=length b.l/\b.l=b.l/\
 length b_1.p+1=length (b_1.p++[getD zz2 0 0])/\b_1.p++[getD zz2 0 0]=b_1.p++[getD zz2 0 0]/\Cont.ints u8 x=Cont.ints u8 x/\length x=length x/\n=n/\Cont.ints i64 (take
 zz0 b_1.l++drop zz1 b_1.l)=Cont.ints i64 (take zz0 b_1.l++drop zz1 b_1.l)/\Int.toNat b_2.v+(length b_1.l-Int.toNat (b_2.v+1))=length (take zz0 b_1.l++drop zz1 b_1.l)/\
 length b_1.p+1=length (b_1.p++[getD zz2 0 0])/\ltb b.i n=ltb b.i n/\b_1.i+1=b_1.i+1/\(∃(m:Nat),b_1.i+1=(↑m:Int)/\m<=Int.toNat n/\length (take zz0 b_1.l++drop
 zz1 b_1.l)=Int.toNat n-m/\length (b_1.p++[getD zz2 0 0])=m/\b_1.p++[getD zz2 0 0]++oxR x (Int.toNat n-m) (↑m:Int) (take zz0 b_1.l++drop zz1 b_1.l)=oxL x (Int.toNat n))
 /\Int.toNat n-Int.toNat (b_1.i+1)<Int.toNat n-Int.toNat b_1.i/\True)) (drop zz0 b_1.l)) (take zz0 b_1.l)) (Int.toNat b_2.v)) (Int.toNat (b_2.v+1)))/\(ltb b_1.i n=false->length
 b_1.p=length b_1.p/\Cont.ints i64 b_1.p=Cont.ints i64 (oxL x (Int.toNat n))/\length b_1.p=length (oxL x (Int.toNat n))/\True)) (getD (drop (Int.toNat b_1.i) x) 0 0)) (pkX x b_1.i
 (↑(length b_1.l):Int)+1==(↑(length b_1.l):Int)))):=by kernel_rfl
end Go.Proofs.YthiammkiobbclaaGreatDoor.X
