/-
 Cones: what the law of deciding computes.
-/
import Derived.Test.YthiammkiobbclaaGreatDoorC11Z
set_option maxRecDepth 1000000
set_option linter.unusedVariables false
namespace Go.Proofs.YthiammkiobbclaaGreatDoor.X
open Go Go.Ab
def t7:List (Nat×CtE):=[(10,e25),(25,C8t),(13,C47),(14,C49),(29,C9P),(18,e24),(27,C48),(11,e11)]
def T7:Tab:=A2t t7 A3E
def dsm (h:List Int):Int:=(h.map fun x=>3-2*x).sum
structure L7 where (i d:Int)
def l7 (h:List Int):LpS L7 where
 ov b:=[(13,.int .i64 b.i),(12,.int .i64 b.d)]
 bk b:=[]
 rd S:=match aget S.t 13,aget S.t 12 with
  |some (.int _ i),some (.int _ d)=>some ⟨i,d⟩
  |_,_=>none
 pre b:=∃m:Nat,b.i=m/\m<=h.length/\b.d=dsm (h.take m)
 mu b:=h.length-b.i.toNat
open List IntKind
theorem D1K (c l:Int)(ks ys:List Int):fnP (T7) G 10000 fe7 (.r [] 0 (.r [] 5 (.r [] 1 (.r [] 0 (.br (A0l (ofA c l ks) (ofK c ks)) (.br (A3d (ofA c l ks) (ofK c ks) (oxL ys (length (ofK c ks)))==12) (.rs 4 [] 1 25 (.r [] 3 (.lit (.r [] 113 (.rs 3 [] 0 39 (.r [yL 460,yL 461,yL 462,yL 463,yL 466] 7679 .nil) (.rs 3 [] 0 42 (.r [yL 460,yL 461,yL 462,yL 463,yL 466] 491249 .nil) (.r [yL 460,yL 461,yL 462,yL 463,yL 466] 30703 .nil)))))) (.r [] 49 (.tt (.r [] 113 (.rs 3 [] 0 39 (.r [yL 460,yL 461,yL 462,yL 463,yL 466] 7679 .nil) (.rs 3 [] 0 42 (.r [yL 460,yL 461,yL 462,yL 463,yL 466] 491249 .nil) (.r [yL 460,yL 461,yL 462,yL 463,yL 466] 30703 .nil))))))) (.rs 4 [] 1 25 (.r [] 3 (.lit (.r [] 113 (.rs 3 [] 0 39 (.rs 15 [] 31 54 (.r [] 7 .nil) (.r [] 3 .nil)) (.rs 3 [] 0 42 (.rs 6 [] 241 48 (.rs 6 [] 7 54 (.r [] 7 .nil) (.r [] 3 .nil)) (.r [] 15 .nil)) (.r [] 255 .nil)))))) (.r [] 49 (.ff (.r [] 113 (.r [yL 579,yL 580,yL 581,yL 582,yL 583,yL 586,yL 587,yL 588,yL 589,yL 590,yL 593,yL 594,yL 595,yL 596,yL 597,yL 598,yL 601,yL 602,yL 603,yL 604] 64130842366 (.ff (.r [] 0 (.r [] 0 (.lp (l7 (kdL (ofA c l ks) (oxL ys (length (ofK c ks))))) [] [] (fun b=>(.r [] 0 (.cnd (.rs 7 [] 1 104 (.r [] 97 (.cnd (.r [] 0 .nil) (.r [] 2 (.r [] 0 .nil)))) (.r [] 3 (.lit (.r [] 2 (.r [] 0 .nil))))) (.rs 3 [] 0 124 (.r [] 127 .nil) (.rs 4 [] 3 128 (.r [] 31 .nil) (.rs 4 [] 3 132 (.r [] 7 .nil) (.r [] 3 .nil))))))))))))))))) (.rs 4 [] 1 25 (.r [] 3 (.lit (.r [] 113 (.rs 3 [] 0 39 (.r [yL 460,yL 461,yL 462,yL 463,yL 466] 7679 .nil) (.rs 3 [] 0 42 (.r [yL 460,yL 461,yL 462,yL 463,yL 466] 491249 .nil) (.r [yL 460,yL 461,yL 462,yL 463,yL 466] 30703 .nil)))))) (.r [] 49 (.tt (.r [] 113 (.rs 3 [] 0 39 (.r [yL 460,yL 461,yL 462,yL 463,yL 466] 7679 .nil) (.rs 3 [] 0 42 (.r [yL 460,yL 461,yL 462,yL 463,yL 466] 491249 .nil) (.r [yL 460,yL 461,yL 462,yL 463,yL 466] 30703 .nil)))))))))))) ([fV c l ks,.imm (.ints .u8 ys) ys.length none]) ([.bool true]) ([])=(
 (fun(A K:List Int)=>(fun(zz0:Nat)=>(fun(zz8:Bool)=>(fun(zz6:Nat)=>(fun(zz5:Bool)=>(fun(zz4:Bool)=>(fun(zz3:Nat)=>(fun(zz2:Bool)=>(qx (length ks) (okK
 ks))/\length K=length K/\(qx (length ys) ((∀(y:Int),y∈ys->0<=y/\y<256)/\0<=(↑(length K):Int)/\(↑(length K):Int)<1000000))/\(A0l A K=true->((A3d A K (oxL ys
 (length K))==12)=true->length A=length A/\length K=length K/\(length A=length A/\length K=length K/\length A<1000000)/\((!A0l A K)=true->length A=length A/\length
 K=length K/\(length A=length A/\length K=length K/\length A<1000000/\qx zz6 (length (oxL ys zz0)<1000000))/\(zz4=true->zz2=true/\true=true/\True)/\(zz4=false->
 (zz5=true->length A=length A/\length K=length K/\(length A=length A/\length K=length K/\length A<1000000)/\(!A0l A K)=true/\zz2=true/\true=true/\True)/\(zz5=
 false->false=true/\zz2=true/\true=true/\True)))/\((!A0l A K)=false->length A=length A/\length K=length K/\(length A=length A/\length K=length K/\qx zz6 (okA A/\
 length A=length K/\List.Perm (oxL ys zz0) (map (fun(i:Nat)=>(↑i:Int)) (range.loop (length A) []))))/\zz8=true/\length A=length A/\length K=length K/\(length A=length A
 /\length K=length K/\length A<1000000/\qx zz6 (length (oxL ys zz0)<1000000))/\(zz4=true->zz2=true/\true=true/\True)/\(zz4=false->(zz5=true->length A=length A/\
 length K=length K/\(length A=length A/\length K=length K/\length A<1000000)/\(!A0l A K)=true/\zz2=true/\true=true/\True)/\(zz5=false->false=true/\zz2=true/\
 true=true/\True))))/\((A3d A K (oxL ys (length K))==12)=false->length A=length A/\length K=length K/\(length A=length A/\length K=length K/\length A<1000000)/\
 ((!A0l A K)=true->length A=length A/\length K=length K/\(length A=length A/\length K=length K/\length A<1000000/\qx zz6 (length (oxL ys zz0)<1000000))/\(zz4=true->
 (zz2=true->true=true/\True)/\(zz2=false->false=true/\True))/\(zz4=false->(zz5=true->length A=length A/\length K=length K/\(length A=length A/\length K=length K
 /\length A<1000000)/\((!A0l A K)=true->(zz2=true->true=true/\True)/\(zz2=false->false=true/\True))/\((!A0l A K)=false->false=true/\True))/\(zz5=false->false=
 true/\True)))/\((!A0l A K)=false->length A=length A/\length K=length K/\(length A=length A/\length K=length K/\qx zz6 (okA A/\length A=length K/\List.Perm (oxL ys zz0)
 (map (fun(i:Nat)=>(↑i:Int)) (range.loop (length A) []))))/\zz8=false/\length A=length A/\length K=length K/\(length A=length A/\length K=length K/\length A<1000000/\
 qx zz6 (length (oxL ys zz0)<1000000))/\(!B1j A K (oxL ys zz0) !=0)=true/\(!(↑zz3:Int) !=(↑(length K):Int))=true/\(!(↑zz3:Int) !=(↑(length K):Int))=true/\length A=
 length A/\(length (bLs (A1e A K (oxL ys zz0)) A)=length (bLs (A1e A K (oxL ys zz0)) A)/\length A=length A/\length (bLs (A1e A K (oxL ys zz0)) A)=length (bLs (A1e A K (oxL ys
 zz0)) A)/\length (bLs (A1e A K (oxL ys zz0)) A)<1000000000000)/\(!!decide (bLs (A1e A K (oxL ys zz0)) A=ofA c l ks))=true/\(length (bLs (A1e A K (oxL ys zz0)) A)=length (bLs
 (A1e A K (oxL ys zz0)) A)/\length (bLs (A1e A K (oxL ys zz0)) (kdL A (oxL ys zz0)))=length (bLs (A1e A K (oxL ys zz0)) (kdL A (oxL ys zz0)))/\length (bLs (A1e A K (oxL ys zz0)) A)<
 1000000/\qx zz6 (length (oxL ys zz0)<1000000))/\(A3n (bLs (A1e A K (oxL ys zz0)) A) (bLs (A1e A K (oxL ys zz0)) (kdL A (oxL ys zz0))) (oxL ys zz0) !=0)=false/\1=1/\c=c/\l=
 l/\qs u8 ks (length A=length A/\qx (ofA c l ks) (length K=length K/\ofK c ks=ofK c ks/\1=1/\length A=length A/\length K=length K/\1=1/\Cont.ints i64 (bLs (A1e A K (oxL
 ys zz0)) A)=Cont.ints i64 (bLs (A1e A K (oxL ys zz0)) A)/\length (bLs (A1e A K (oxL ys zz0)) A)=length (bLs (A1e A K (oxL ys zz0)) A)/\length (bLs (A1e A K (oxL ys zz0)) A)=
 length (bLs (A1e A K (oxL ys zz0)) A)/\Cont.ints u8 (bLs (A1e A K (oxL ys zz0)) (kdL A (oxL ys zz0)))=Cont.ints u8 (bLs (A1e A K (oxL ys zz0)) (kdL A (oxL ys zz0)))/\length (bLs (A1e
 A K (oxL ys zz0)) (kdL A (oxL ys zz0)))=length (bLs (A1e A K (oxL ys zz0)) (kdL A (oxL ys zz0)))/\length (bLs (A1e A K (oxL ys zz0)) (kdL A (oxL ys zz0)))=length (bLs (A1e A K (oxL
 ys zz0)) (kdL A (oxL ys zz0)))/\ql K (0=0/\iI 0=0/\iI 0=0/\(∃(m:Nat),0=(↑m:Int)/\m<=length (kdL A (oxL ys (length K)))/\0=dsm (take m (kdL A (oxL ys (length K)))))/\∀
 (b:L7),(fun(zz1:List Int)=>(fun(zz7:Prop)=>(∃(m:Nat),b.i=(↑m:Int)/\m<=length (kdL A (oxL ys (length K)))/\b.d=dsm (take m (kdL A (oxL ys (length K)))))->(ltb b.i
 (↑(length K):Int)=true->leb 0 b.i=true/\ltb b.i (↑zz3:Int)=true/\ltn 0 (Cont.size (Cont.ints u8 (bLs (A1e A K (oxL ys zz0)) (kdL A (oxL ys zz0)))))=true/\ltn 0 (Cont.size
 (Cont.ints u8 zz1))=true/\((getD zz1 0 0 !=1)=true->leb 0 b.i=true/\ltb b.i (↑zz3:Int)=true/\ltn 0 (Cont.size (Cont.ints u8 (bLs (A1e A K (oxL ys zz0)) (kdL A (oxL ys
 zz0)))))=true/\ltn 0 (Cont.size (Cont.ints u8 zz1))=true/\((getD zz1 0 0 !=2)=true->false=true/\True)/\((getD zz1 0 0 !=2)=false->inR i64 (b.d+3)=true/\leb 0 b.i=
 true/\ltb b.i (↑zz3:Int)=true/\ltn 0 (Cont.size (Cont.ints u8 (bLs (A1e A K (oxL ys zz0)) (kdL A (oxL ys zz0)))))=true/\ltn 0 (Cont.size (Cont.ints u8 zz1))=true/\inR i64 (getD
 zz1 0 0)=true/\inR i64 (2*getD zz1 0 0)=true/\inR i64 (b.d+3-2*getD zz1 0 0)=true/\inR i64 (b.i+1)=true/\1=1/\c=c/\l=l/\qs u8 ks (length A=length A/\qx (ofA
 c l ks) (length K=length K/\ofK c ks=ofK c ks/\1=1/\length A=length A/\length K=length K/\1=1/\Cont.ints i64 (bLs (A1e A K (oxL ys zz0)) A)=Cont.ints i64 (bLs (A1e A K
 (oxL ys zz0)) A)/\length (bLs (A1e A K (oxL ys zz0)) A)=length (bLs (A1e A K (oxL ys zz0)) A)/\length (bLs (A1e A K (oxL ys zz0)) A)=length (bLs (A1e A K (oxL ys zz0)) A)/\
 Cont.ints u8 (bLs (A1e A K (oxL ys zz0)) (kdL A (oxL ys zz0)))=Cont.ints u8 (bLs (A1e A K (oxL ys zz0)) (kdL A (oxL ys zz0)))/\length (bLs (A1e A K (oxL ys zz0)) (kdL A (oxL ys zz0)))
 =length (bLs (A1e A K (oxL ys zz0)) (kdL A (oxL ys zz0)))/\length (bLs (A1e A K (oxL ys zz0)) (kdL A (oxL ys zz0)))=length (bLs (A1e A K (oxL ys zz0)) (kdL A (oxL ys zz0)))/\ql K (0
 =0/\b.d+3-2*getD zz1 0 0=b.d+3-2*getD zz1 0 0/\b.i+1=b.i+1/\zz7/\length (kdL A (oxL ys (length K)))-Int.toNat (b.i+1)<length (kdL A (oxL ys (length K)))-
 Int.toNat b.i/\True)))))/\((getD zz1 0 0 !=1)=false->inR i64 (b.d+3)=true/\leb 0 b.i=true/\ltb b.i (↑zz3:Int)=true/\ltn 0 (Cont.size (Cont.ints u8 (bLs (A1e A K (oxL ys
 zz0)) (kdL A (oxL ys zz0)))))=true/\ltn 0 (Cont.size (Cont.ints u8 zz1))=true/\inR i64 (getD zz1 0 0)=true/\inR i64 (2*getD zz1 0 0)=true/\inR i64 (b.d+3-2*getD zz1 0 0)
 =true/\inR i64 (b.i+1)=true/\1=1/\c=c/\l=l/\qs u8 ks (length A=length A/\qx (ofA c l ks) (length K=length K/\ofK c ks=ofK c ks/\1=1/\length A=length A/\length
 K=length K/\1=1/\Cont.ints i64 (bLs (A1e A K (oxL ys zz0)) A)=Cont.ints i64 (bLs (A1e A K (oxL ys zz0)) A)/\length (bLs (A1e A K (oxL ys zz0)) A)=length (bLs (A1e A K (oxL ys
 zz0)) A)/\length (bLs (A1e A K (oxL ys zz0)) A)=length (bLs (A1e A K (oxL ys zz0)) A)/\Cont.ints u8 (bLs (A1e A K (oxL ys zz0)) (kdL A (oxL ys zz0)))=Cont.ints u8 (bLs (A1e A K
 (oxL ys zz0)) (kdL A (oxL ys zz0)))/\length (bLs (A1e A K (oxL ys zz0)) (kdL A (oxL ys zz0)))=length (bLs (A1e A K (oxL ys zz0)) (kdL A (oxL ys zz0)))/\length (bLs (A1e A K (oxL ys
 zz0)) (kdL A (oxL ys zz0)))=length (bLs (A1e A K (oxL ys zz0)) (kdL A (oxL ys zz0)))/\ql K (0=0/\b.d+3-2*getD zz1 0 0=b.d+3-2*getD zz1 0 0/\b.i+1=b.i+1/\zz7/\
 length (kdL A (oxL ys (length K)))-Int.toNat (b.i+1)<length (kdL A (oxL ys (length K)))-Int.toNat b.i/\True)))))/\(ltb b.i (↑(length K):Int)=false->(((↑(length K):Int)==0)
 =true->true=true/\True)/\(((↑(length K):Int)==0)=false->((b.d==2)=true->true=true/\True)/\((b.d==2)=false->((b.d== -2)=true->true=true/\True)/\((b.d== -2)
 =false->false=true/\True))))) (∃(m:Nat),b.i+1=(↑m:Int)/\m<=length (kdL A (oxL ys (length K)))/\b.d+3-2*getD zz1 0 0=dsm (take m (kdL A (oxL ys (length K)))))) (drop
 (Int.toNat b.i) (bLs (A1e A K (oxL ys zz0)) (kdL A (oxL ys zz0))))))))))/\(A0l A K=false->length A=length A/\length K=length K/\(length A=length A/\length K=length K/\
 length A<1000000)/\((!A0l A K)=true->length A=length A/\length K=length K/\(length A=length A/\length K=length K/\length A<1000000/\qx zz6 (length (oxL ys zz0)<
 1000000))/\(zz4=true->zz2=true/\true=true/\True)/\(zz4=false->(zz5=true->length A=length A/\length K=length K/\(length A=length A/\length K=length K/\length A<
 1000000)/\(!A0l A K)=true/\zz2=true/\true=true/\True)/\(zz5=false->false=true/\zz2=true/\true=true/\True)))/\((!A0l A K)=false->length A=length A/\length K=
 length K/\(length A=length A/\length K=length K/\qx zz6 (okA A/\length A=length K/\List.Perm (oxL ys zz0) (map (fun(i:Nat)=>(↑i:Int)) (range.loop (length A) []))))/\zz8=
 true/\length A=length A/\length K=length K/\(length A=length A/\length K=length K/\length A<1000000/\qx zz6 (length (oxL ys zz0)<1000000))/\(zz4=true->zz2=true/\true
 =true/\True)/\(zz4=false->(zz5=true->length A=length A/\length K=length K/\(length A=length A/\length K=length K/\length A<1000000)/\(!A0l A K)=true/\zz2=true/\
 true=true/\True)/\(zz5=false->false=true/\zz2=true/\true=true/\True))))) ((↑(length (bLs (A1e A K (oxL ys zz0)) A)):Int)==0)) (length (bLs (A1e A K (oxL ys zz0)) (kdL A
 (oxL ys zz0))))) (B1j A K (oxL ys zz0)==12)) (B1j A K (oxL ys zz0)==14)) (length (oxL ys zz0))) (A3d A K (oxL ys zz0)==12)) (Int.toNat (↑(length K):Int))) (ofA c l ks) (ofK c ks)):=by kernel_rfl
theorem A40 (r:List Int)(u v:Int):ovlB r u v=ovlB r v u:=by
 unfold ovlB;have h1:∀x y:Int,mxI x y=mxI y x:=fun x y=>by unfold mxI;split<;>split<;>omega
 have h2:∀x y:Int,mnI x y=mnI y x:=fun x y=>by unfold mnI;split<;>split<;>omega
 rw[h1 (mnI (gR r u) (gR r (u+1))),h2 (mxI (gR r u) (gR r (u+1)))]
theorem A5q {r:List Int}{g:Bool}{y u v:Int}(h1:skG r g y u=false)(h2:skG r g y v=false):ovlB r u v=true:=by
 unfold skG at h1 h2;unfold ovlB;rw[A0h];generalize mnI (gR r u) (gR r (u+1))=a at*;generalize mxI (gR r u) (gR r (u+1))=b at*;generalize mnI (gR r v) (gR r (v+1))=c at*;generalize mxI (gR r v) (gR r (v+1))=d at*;unfold mxI mnI;cases g<;>simp[A0x,A0M]at h1 h2<;>(split<;>split<;>omega)
structure Sub (n:Nat)(r rk' rk:List Int):Prop where
 all:∀u:Int,0<=u->u<n->0<=gR rk u
 rel:∀u v:Int,0<=u->u<n->0<=v->v<n->ovlB r u v=true->0<=gR rk' u->0<=gR rk' v->(gR rk' u<gR rk' v↔gR rk u<gR rk v)
theorem A7q {n c s:Int}{rk:List Int}:A7g n rk c s=true↔(0<=gR rk (bfI n c)/\0<=gR rk c)/\((gR rk (bfI n c)<gR rk s/\gR rk s<gR rk c)\/(gR rk c<gR rk s/\gR rk s<gR rk (bfI n c))):=by
 unfold A7g;rw[Bool.and_eq_true,Bool.and_eq_true,A0k,A0h,A0h];unfold mnI mxI;split<;>split<;>omega
section
variable {n:Nat}{r rk' rk:List Int}(A:Alt n r)(S:Sub n r rk' rk)
include A S
theorem Sub.btw {c s:Int}{g:Bool}(h0:0<=c)(h1:c<n)(s0:0<=s)(s1:s<n)(hg:A42 r c=g)(hs:skG r g (gR r c) s=false)(p1:0<=gR rk' (bfI n c))(p2:0<=gR rk' c)(p3:0<=gR rk' s):
  A7g n rk' c s=A7g n rk c s:=by
 obtain⟨b1,b2,_⟩:=A.bf h0 h1;have e1:=(A.ev2 h0 h1 rfl hg (.inl rfl)).1;have e2:=(A.ev2 h0 h1 rfl hg (.inr rfl)).1;rw[Bool.eq_iff_iff,A7q,A7q];have r1:=S.rel _ _ b1 b2 s0 s1 (A5q e2 hs) p1 p3;have r2:=S.rel _ _ s0 s1 h0 h1 (A5q hs e1) p3 p2;have r3:=S.rel _ _ h0 h1 s0 s1 (A5q e1 hs) p2 p3;have r4:=S.rel _ _ s0 s1 b1 b2 (A5q hs e2) p3 p1;have a1:=S.all _ b1 b2;have a2:=S.all _ h0 h1;rw[r1,r2,r3,r4];constructor
 ·exact fun h=>⟨⟨a1,a2⟩,h.2⟩
 ·exact fun h=>⟨⟨p1,p2⟩,h.2⟩
theorem Sub.crs {i k:Int}(h0:0<=i)(h1:i<n)(k0:0<=k)(k1:k<n)(h:A9K n r rk' i k=true):A9K n r rk i k=true:=by
 unfold A9K at h ⊢;rw[Bool.or_eq_true]at h ⊢;rcases h with h|h
 ·left;rw[Bool.and_eq_true]at h ⊢;refine⟨h.1,?_⟩;have hb:=A7q.1 h.2;rw[<- S.btw A h0 h1 k0 k1 rfl ((A.skip k0 k1).2 (.inl h.1)) hb.1.1 hb.1.2 (by omega)];exact h.2
 ·right;simp only[Bool.and_eq_true,bne_iff_ne,beq_iff_eq,ne_eq,A0k]at h ⊢;obtain⟨c1,c2,c3,c4,c5⟩:=h;obtain⟨b1,b2,_⟩:=A.bf k0 k1;have c4':=C4a.1 c4;have e1:=(A.ev2 k0 k1 c2 c3 (.inl rfl)).1;have e2:=(A.ev2 k0 k1 c2 c3 (.inr rfl)).1;refine⟨c1,c2,c3,C4a.2 ⟨S.all _ b1 b2,S.all _ k0 k1⟩,?_⟩;have hp:0<=gR rk' (bfI n i)/\0<=gR rk' i:=by
   cases hb1:A7g n rk' i (bfI n k)with
   |true=>exact(A7q.1 hb1).1
   |false=>
    cases hb2:A7g n rk' i k with
    |true=>exact(A7q.1 hb2).1
    |false=>rw[hb1,hb2]at c5;exact absurd rfl c5
  rw[<- S.btw A h0 h1 b1 b2 rfl e2 hp.1 hp.2 c4'.1,<- S.btw A h0 h1 k0 k1 rfl e1 hp.1 hp.2 c4'.2];exact c5
theorem Sub.kd {i:Int}(h0:0<=i)(h1:i<n)(p1:0<=gR rk' (bfI n i))(p2:0<=gR rk' i):kdI n rk' i=kdI n rk i:=by
 obtain⟨b1,b2,_⟩:=A.bf h0 h1;have e1:=(A.ev2 h0 h1 rfl rfl (.inl rfl)).1;have e2:=(A.ev2 h0 h1 rfl rfl (.inr rfl)).1;have r1:=S.rel _ _ b1 b2 h0 h1 (A5q e2 e1) p1 p2;have r2:=S.rel _ _ h0 h1 b1 b2 (A5q e1 e2) p2 p1;unfold kdI;simp only[r1,r2]
theorem Sub.wrg {k:List Int}(hk:k.length=n){i:Int}(h0:0<=i)(h1:i<n)(h:B1O k rk' i=true):B1O k rk i=true:=by
 unfold B1O at h ⊢;simp only[Bool.and_eq_true,bne_iff_ne,ne_eq,A0k,hk]at h ⊢;obtain⟨c1,c2,c3⟩:=h;obtain⟨b1,b2,_⟩:=A.bf h0 h1;have c2':=C4a.1 c2;refine⟨c1,C4a.2 ⟨S.all _ b1 b2,S.all _ h0 h1⟩,?_⟩;rw[<- S.kd A h0 h1 c2'.1 c2'.2];exact c3
end
theorem Sub.cw {n:Nat}{r k o' o:List Int}(A:Alt n r)(hk:k.length=n)(S:Sub n r (rkL o') (rkL o))(h:cwB n r k o=false):cwB n r k o'=false:=by
 rw[<- Bool.not_eq_true]at h ⊢;intro h';apply h;rw[B1y]at h' ⊢;rcases h' with h'|h'
 ·left;unfold A4y at h' ⊢;obtain⟨i,hi,h'⟩:=A1P.1 h';obtain⟨j,hj,h'⟩:=A1P.1 h';exact A1P.2 ⟨i,hi,A1P.2 ⟨j,hj,S.crs A (by omega) (by omega) (by omega) (by omega) h'⟩⟩
 ·right;unfold A7h at h' ⊢;obtain⟨i,hi,h'⟩:=A1P.1 h';rw[hk]at hi;exact A1P.2 ⟨i,by omega,S.wrg A hk (by omega) (by omega) h'⟩
theorem A8v {α:Type}{p q:α->Bool}:∀(l:List α),(∀x∈l,p x=q x)->l.find? p=l.find? q
 |[],_=>rfl
 |x::l,h=>by
  rw[List.find?_cons,List.find?_cons,h x (List.mem_cons_self ..),A8v l fun y hy=>h y (List.mem_cons_of_mem _ hy)]
theorem A6e {r rk:List Int}{n:Nat}:∀(d m:Nat),(A3H r rk n (m+d)).take m=A3H r rk n m
 |0,m=>by rw[Nat.add_zero,List.take_of_length_le (by rw[A2n];exact Nat.le_refl _)]
 |d+1,m=>by
  have ih:=A6e (r:=r) (rk:=rk) (n:=n) d m;show(A3H r rk n (m+d)++_).take m=_;rw[List.take_append_of_le_length (by rw[A2n];omega),ih]
theorem C0P {r rk:List Int}{n m:Nat}(h:m<n):(A3H r rk n n)[m]? =some (fr1 r rk n (A3H r rk n m)):=by
 have e:=A6e (r:=r) (rk:=rk) (n:=n) (n-(m+1)) (m+1);rw[show m+1+(n-(m+1))=n by omega]at e;have:((A3H r rk n n).take (m+1))[m]? =(A3H r rk n n)[m]? :=by rw[List.getElem?_take_of_lt (by omega)]
 rw[<- this,e];show(A3H r rk n m++[_])[m]? =_;rw[List.getElem?_append_right (by rw[A2n];exact Nat.le_refl _),A2n];simp
theorem C3g {r rk out:List Int}{i k:Int}:frC r rk out i k=true↔k∈out\/gR rk i<=gR rk k\/ovlB r i k=false:=by
 unfold frC;rw[Bool.or_eq_true,Bool.or_eq_true,A1B,A0k,Bool.not_eq_true']
theorem A7r {r rk out:List Int}{i:Int}{n:Nat}:frK r rk out i n=true↔i∉out/\∀k:Nat,k<n->((k:Int)∈out\/gR rk i<=gR rk k\/ovlB r i k=false):=by
 unfold frK;rw[Bool.and_eq_true,Bool.not_eq_true',A4x,List.all_eq_true];simp only[List.mem_range,C3g]
theorem B1F {n:Nat}{r o:List Int}(hn:n<=8)(ho:o.Perm (idO n)){u v:Int}(u0:0<=u)(u1:u<n)(v0:0<=v)(v1:v<n)(hov:ovlB r u v=true)(h:gR (rkL o) u<gR (rkL o) v):
  gR (rkL (A0I r o)) u<gR (rkL (A0I r o)) v:=by
 have hl:=A0K ho;have hp:(A0I r o).Perm (idO n):=by rw[<- hl];exact A3x r o
 obtain⟨R1,R2⟩:=A2Y hn hp;obtain⟨m,hm,e1,e2⟩:=R2 v v0 v1;have hmn:m<n:=by rw[A0K hp]at hm;exact hm
 have e3:A0I r o=A3H r (rkF o) n n:=by unfold A0I;rw[hl]
 have e4:=C0P (r:=r) (rk:=rkF o) hmn;rw[<- e3,List.getElem?_eq_getElem hm,e1]at e4;obtain⟨m',h1,h2,h3⟩:=B7r (r:=r) (rk:=rkF o) (out:=A3H r (rkF o) n m) (n:=n) (by rw[A2n];omega);rw[h2]at e4;cases e4;have h4:=(A7r.1 h3).2 u.toNat (by omega);rw[show((u.toNat:Nat):Int)=u by omega]at h4;rw[A3F o]at h;rw[A40]at hov;have h5:u∈A3H r (rkF o) n m:=by
  rcases h4 with h4|h4|h4
  ·exact h4
  ·omega
  ·rw[hov]at h4;cases h4
 have e5:=A6e (r:=r) (rk:=rkF o) (n:=n) (n-m) m;rw[show m+(n-m)=n by omega,<- e3]at e5;rw[<- e5]at h5;obtain⟨j,hj,hj2⟩:=List.getElem_of_mem h5;rw[List.length_take]at hj;rw[List.getElem_take]at hj2;have:=(R1 j (by omega)).2.2;rw[hj2]at this;omega
theorem C6x {n:Nat}{o:List Int}(hn:n<=8)(ho:o.Perm (idO n)){u v:Int}(u0:0<=u)(u1:u<n)(v0:0<=v)(v1:v<n):gR (rkL o) u=gR (rkL o) v->u=v:=fun e=>by
 obtain⟨R1,R2⟩:=A2Y hn ho;obtain⟨m,hm,e1,e2⟩:=R2 u u0 u1;obtain⟨m',hm',e3,e4⟩:=R2 v v0 v1;have:m=m':=by omega
 subst this;rw[<- e1,<- e3]
theorem B5k {n:Nat}{o:List Int}(hn:n<=8)(ho:o.Perm (idO n)){u:Int}(u0:0<=u)(u1:u<n):0<=gR (rkL o) u:=by
 obtain⟨m,hm,e1,e2⟩:=(A2Y hn ho).2 u u0 u1;omega
theorem B1G {n:Nat}{r o:List Int}(hn:n<=8)(ho:o.Perm (idO n)){u v:Int}(u0:0<=u)(u1:u<n)(v0:0<=v)(v1:v<n)(hov:ovlB r u v=true):
  gR (rkL (A0I r o)) u<gR (rkL (A0I r o)) v↔gR (rkL o) u<gR (rkL o) v:=by
 constructor
 ·intro h;rcases Int.lt_or_le (gR (rkL o) u) (gR (rkL o) v)with h1|h1
  ·exact h1
  ·by_cases e:gR (rkL o) v=gR (rkL o) u
   ·have:=C6x hn ho v0 v1 u0 u1 e;subst this;omega
   ·have:=B1F hn ho v0 v1 u0 u1 (by rw[A40];exact hov) (by omega:gR (rkL o) v<gR (rkL o) u);omega
 ·exact B1F hn ho u0 u1 v0 v1 hov
theorem A7s {n:Nat}{r o:List Int}(ho:o.Perm (idO n)):(A0I r o).Perm (idO n):=by
 have:=A3x r o
 rwa [A0K ho]at this
theorem A7t {n:Nat}{r o:List Int}(hn:n<=8)(ho:o.Perm (idO n)):Sub n r (rkL (A0I r o)) (rkL o):=
 ⟨fun u a b=>B5k hn ho a b,fun u v a b c d e _ _=>B1G hn ho a b c d e⟩
theorem B1H {r rk rk':List Int}{n:Nat}(h:∀u v:Int,0<=u->u<n->0<=v->v<n->ovlB r u v=true->(gR rk u<gR rk v↔gR rk' u<gR rk' v)):∀m,A3H r rk n m=A3H r rk' n m
 |0=>rfl
 |m+1=>by
  have ih:=B1H h m;unfold A3H;rw[ih]
  congr 2
  unfold fr1;rw[A8v _ fun i hi=>?_];have hi:=List.mem_range.1 hi;rw[Bool.eq_iff_iff,A7r,A7r];have:∀k:Nat,k<n->(((k:Int)∈A3H r rk' n m\/gR rk i<=gR rk k\/ovlB r i k=false)↔((k:Int)∈A3H r rk' n m\/gR rk' i<=gR rk' k\/ovlB r i k=false)):=fun k hk=>by
   cases hov:ovlB r i k with
   |false=>simp
   |true=>
    have:=h k i (by omega) (by omega) (by omega) (by omega) (by rw[A40];exact hov);have e:gR rk i<=gR rk k↔gR rk' i<=gR rk' k:=by omega
    rw[e]
  constructor
  ·exact fun h=>⟨h.1,fun k hk=>(this k hk).1 (h.2 k hk)⟩
  ·exact fun h=>⟨h.1,fun k hk=>(this k hk).2 (h.2 k hk)⟩
theorem A8w {n:Nat}{r o:List Int}(hn:n<=8)(ho:o.Perm (idO n)):A0I r (A0I r o)=A0I r o:=by
 have h1:=A0K ho;have h2:=A5p r o;unfold A0I at h2 ⊢;rw[h2,h1];rw[h1]at h2;refine B1H (fun u v a b c d e=>?_) n;have:=B1G hn ho a b c d e;rw[A3F,A3F]at this;unfold A0I at this;rw[h1]at this;exact this
theorem B4i {o:List Int}(hN:o.Nodup)(hO:okO o){u v:Int}(hu:u∈o)(hv:v∈o):gR (rkF o) u<gR (rkF o) v↔u≠v/\[u,v].Sublist o:=by
 obtain⟨i,hi,e1⟩:=List.getElem_of_mem hu;obtain⟨j,hj,e2⟩:=List.getElem_of_mem hv;have r1:=B1r hN hO hi;have r2:=B1r hN hO hj;rw[e1]at r1;rw[e2]at r2;rw[r1,r2];constructor
 ·intro h;refine⟨fun e=>?_,?_⟩
  ·rw[e]at r1;omega
  ·have:=List.map_getElem_sublist (l:=o) (is:=[⟨i,hi⟩,⟨j,hj⟩]) (by simp;omega);simpa[e1,e2]using this
 ·rintro⟨hne,h⟩;obtain⟨is,e3,e4⟩:=List.sublist_eq_map_getElem h
  match is,e3,e4 with
  |[a,b],e3,e4=>
   simp only[List.map_cons,List.map_nil,List.cons.injEq,and_true]at e3;have q1:=B1r hN hO a.2;have q2:=B1r hN hO b.2;have e5:o[a.1]=u:=e3.1.symm;have e6:o[b.1]=v:=e3.2.symm;rw[e5,r1]at q1;rw[e6,r2]at q2;have:a<b:=by simpa using e4
   have:a.1<b.1:=this;omega
theorem A7u {n m:Nat}{o:List Int}(ho:o.Perm (idO n))(hm:m<=n):(o.filter fun x=>decide (x<(m:Int))).Perm (idO m):=by
 refine(ho.filter _).trans ?_;have:(idO n).filter (fun x=>decide (x<(m:Int)))=idO m:=by
  unfold idO;rw[List.filter_map];have e:List.range n=List.range m++(List.range (n-m)).map (m+·):=by
   rw[<- List.range_add];congr 1;omega
  rw[e,List.filter_append];have e1:(List.range m).filter ((fun x:Int=>decide (x<(m:Int)))∘fun(i:Nat)=>(i:Int))=List.range m:=by
   rw[List.filter_eq_self];intro a ha;have:=List.mem_range.1 ha;simp only[Function.comp,decide_eq_true_eq];omega
  have e2:((List.range (n-m)).map (m+·)).filter ((fun x:Int=>decide (x<(m:Int)))∘fun(i:Nat)=>(i:Int))=[]:=by
   rw[List.filter_eq_nil_iff];intro a ha;obtain⟨b,_,rfl⟩:=List.mem_map.1 ha;simp only[Function.comp,decide_eq_true_eq];omega
  rw[e1,e2,List.append_nil]
 rw[this]
theorem B9P {n m:Nat}{r o:List Int}(hn:n<=8)(ho:o.Perm (idO n))(hm:m<=n):Sub n r (rkL (o.filter fun x=>decide (x<(m:Int)))) (rkL o):=by
 have hf:=A7u ho hm;have N1:=A1p ho;have O1:=A2m ho hn;have N2:=A1p hf;have O2:=A2m hf (by omega:m<=8);refine⟨fun u a b=>B5k hn ho a b,fun u v a b c d _ p1 p2=>?_⟩;rw[A3F]at p1 p2;have pres:∀w:Int,0<=w->w<n->0<=gR (rkF (o.filter fun x=>decide (x<(m:Int)))) w->w∈o.filter fun x=>decide (x<(m:Int)):=fun w w0 w1 h=>by
  refine Classical.byContradiction fun hc=>?_;rw[D0I O2 w0 (by omega) hc]at h;omega
 have hu:=pres u a b p1;have hv:=pres v c d p2;have hu':=List.mem_filter.1 hu;have hv':=List.mem_filter.1 hv;rw[A3F,A3F,B4i N2 O2 hu hv,B4i N1 O1 hu'.1 hv'.1];refine and_congr_right fun _=>⟨fun h=>h.trans List.filter_sublist,fun h=>?_⟩;have:=h.filter fun x=>decide (x<(m:Int));have e:[u,v].filter (fun x:Int=>decide (x<(m:Int)))=[u,v]:=by
  rw[List.filter_eq_self];intro x hx;simp only[List.mem_cons,List.not_mem_nil,or_false]at hx;rcases hx with rfl|rfl
  ·exact hu'.2
  ·exact hv'.2
 rwa [e]at this
theorem B9Q {n m:Nat}{o:List Int}(ho:o.Perm (idO n))(hm:m<n):∃i,i<=m/\A2u (o.filter fun x=>decide (x<(m:Int))) i (m:Int)=o.filter fun x=>decide (x<((m+1:Nat):Int)):=by
 have hN:=A1p ho;have hmem:(m:Int)∈o:=ho.mem_iff.2 (A1S.2 (by omega));obtain⟨s,t,rfl⟩:=List.append_of_mem hmem;have hl:=A0K (A7u ho (by omega:m<=n));have hnot:∀x∈s++t,x≠(m:Int):=fun x hx e=>by
  subst e;have:=List.perm_middle.nodup_iff.1 hN;exact(List.nodup_cons.1 this).1 hx
 have e0:∀l:List Int,(∀x∈l,x≠(m:Int))->l.filter (fun x=>decide (x<((m+1:Nat):Int)))=l.filter fun x=>decide (x<(m:Int)):=fun l hl=>by
  refine List.filter_congr fun x hx=>?_;have:=hl x hx;rw[decide_eq_decide];omega
 have hs:=e0 s fun x hx=>hnot x (List.mem_append_left _ hx);have ht:=e0 t fun x hx=>hnot x (List.mem_append_right _ hx);rw[List.filter_append,List.filter_cons_of_neg (by simp)]at hl ⊢;refine⟨(s.filter fun x=>decide (x<(m:Int))).length,?_,?_⟩
 ·rw[List.length_append]at hl;omega
 ·rw[List.filter_append,List.filter_cons_of_pos (by simp;omega),hs,ht];unfold A2u;rw[List.take_left,List.drop_left]
theorem B4j {n:Nat}{r k o:List Int}(A:Alt n r)(hn:n<=8)(hk:k.length=n)(ho:o.Perm (idO n))(hc:cwB n r k o=false):∀(f m:Nat),m+f=n->A0I r o∈A1E n r k f (o.filter fun x=>decide (x<(m:Int)))
 |0,m,h=>by
  have:(o.filter fun x=>decide (x<(m:Int)))=o:=by
   rw[List.filter_eq_self];intro x hx;have:=A1S.1 (ho.mem_iff.1 hx);rw[decide_eq_true_eq];omega
  rw[this];unfold A1E;rw[hc,cond_false];simp
 |f+1,m,h=>by
  have hcm:=(B9P (r:=r) hn ho (by omega:m<=n)).cw A hk hc;unfold A1E;rw[hcm,cond_false,List.mem_flatMap];obtain⟨i,hi,e⟩:=B9Q ho (by omega:m<n);have hl:=A0K (A7u ho (by omega:m<=n));refine⟨i,List.mem_range.2 (by omega),?_⟩;rw[hl,e];exact B4j A hn hk ho hc f (m+1) (by omega)
theorem B1I {n:Nat}{r k:List Int}:∀(f:Nat) (o:List Int),okG o->∀l∈A1E n r k f o,∃o',o'.Perm (idO (o.length+f))/\cwB n r k o'=false/\l=A0I r o'
 |0,o,hg,l,h=>by
  unfold A1E at h;cases hc:cwB n r k o with
  |true=>rw[hc]at h;cases h
  |false=>
   rw[hc]at h;exact⟨o,hg,hc,List.mem_singleton.1 h⟩
 |f+1,o,hg,l,h=>by
  unfold A1E at h;cases hc:cwB n r k o with
  |true=>rw[hc]at h;cases h
  |false=>
   rw[hc,cond_false,List.mem_flatMap]at h;obtain⟨i,_,h⟩:=h;obtain⟨o',p1,p2,p3⟩:=B1I f _ (B1t hg) l h;rw[A3i]at p1;exact⟨o',by rwa [show o.length+(f+1)=o.length+1+f by omega],p2,p3⟩
theorem A9Y {x:List Int}:∀(M L:List (List Int)),x∈M.foldl B5f L↔x∈L\/x∈M
 |[],L=>by simp
 |y::M,L=>by
  rw[List.foldl_cons,A9Y M];unfold B5f;cases hc:L.contains y with
  |true=>
   have:=List.contains_iff_mem.1 hc;rw[cond_true,List.mem_cons];constructor
   ·rintro(h|h)
    ·exact .inl h
    ·exact .inr (.inr h)
   ·rintro(h|rfl|h)
    ·exact .inl h
    ·exact .inl this
    ·exact .inr h
  |false=>
   rw[cond_false,List.mem_append,List.mem_singleton,List.mem_cons,or_assoc]
theorem A41 {n:Nat}{r k l:List Int}(A:Alt n r)(hn:n<=8)(hk:k.length=n):l∈A2s n r k↔l.Perm (idO n)/\cwB n r k l=false/\A0I r l=l:=by
 unfold A2s A05;rw[(A3l _).mem_iff,A9Y];constructor
 ·rintro(h|h)
  ·cases h
  ·obtain⟨o,p1,p2,rfl⟩:=B1I _ _ (List.Perm.refl _:okG []) l h;rw[show([]:List Int).length+(n-([]:List Int).length)=n by simp]at p1;exact⟨A7s p1,(A7t hn p1).cw A hk p2,A8w hn p1⟩
 ·rintro⟨p1,p2,p3⟩;right;have:=B4j A hn hk p1 p2 n 0 (by omega);rw[p3]at this;have e:(l.filter fun x=>decide (x<((0:Nat):Int)))=[]:=by
   rw[List.filter_eq_nil_iff];intro x hx;have:=A1S.1 (p1.mem_iff.1 hx);simp;omega
  rw[e]at this;exact this
theorem A9Z {n:Nat}{r k:List Int}:(A2s n r k).Pairwise fun y z=>A2l y z<0:=by
 unfold A2s;exact A9T (B2H (n:=n) _ _ ⟨List.nodup_nil,fun l hl=>by cases hl⟩ fun l hl=>by
  have:=A7k _ _ l hl;simpa using this).1
theorem A5r:∀{x y:List (List Int)},x.Pairwise (fun a b=>A2l a b<0)->y.Pairwise (fun a b=>A2l a b<0)->(∀l,l∈x↔l∈y)->x=y
 |[],[],_,_,_=>rfl
 |[],b::y,_,_,h=>by have:=(h b).2 (List.mem_cons_self ..);cases this
 |a::x,[],_,_,h=>by have:=(h a).1 (List.mem_cons_self ..);cases this
 |a::x,b::y,hx,hy,h=>by
  obtain⟨x1,x2⟩:=List.pairwise_cons.1 hx;obtain⟨y1,y2⟩:=List.pairwise_cons.1 hy;have irr:∀l:List Int,¬ A2l l l<0:=fun l=>by rw[A7l];omega
  have e:a=b:=by
   rcases List.mem_cons.1 ((h a).1 (List.mem_cons_self ..))with e|ha
   ·exact e
   ·rcases List.mem_cons.1 ((h b).2 (List.mem_cons_self ..))with e|hb
    ·exact e.symm
    ·exact absurd (A3k _ _ _ (x1 b hb) (y1 a ha)) (irr a)
  subst e;rw[A5r x2 y2 fun l=>⟨fun hl=>?_,fun hl=>?_⟩]
  ·rcases List.mem_cons.1 ((h l).1 (List.mem_cons_of_mem _ hl))with rfl|h'
   ·exact absurd (x1 l hl) (irr l)
   ·exact h'
  ·rcases List.mem_cons.1 ((h l).2 (List.mem_cons_of_mem _ hl))with rfl|h'
   ·exact absurd (y1 l hl) (irr l)
   ·exact h'
def ksW (a:List Int):List (List Int):=(A2s a.length (A0b a) (List.replicate a.length 3)).map (kdL a)
def ks0:List (List Int):=[[2,2,1,2,1,2],[2,2,1,1,2,2],[2,2,2,1,1,2],[2,1,1,2,1,1],[2,1,1,1,2,1],[2,1,1,2,1,1],[2,1,2,2,1,2],[2,1,2,2,1,2],[1,2,2,2,1,2],[2,2,1,1,1,1],[2,1,2,1,1,1],[1,2,2,1,1,1],[2,1,1,2,2,2],[2,1,1,2,2,2],[2,2,1,1,2,2],[2,1,2,1,2,2],[1,2,2,1,2,2],[1,2,1,2,2,2],[1,2,2,1,2,2],[1,1,2,2,2,2],[1,2,1,2,1,1],[1,2,1,1,2,1],[1,2,2,1,1,1],[1,1,2,2,1,1],[1,1,2,2,1,1],[1,1,1,2,2,1],[1,2,1,1,2,1],[1,1,2,1,2,1]]
def ks1:List (List Int):=[[2,2,1,2,2,1],[2,2,1,2,2,1],[2,2,2,1,2,1],[2,1,1,2,1,1],[2,1,1,2,1,1],[1,1,1,2,1,2],[2,1,2,2,2,1],[1,1,2,2,2,2],[1,2,2,2,2,1],[2,2,1,1,1,1],[2,2,1,1,1,1],[2,1,2,1,1,1],[1,1,2,1,1,2],[1,2,2,1,1,1],[2,1,1,1,1,2],[1,2,1,1,1,2],[1,1,2,1,1,2],[2,1,1,2,2,2],[2,1,1,2,2,2],[2,2,1,1,2,2],[2,1,2,1,2,2],[1,2,2,1,2,2],[1,2,1,2,2,2],[1,2,2,1,2,2],[1,1,2,2,2,2],[1,2,1,2,1,1],[1,2,2,1,1,1],[1,1,2,2,1,1]]
def ks2:List (List Int):=[[2,2,1,2,1,2],[2,2,1,2,2,1],[2,2,1,1,2,2],[2,1,1,1,1,2],[2,1,1,2,1,1],[2,1,1,1,2,1],[2,1,2,2,1,2],[2,1,2,2,2,1],[1,2,2,2,1,2],[1,2,2,2,2,1],[1,2,1,1,1,2],[1,1,2,1,1,2],[2,1,2,1,2,2],[1,2,2,1,2,2],[1,2,1,2,1,1],[1,2,1,1,2,1],[1,1,2,2,1,1],[1,1,2,1,2,1]]
def ks3:List (List Int):=[[2,2,1,2,1,2],[2,2,1,2,2,1],[2,2,1,2,2,1],[2,1,1,1,1,2],[2,1,1,1,2,1],[1,1,1,1,2,2],[2,1,2,2,1,2],[2,1,2,2,2,1],[1,1,2,2,2,2],[2,2,2,2,1,1],[2,1,2,2,1,2],[1,2,2,2,1,2],[1,2,2,2,2,1],[1,2,2,2,2,1],[2,2,1,1,1,1],[2,2,1,1,1,1],[2,1,2,1,1,1],[1,1,2,1,1,2],[1,2,2,1,1,1],[2,1,1,1,1,2],[1,2,1,1,1,2],[1,1,2,1,1,2],[2,1,1,2,2,2],[1,2,1,2,2,2],[1,1,2,2,2,2],[1,2,1,1,2,1],[1,2,1,1,2,1],[1,1,2,1,2,1]]
def ks4:List (List Int):=[[2,2,1,2],[2,1,1,1],[2,1,2,2],[1,2,2,2],[1,2,1,1],[1,1,2,1]]
def ks5:List (List Int):=[[2,2,2,2,1,1],[2,2,1,2,2,1],[2,2,2,1,2,1],[2,1,1,2,1,1],[2,1,1,1,2,1],[1,1,1,2,1,2],[1,1,1,1,2,2],[2,1,2,2,1,2],[1,2,2,2,1,2],[2,1,2,1,1,1],[1,1,2,1,1,2],[1,2,2,1,1,1],[2,1,1,2,2,2],[2,1,2,1,2,2],[1,2,2,1,2,2],[1,2,1,2,2,2],[1,2,1,2,1,1],[1,2,1,1,2,1]]
def ks6:List (List Int):=[[2,2,2,1,1,2],[2,2,2,2,1,1],[2,2,2,1,2,1],[2,1,1,1,1,2],[2,1,1,2,1,1],[2,1,1,1,2,1],[2,1,1,2,1,1],[1,1,1,2,1,2],[1,1,1,2,2,1],[1,1,1,1,2,2],[1,1,1,1,2,2],[2,1,2,2,1,2],[2,1,2,2,2,1],[1,1,2,2,2,2],[2,2,2,2,1,1],[2,1,2,2,1,2],[1,2,2,2,1,2],[1,2,2,2,2,1],[1,2,2,2,2,1],[2,2,1,1,1,1],[2,1,1,1,1,2],[1,2,1,1,1,2],[2,1,2,1,2,2],[1,2,2,1,2,2],[1,2,2,1,2,2],[1,2,1,2,1,1],[1,2,1,1,2,1],[1,2,1,1,2,1]]
def ks7:List (List Int):=[[2,1,1,1],[2,1,2,2],[1,2,2,2],[1,2,1,1]]
def ks8:List (List Int):=[[2,2,2,1],[2,1,1,1],[1,1,1,2],[2,1,2,2],[1,2,2,2],[1,2,1,1]]
def ks9:List (List Int):=[[2,2,1,2,1,2],[2,2,1,2,2,1],[2,2,1,1,2,2],[2,2,2,1,1,2],[2,2,2,1,1,2],[2,2,2,2,1,1],[2,2,1,2,2,1],[2,2,2,1,2,1],[1,1,1,2,1,2],[1,1,1,2,2,1],[1,1,1,1,2,2],[2,1,2,2,1,2],[2,1,2,2,2,1],[2,1,2,2,1,2],[1,1,2,1,1,2],[1,2,1,1,1,2],[1,1,2,1,1,2],[2,1,1,2,2,2],[2,2,1,1,2,2],[2,1,2,1,2,2],[1,2,1,2,1,1],[1,2,1,1,2,1],[1,2,2,1,1,1],[1,1,2,2,1,1],[1,1,2,2,1,1],[1,1,1,2,2,1],[1,2,1,1,2,1],[1,1,2,1,2,1]]
def D43:List (List Int):=[[2,2,1,2,1,2],[2,2,1,2,2,1],[2,2,2,1,1,2],[2,2,2,1,2,1],[2,1,1,2,1,1],[1,1,1,2,1,2],[1,1,1,2,2,1],[2,1,2,2,1,2],[2,1,2,2,2,1],[1,1,2,2,2,2],[2,2,1,1,1,1],[2,1,2,1,1,1],[1,1,2,1,1,2],[1,2,1,1,1,2],[1,2,1,2,2,2],[1,2,2,1,2,2],[1,2,1,1,2,1],[1,1,2,1,2,1]]
def D44:List (List Int):=[[2,2,1,2],[2,1,2,2],[1,2,1,1],[1,1,2,1]]
def D45:List (List Int):=[[2,2,1,2,1,2],[2,2,1,2,2,1],[2,2,1,1,2,2],[2,2,2,1,1,2],[2,2,2,1,1,2],[2,2,2,2,1,1],[2,2,1,2,2,1],[2,2,2,1,2,1],[2,1,1,1,1,2],[2,1,1,2,1,1],[2,1,1,1,2,1],[2,1,1,2,1,1],[1,1,1,2,1,2],[1,1,1,2,2,1],[1,1,1,1,2,2],[1,1,1,1,2,2],[2,2,2,2,1,1],[1,2,2,2,1,2],[1,2,2,2,2,1],[2,1,2,1,1,1],[1,1,2,1,1,2],[1,1,2,1,1,2],[1,2,2,1,2,2],[1,2,1,2,2,2],[1,2,2,1,2,2],[1,1,2,2,1,1],[1,1,1,2,2,1],[1,1,2,1,2,1]]
def D46:List (List Int):=[[2,2,1,2],[2,2,2,1],[2,1,1,1],[1,1,1,2],[2,1,2,2],[1,2,2,2],[1,2,1,1],[1,1,2,1]]
def D47:List (List Int):=[[2,2,2,1],[2,1,1,1],[1,1,1,2],[1,2,2,2]]
def D48:List (List Int):=[[2,2,1,2],[2,2,2,1],[1,1,1,2],[2,1,2,2],[1,2,1,1],[1,1,2,1]]
def D49:List (List Int):=[[2,2,1,2],[2,2,2,1],[1,1,1,2],[1,1,2,1]]
def D5a:List (List Int):=[[2,2,1,2],[2,2,2,1],[2,1,1,1],[1,1,1,2],[1,2,2,2],[1,1,2,1]]
def D5b:List (List Int):=[[2,2],[1,1]]
def D5c:List (List Int):=[[2,2,1,2,1,2],[2,2,1,2,2,1],[2,2,1,1,2,2],[2,2,2,1,1,2],[2,2,2,1,1,2],[2,2,2,2,1,1],[2,2,1,2,2,1],[2,2,2,1,2,1],[2,1,1,1,1,2],[2,1,1,2,1,1],[2,1,1,1,2,1],[2,1,1,2,1,1],[1,1,1,2,1,2],[1,1,1,2,2,1],[1,1,1,1,2,2],[1,1,1,1,2,2],[2,1,2,2,1,2],[2,1,2,2,2,1],[1,1,2,2,2,2],[2,2,2,2,1,1],[2,1,2,2,1,2],[1,2,2,2,1,2],[1,2,2,2,2,1],[1,2,2,2,2,1],[2,2,1,1,1,1],[2,2,1,1,1,1],[2,1,2,1,1,1],[1,1,2,1,1,2],[1,2,2,1,1,1],[2,1,1,1,1,2],[1,2,1,1,1,2],[1,1,2,1,1,2],[2,1,1,2,2,2],[2,1,1,2,2,2],[2,2,1,1,2,2],[2,1,2,1,2,2],[1,2,2,1,2,2],[1,2,1,2,2,2],[1,2,2,1,2,2],[1,1,2,2,2,2],[1,2,1,2,1,1],[1,2,1,1,2,1],[1,2,2,1,1,1],[1,1,2,2,1,1],[1,1,2,2,1,1],[1,1,1,2,2,1],[1,2,1,1,2,1],[1,1,2,1,2,1]]
def D5d:List (List Int):=[[2,2,1,2],[2,1,1,1],[2,1,2,2],[1,2,2,2],[1,2,1,1],[1,1,2,1]]
def D5e:List (List Int):=[[2,2,2,1],[2,1,1,1],[1,1,1,2],[2,1,2,2],[1,2,2,2],[1,2,1,1]]
def D5f:List (List Int):=[[2,2,1,2],[2,2,2,1],[1,1,1,2],[2,1,2,2],[1,2,1,1],[1,1,2,1]]
def D5g:List (List Int):=[[2,2,1,2],[2,2,2,1],[2,1,1,1],[1,1,1,2],[1,2,2,2],[1,1,2,1]]
def D5h:List (List Int):=[[2,2],[1,1]]
def D5i:List (List Int):=[[2,2,1,2],[2,2,2,1],[2,1,1,1],[1,1,1,2],[2,1,2,2],[1,2,2,2],[1,2,1,1],[1,1,2,1]]
def D5j:List (List Int):=[[2,2],[1,1]]
def D5k:List (List Int):=[[2,2],[1,1]]
def D5l:List (List Int):=[[]]
def ksT:List (List Int×List (List Int)):=[([1,1,1,1,2,2],ks0),([1,1,1,2,2,1],ks1),([1,1,2,1,1,2],ks2),([1,1,2,2,1,1],ks3),([1,1,3,3],ks4),([1,2,1,1,2,1],ks5),([1,2,2,1,1,1],ks6),([1,2,3,2],ks7),([1,3,3,1],ks8),([2,1,1,1,1,2],ks9),([2,1,1,2,1,1],D43),([2,1,2,3],D44),([2,2,1,1,1,1],D45),([2,2,2,2],D46),([2,3,2,1],D47),([3,1,1,3],D48),([3,2,1,2],D49),([3,3,1,1],D5a),([4,4],D5b),([1,1,1,1,1,1],D5c),([1,1,2,2],D5d),([1,2,2,1],D5e),([2,1,1,2],D5f),([2,2,1,1],D5g),([3,3],D5h),([1,1,1,1],D5i),([2,2],D5j),([1,1],D5k),([],D5l)]
theorem C6y:ksW [1,1,1,1,2,2]=ks0:=by decide +kernel
theorem C6z:ksW [1,1,1,2,2,1]=ks1:=by decide +kernel
theorem C6A:ksW [1,1,2,1,1,2]=ks2:=by decide +kernel
theorem C6B:ksW [1,1,2,2,1,1]=ks3:=by decide +kernel
theorem C6C:ksW [1,1,3,3]=ks4:=by decide +kernel
theorem C6D:ksW [1,2,1,1,2,1]=ks5:=by decide +kernel
theorem C6E:ksW [1,2,2,1,1,1]=ks6:=by decide +kernel
theorem C6F:ksW [1,2,3,2]=ks7:=by decide +kernel
theorem C6G:ksW [1,3,3,1]=ks8:=by decide +kernel
theorem C6H:ksW [2,1,1,1,1,2]=ks9:=by decide +kernel
theorem C3h:ksW [2,1,1,2,1,1]=D43:=by decide +kernel
theorem C3i:ksW [2,1,2,3]=D44:=by decide +kernel
theorem C3j:ksW [2,2,1,1,1,1]=D45:=by decide +kernel
theorem C3k:ksW [2,2,2,2]=D46:=by decide +kernel
theorem C3l:ksW [2,3,2,1]=D47:=by decide +kernel
theorem C3m:ksW [3,1,1,3]=D48:=by decide +kernel
theorem C3n:ksW [3,2,1,2]=D49:=by decide +kernel
theorem C3o:ksW [3,3,1,1]=D5a:=by decide +kernel
theorem C3p:ksW [4,4]=D5b:=by decide +kernel
theorem C3q:ksW [1,1,1,1,1,1]=D5c:=by decide +kernel
theorem C3r:ksW [1,1,2,2]=D5d:=by decide +kernel
theorem C3s:ksW [1,2,2,1]=D5e:=by decide +kernel
theorem C3t:ksW [2,1,1,2]=D5f:=by decide +kernel
theorem C3u:ksW [2,2,1,1]=D5g:=by decide +kernel
theorem C3v:ksW [3,3]=D5h:=by decide +kernel
theorem C3w:ksW [1,1,1,1]=D5i:=by decide +kernel
theorem C3x:ksW [2,2]=D5j:=by decide +kernel
theorem C3y:ksW [1,1]=D5k:=by decide +kernel
theorem C3z:ksW []=D5l:=by decide +kernel
end Go.Proofs.YthiammkiobbclaaGreatDoor.X
