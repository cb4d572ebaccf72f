/-
 Plain facts about fans and their sums.
-/
import Derived.Test.YtfafinkgmhkdmaaGreatDoorFGZ
set_option linter.unusedVariables false
set_option linter.unusedSimpArgs false
namespace Go.Proofs.YtfafinkgmhkdmaaGreatDoor.X
open Go Go.Ab
theorem A07 {l:List Int}{n:Nat}(h:n<l.length):l.drop n=l[n]?.getD 0::l.drop (n+1):=by
 rw[List.drop_eq_getElem_cons h];simp[h]
theorem B7N {l:List Int}{n:Nat}(h:n<l.length):(l.drop n).sum=l[n]?.getD 0+(l.drop (n+1)).sum:=by
 rw[A07 h,List.sum_cons]
theorem A2O:∀{l:List Int},(∀x∈l,1<=x)->0<=l.sum
 |[],_=>by simp
 |a::r,h=>by
  have h1:=h a (by simp);have h2:=A2O (l:=r) fun x hx=>h x (by simp[hx]);rw[List.sum_cons];omega
theorem A8Y {l:List Int}{n:Nat}(h:n<l.length):l[n]?.getD 0∈l:=by simp[h]
theorem B5Z:∀{a k:List Int} {s:Int},a.length=k.length->A60 a k s=0->s<=8->(∀x∈a,1<=x)/\s+a.sum<=8/\∀x∈k,1<=x/\x<=3
 |[],k,s,hl,h,hs=>by
  have:k=[]:=List.eq_nil_of_length_eq_zero (by simpa using hl.symm);subst this;simp;exact hs
 |n::a,[],s,hl,h,hs=>by simp at hl
 |n::a,x::k,s,hl,h,hs=>by
  simp only[A60]at h;split at h
  ·cases h
  ·rename_i hc;obtain⟨h1,h2,h3⟩:=B5Z (a:=a) (k:=k) (by simpa using hl) h (by omega);refine⟨fun y hy=>?_,by rw[List.sum_cons];omega,fun y hy=>?_⟩
   ·rcases List.mem_cons.1 hy with rfl|hy
    ·omega
    ·exact h1 y hy
   ·rcases List.mem_cons.1 hy with rfl|hy
    ·omega
    ·exact h3 y hy
theorem A2y {a k:List Int}(h:chk a k=0):a.length=k.length/\okA a/\∀x∈k,1<=x/\x<=3:=by
 unfold chk at h;split at h
 ·rename_i hl;obtain⟨h1,h2,h3⟩:=B5Z hl h (by decide);exact⟨hl,⟨h1,by omega⟩,h3⟩
 ·cases h
theorem B50:∀{a k:List Int} {s:Int},(∀x∈a,1<=x)->s+a.sum<=8->(∀x∈k,1<=x/\x<=3)->A60 a k s=0
 |[],k,s,h1,h2,h3=>by cases k<;>rfl
 |n::a,[],s,h1,h2,h3=>rfl
 |n::a,x::k,s,h1,h2,h3=>by
  have e1:=h1 n (by simp);have e2:=A2O (l:=a) fun y hy=>h1 y (by simp[hy]);have e3:=h3 x (by simp);rw[List.sum_cons]at h2;simp only[A60];rw[if_neg (by omega)];exact B50 (fun y hy=>h1 y (by simp[hy])) (by omega) (fun y hy=>h3 y (by simp[hy]))
theorem B51 {a k:List Int}(hl:a.length=k.length)(h:okA a)(hk:∀x∈k,1<=x/\x<=3):chk a k=0:=by
 unfold chk;rw[if_pos hl];exact B50 h.1 (by have:=h.2;omega) hk
structure FOk (n:Nat)(s:FS):Prop where
 no:s.last<0->s.last= -1/\s.first= -1/\s.a=[]/\s.k=[]
 yes:0<=s.last->0<=s.first/\s.first<=s.last/\s.last<n/\s.a.sum=s.last-s.first/\s.k.length=s.a.length+1
 pos:∀x∈s.a,1<=x
 kd:∀x∈s.k,1<=x/\x<=3
 len:s.k.length<=n
theorem B1A {ks:List Int}(h:okK ks)(n:Nat):1<=A45 ks n/\A45 ks n<=3:=by
 unfold A45;split
 ·rename_i hn;have h1:=h _ (A8Y hn);simp only[List.getD_eq_getElem?_getD];have:=Int.tmod_nonneg 3 h1.1;have:=Int.tmod_lt_of_pos (ks[n]?.getD 0) (b:=3) (by decide);omega
 ·decide
theorem A3B (c:Int)(ks:List Int)(n:Nat):A0P c ks (n+1)=A61 c ks (A0P c ks n) n:=by
 simp[A0P,List.range_succ]
theorem A5q {c:Int}{ks:List Int}(h:okK ks):∀n,FOk n (A0P c ks n)
 |0=>⟨fun _=>⟨rfl,rfl,rfl,rfl⟩,fun h=>by simp[A0P]at h,by simp[A0P],by simp[A0P],by simp[A0P]⟩
 |n+1=>by
  rw[A3B];have ih:=A5q (c:=c) h n;obtain⟨i1,i2,i3,i4,i5⟩:=ih;generalize A0P c ks n=s at*;have hk:=B1A h s.k.length;unfold A61;split
  ·exact⟨i1,fun h=>by have:=i2 h;omega,i3,i4,by omega⟩
  ·split
   ·rename_i hl;have:=i2 hl;refine⟨fun h=>?_,fun _=>?_,fun x hx=>?_,fun x hx=>?_,?_⟩
    ·simp at h;omega
    ·simp;omega
    ·simp at hx;rcases hx with hx|rfl
     ·exact i3 x hx
     ·omega
    ·simp at hx;rcases hx with hx|rfl
     ·exact i4 x hx
     ·exact hk
    ·simp;omega
   ·rename_i hl;obtain⟨e1,e2,e3,e4⟩:=i1 (by omega);refine⟨fun h=>?_,fun _=>?_,fun x hx=>?_,fun x hx=>?_,?_⟩
    ·simp at h;omega
    ·simp[e3,e4];omega
    ·simp[e3]at hx
    ·simp[e4]at hx;subst hx;rw[e4]at hk;exact hk
    ·simp[e4]
theorem A6D {n:Nat}{s:FS}(h:FOk n s)(hn:n<=8):(∀x∈A0U s,1<=x)/\(A0U s).sum<=8/\(A0U s).length=s.k.length/\(A0U s).length<=8:=by
 obtain⟨i1,i2,i3,i4,i5⟩:=h;unfold A0U
 by_cases hl:0<=s.last
 ·have:=i2 hl;rw[if_pos (by omega)];refine⟨fun x hx=>?_,by simp;omega,by simp;omega,by simp;omega⟩;simp at hx;rcases hx with hx|rfl
  ·exact i3 x hx
  ·omega
 ·obtain⟨e1,e2,e3,e4⟩:=i1 (by omega);rw[if_neg (by omega),e3,e4];simp
theorem A2p (l:Int):∀(i:Nat) (a:List Int),(A15 l i a).length=a.length
 |i,[]=>rfl
 |i,x::r=>by simp[A15,A2p l (i+1) r]
theorem B2U (l:Int):∀(i:Nat) {a:List Int},(∀x∈a,1<=x)->(∀x∈A15 l i a,1<=x)/\(A15 l i a).sum<=a.sum
 |i,[],h=>by simp[A15]
 |i,x::r,h=>by
  obtain⟨h1,h2⟩:=B2U l (i+1) (a:=r) fun y hy=>h y (by simp[hy]);have hx:=h x (by simp);simp only[A15,List.sum_cons];split<;>refine⟨fun y hy=>?_,by omega⟩<;>
  ·rcases List.mem_cons.1 hy with rfl|hy
   ·omega
   ·exact h1 y hy
theorem B7O {c l:Int}{ks:List Int}(h:okK ks):(ofA c l ks).length=(ofK c ks).length/\(ofA c l ks).length<=8/\okA (ofA c l ks)/\(∀x∈ofK c ks,1<=x/\x<=3):=by
 have h8:=A5q (c:=c) h 8;obtain⟨h1,h2,h3,h4⟩:=A6D h8 (Nat.le_refl _);obtain⟨g1,g2⟩:=B2U l 0 h1;unfold ofA ofK;exact⟨by rw[A2p];exact h3,by rw[A2p];exact h4,⟨g1,by omega⟩,h8.kd⟩
theorem B8X {c l:Int}{ks:List Int}(h:okK ks):chk (ofA c l ks) (ofK c ks)=0:=by
 obtain⟨h1,_,h2,h3⟩:=B7O (c:=c) (l:=l) h;exact B51 h1 h2 h3
theorem B0s (l:Int):∀(i n:Nat) (a:List Int),n<a.length->(A15 l i a)[n]? =some (if(l.fdiv (2 ^ min (i+n) IntKind.u8.bits)).tmod 2=1/\1<a[n]?.getD 0 then a[n]?.getD 0-1 else a[n]?.getD 0)
 |i,n,[],h=>by simp at h
 |i,0,x::r,h=>by simp[A15]
 |i,n+1,x::r,h=>by
  have:=B0s l (i+1) n r (by simpa using h);simp only[A15,List.getElem?_cons_succ];rw[this,show i+1+n=i+(n+1)by omega]
theorem B0t {l:Int}{a:List Int}{n:Nat}(h:n<a.length):((A15 l 0 a).take n++a.drop n).set n (if(l.fdiv (2 ^ min n IntKind.u8.bits)).tmod 2=1/\1<a[n]?.getD 0 then a[n]?.getD 0-1 else a[n]?.getD 0)=(A15 l 0 a).take (n+1)++a.drop (n+1):=by
 have hg:=B0s l 0 n a h;simp only[Nat.zero_add]at hg;have hl:=A2p l 0 a;have hlt:(List.take n (A15 l 0 a)).length=n:=by simp;omega
 rw[List.take_add_one,hg,List.set_append_right _ _ (by omega),hlt,Nat.sub_self,A07 h];simp
theorem B2V {l:Int}{a:List Int}{n:Nat}(h:n<a.length):((A15 l 0 a).take n++a.drop n)[n]?.getD 0=a[n]?.getD 0:=by
 have hl:=A2p l 0 a;rw[List.getElem?_append_right (by simp;omega)];simp[hl,Nat.min_eq_left (Nat.le_of_lt h)]
theorem B52 {l:Int}{a:List Int}{n:Nat}(h:n<a.length)(hc:¬ ((l.fdiv (2 ^ min n IntKind.u8.bits)).tmod 2=1/\1<a[n]?.getD 0)):(A15 l 0 a).take n++a.drop n=(A15 l 0 a).take (n+1)++a.drop (n+1):=by
 rw[<- B0t h,if_neg hc];apply List.ext_getElem?;intro i
 by_cases hi:n=i
 ·subst hi;have hl:=A2p l 0 a;have hlt:n<((A15 l 0 a).take n++a.drop n).length:=by simp;omega
  rw[List.getElem?_set_self hlt];have:=B2V (l:=l) h;rw[List.getElem?_eq_getElem hlt]at this ⊢;simpa using this
 ·rw[List.getElem?_set_ne hi]
set_option maxRecDepth 1000000
def fdC (c:Int):FS:=A0P c [] 8
def aC (c:Int):List Int:=A0U (fdC c)
def nC (c:Int):Nat:=(fdC c).k.length
def kI (n:Nat):List Int:=(List.range n).map fun(i:Nat)=>(i:Int)+1
def gK (ks:List Int)(j:Int):Int:=if j=0 then 0 else A45 ks (j.toNat-1)
theorem C0x (c:Int)(ks:List Int):∀n,(A0P c ks n).last=(A0P c [] n).last/\(A0P c ks n).first=(A0P c [] n).first/\(A0P c ks n).a=(A0P c [] n).a/\
  (A0P c ks n).k.length=(A0P c [] n).k.length/\(A0P c ks n).k=(List.range (A0P c ks n).k.length).map (A45 ks)
 |0=>⟨rfl,rfl,rfl,rfl,rfl⟩
 |n+1=>by
  obtain⟨h1,h2,h3,h4,h5⟩:=C0x c ks n;have key:((A0P c ks n).k++[A45 ks (A0P c ks n).k.length])=(List.range ((A0P c ks n).k++[A45 ks (A0P c ks n).k.length]).length).map (A45 ks):=by
   rw[List.length_append,List.length_singleton,List.range_succ,List.map_append,<- h5];rfl
  rw[A3B,A3B];unfold A61
  by_cases hb:C3p c (n:Int)=true
  ·rw[if_pos hb,if_pos hb];exact⟨h1,h2,h3,h4,h5⟩
  ·rw[if_neg hb,if_neg hb,h1]
   by_cases hl:0<=(A0P c [] n).last
   ·rw[if_pos hl,if_pos hl];exact⟨rfl,h2,by rw[h3],by simp[h4],key⟩
   ·rw[if_neg hl,if_neg hl];exact⟨rfl,rfl,h3,by simp[h4],key⟩
theorem C0y:∀(a:List Int) (i:Nat),A15 0 i a=a
 |[],_=>rfl
 |x::a,i=>by
  have:¬ (((0:Int).fdiv (2 ^ min i IntKind.u8.bits)).tmod 2=1/\1<x):=by
   rintro⟨h,_⟩;rw[Int.zero_fdiv]at h;exact absurd h (by decide)
  simp only[A15,if_neg this,C0y a]
theorem B7P (c:Int)(ks:List Int):ofA c 0 ks=aC c:=by
 obtain⟨h1,h2,h3,h4,h5⟩:=C0x c ks 8;unfold ofA aC A0U fdC;rw[C0y,h1,h2,h3]
theorem C35 (ks:List Int)(n:Nat):(kI n).map (gK ks)=(List.range n).map (A45 ks):=by
 unfold kI;rw[List.map_map];refine List.map_congr_left fun i _=>?_;show gK ks ((i:Int)+1)=_;unfold gK;rw[if_neg (by omega),show((i:Int)+1).toNat-1=i by omega]
theorem C0z (c:Int)(ks:List Int):ofK c ks=(kI (nC c)).map (gK ks):=by
 obtain⟨h1,h2,h3,h4,h5⟩:=C0x c ks 8;rw[C35];unfold ofK nC fdC;rw[<- h4];exact h5
theorem gK0 (ks:List Int):gK ks 0=0:=rfl
theorem C0A {ks:List Int}(h:okK ks)(j:Int):0<=gK ks j/\gK ks j<=3/\(gK ks j=0↔j=0):=by
 unfold gK;split
 ·rename_i e;subst e;decide
 ·rename_i e;have:=B1A h (j.toNat-1);refine⟨by omega,by omega,by omega⟩
section
variable {g:Int->Int}
theorem A4h (g0:g 0=0)(k:List Int)(n:Nat):(k.map g)[n]?.getD 0=g (k[n]?.getD 0):=by
 rw[List.getElem?_map];cases k[n]? with
 |none=>exact g0.symm
 |some x=>rfl
theorem B1B (g0:g 0=0)(a k:List Int)(d:Int):∀n,kdN a (k.map g) d n=(kdN a k d n).map g
 |0=>by simp[kdN,g0]
 |n+1=>by
  simp only[kdN];rw[B1B g0 a k d n,A4h g0,List.map_set]
theorem A8Z (g0:g 0=0)(kd:List Int):A2A (kd.map g)=(A2A kd).map g:=by
 unfold A2A;rw[List.map_map];refine List.map_congr_left fun r _=>?_;exact A4h g0 kd r
def reK (g:Int->Int)(x:Int×Int×Int):Int×Int×Int:=(x.1,x.2.1,g x.2.2)
theorem A5r (g0:∀j,g j=0↔j=0):∀(us ks:List Int),P.wthL us (ks.map g)=(P.wthL us ks).map (reK g)
 |[],ks=>by cases ks<;>rfl
 |u::us,[]=>rfl
 |u::us,k::ks=>by
  simp only[List.map_cons,P.wthL]
  by_cases h:k=0
  ·rw[if_pos h,if_pos ((g0 k).2 h),A5r g0 us ks]
  ·rw[if_neg h,if_neg (fun e=>h ((g0 k).1 e)),A5r g0 us ks];rfl
theorem B7Q (r x:Int):B0p r (g x)=(B0p r x).map (reK g):=by
 unfold B0p;rw[List.map_map];rfl
theorem B2W:∀(a k:List Int) (f:Int),rawF a (k.map g) f=(rawF a k f).map (reK g)
 |[],k,f=>by simp[rawF]
 |n::a,[],f=>by simp[rawF]
 |n::a,x::k,f=>by
  simp only[List.map_cons,rawF,List.map_append,B7Q,B2W a k (f+n)]
def nzB (z:Int×Int):Bool:= !(z.2==0)
def RI (kd:List Int):List Ry:=((List.range 8).map fun(r:Nat)=>((r:Int),kd[r]?.getD 0)).filter nzB
def re2 (g:Int->Int)(z:Int×Int):Int×Int:=(z.1,g z.2)
theorem C36 (g0:∀j,g j=0↔j=0)(kd:List Int):RI (kd.map g)=(RI kd).map (re2 g):=by
 unfold RI;rw[List.filter_map,List.filter_map,List.map_map];have e:∀r:Nat,(nzB∘fun(r:Nat)=>((r:Int),(kd.map g)[r]?.getD 0)) r=(nzB∘fun(r:Nat)=>((r:Int),kd[r]?.getD 0)) r:=fun r=>by
  simp only[Function.comp,nzB,A4h ((g0 0).2 rfl)]
  congr 1
  rw[Bool.eq_iff_iff,beq_iff_eq,beq_iff_eq];exact g0 _
 rw[List.filter_congr fun r _=>e r];refine List.map_congr_left fun r _=>?_;simp only[Function.comp,re2,A4h ((g0 0).2 rfl)]
theorem B53 (R:List Ry)(i:Int):dR (R.map (re2 g)) i=dR R i:=by
 unfold dR;rw[List.getElem?_map];cases R[i.toNat]? <;>rfl
theorem B2X (R:List Ry)(n:Nat):angR (R.map (re2 g)) n=angR R n:=by
 unfold angR nxR;simp only[B53,List.length_map]
theorem B2Y (R:List Ry):kndR (R.map (re2 g))=(kndR R).map g:=by
 unfold kndR;rw[List.map_map,List.map_map];rfl
theorem B54 (g0:∀j,g j=0↔j=0)(kd:List Int):∀n,unN (kd.map g) n=unN kd n
 |0=>rfl
 |n+1=>by
  simp only[unN,A4h ((g0 0).2 rfl),B54 g0 kd n]
  congr 1
  rw[Bool.eq_iff_iff,bne_iff_ne,bne_iff_ne,ne_eq,ne_eq,g0]
theorem B7R (k:List Int)(n:Nat):rotL' (k.map g) n=(rotL' k n).map g:=by
 unfold rotL';rw[List.map_append,List.map_drop,List.map_take]
end
def uLz:List Int:=[1,2,3,5,6,7,13,14,17,18,19,25,26,27,29,31,37,38,41,43]
theorem A0T:P.units 2 2=uLz:=by decide +kernel
def D2s (a k kd:List Int)(R:List Ry)(d m:Int)(n:Nat)(cr:List P.Cr):Bool:=
 (rawF a k d).isPerm cr&&((R.length==n)&&((a.length==n)&&((unN kd 8==cr.length)&&(((n==0)&&(angR R R.length==[]&&kndR R==[]))||
  ((decide (0<n)&&(tOk a m&&(angR R n==rotL' a m.toNat&&kndR R==rotL' k m.toNat)))&&(dR R 0==lsN a d n))))))
def D2t (a k:List Int)(n:Nat)(d:Int):Bool:=D2s a k (kdN a k d n) (RI (kdN a k d n)) d (mnN a d n) n (P.wthL uLz (A2A (kdN a k d n)))
def D2u (c:Int):Bool:=(wsum (aC c)==8||nC c==0)&&((aC c).length==nC c)&&(List.range 8).all fun(d:Nat)=>D2t (aC c) (kI (nC c)) (nC c) d
theorem C37:((List.range 256).all fun(c:Nat)=>D2u c)=true:=by decide +kernel
end Go.Proofs.YtfafinkgmhkdmaaGreatDoor.X
