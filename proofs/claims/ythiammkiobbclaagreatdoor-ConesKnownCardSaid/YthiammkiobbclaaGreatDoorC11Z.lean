/-
 Cones, plain: what it means that nothing crosses.
-/
import Derived.Test.YthiammkiobbclaaGreatDoorC9Z
import Derived.Test.YthiammkiobbclaaGreatDoorO11Z
set_option maxRecDepth 1000000
set_option linter.unusedVariables false
set_option linter.unusedSectionVars false
set_option linter.unusedSimpArgs false
namespace Go.Proofs.YthiammkiobbclaaGreatDoor.X
open Go Go.Ab
theorem B1B {S:List Int}{c:Int}:A5Q S c=true↔∃S',S=S'++[c]:=by
 unfold A5Q gR;rw[Bool.and_eq_true,A0h,beq_iff_eq];constructor
 ·rintro⟨h1,h2⟩;have hne:S≠[]:=fun e=>by rw[e]at h1;simp at h1
  refine⟨S.dropLast,?_⟩;have h3:((S.length:Int)-1).toNat=S.length-1:=by omega
  have h4:S.length-1<S.length:=by omega
  rw[h3,List.getElem?_eq_getElem h4]at h2;simp only[Option.getD_some]at h2;rw[<- h2,<- List.getLast_eq_getElem hne,List.dropLast_concat_getLast]
 ·rintro⟨S',rfl⟩;rw[List.length_append];refine⟨by simp,?_⟩;have h3:(((S'.length+[c].length:Nat):Int)-1).toNat=S'.length:=by simp
  rw[h3];simp
theorem B4f {n:Nat}{o:List Int}{sk:Int->Bool}{cr:Int->Int}{C:Int->Prop}{T:Nat->Prop}{p q:Int->Int}(ho:o.length=n)
  (h1:∀m (hm:m<o.length),sk o[m]=true->¬ T m/\∀c,C c->p c≠m/\q c≠m)
  (h2:∀m (hm:m<o.length),sk o[m]=false->cr o[m]<0->T m/\∀c,C c->p c≠m/\q c≠m)
  (h3:∀m (hm:m<o.length),sk o[m]=false->¬ cr o[m]<0->¬ T m/\C (cr o[m])/\(p (cr o[m])=m\/q (cr o[m])=m)/\∀c,C c->(p c=m\/q c=m)->c=cr o[m])
  (h4:∀c,C c->p c<q c):∀(d m:Nat) (S:List Int),m+d=n->(∀c,c∈S↔C c/\p c<m/\m<=q c)->S.Pairwise (fun a b=>p a<p b)->
  (B9h sk cr S (o.drop m)=true↔∀j:Nat,m<=j->j<n->(T j->∀c,C c->¬ (p c<j/\j<q c))/\(∀c,C c->q c=j->∀d,C d->¬ (p c<p d/\p d<j/\j<q d)))
 |0,m,S,hd,_,_=>by
  rw[List.drop_eq_nil_of_le (by omega)];exact⟨fun _ j h5 h6=>by omega,fun _=>rfl⟩
 |d+1,m,S,hd,hS,hP=>by
  have hm:m<o.length:=by omega
  rw[List.drop_eq_getElem_cons hm];have step:(∀j:Nat,m<=j->j<n->(T j->∀c,C c->¬ (p c<j/\j<q c))/\(∀c,C c->q c=j->∀d,C d->¬ (p c<p d/\p d<j/\j<q d)))↔
    ((T m->∀c,C c->¬ (p c<m/\m<q c))/\(∀c,C c->q c=m->∀d,C d->¬ (p c<p d/\p d<m/\m<q d)))/\
    (∀j:Nat,m+1<=j->j<n->(T j->∀c,C c->¬ (p c<j/\j<q c))/\(∀c,C c->q c=j->∀d,C d->¬ (p c<p d/\p d<j/\j<q d))):=by
   constructor
   ·intro h;exact⟨h m (Nat.le_refl _) (by omega),fun j h5 h6=>h j (by omega) h6⟩
   ·rintro⟨h,h'⟩ j h5 h6;rcases Nat.lt_or_ge m j with h7|h7
    ·exact h' j h7 h6
    ·have:j=m:=by omega
     subst this;exact h
  rw[step];have ih:=fun S hS hP=>B4f ho h1 h2 h3 h4 d (m+1) S (by omega) hS hP;have same:(∀c,C c->p c≠m/\q c≠m)->∀c,c∈S↔C c/\p c<((m+1:Nat):Int)/\((m+1:Nat):Int)<=q c:=fun h c=>by
   rw[hS];constructor
   ·rintro⟨a,b,e⟩;have:=h c a;exact⟨a,by omega,by omega⟩
   ·rintro⟨a,b,e⟩;have:=h c a;exact⟨a,by omega,by omega⟩
  show(bif sk o[m]then _ else _)=true↔_;cases hs:sk o[m]with
  |true=>
   obtain⟨g1,g2⟩:=h1 m hm hs;rw[cond_true,ih S (same g2) hP];exact⟨fun h=>⟨⟨fun t=>absurd t g1,fun c hc e=>absurd e (g2 c hc).2⟩,h⟩,fun h=>h.2⟩
  |false=>
   rw[cond_false]
   by_cases hc:cr o[m]<0
   ·obtain⟨g1,g2⟩:=h2 m hm hs hc;rw[A0h.2 hc,cond_true];cases hl:ltb 0 (S.length:Int)with
    |true=>
     rw[cond_true];refine⟨fun h=>(by cases h),fun h=>?_⟩;have hl:=A0h.1 hl;obtain⟨c,hcS⟩:=List.exists_mem_of_length_pos (by omega:0<S.length);obtain⟨a,b,e⟩:=(hS c).1 hcS;have:=g2 c a;exact absurd ⟨b,by omega⟩ (h.1.1 g1 c a)
    |false=>
     have hl:=A0x.1 hl;have hS0:S=[]:=List.length_eq_zero_iff.1 (by omega);rw[cond_false,ih S (same g2) hP];refine⟨fun h=>⟨⟨fun _ c hc e=>?_,fun c hc e=>absurd e (g2 c hc).2⟩,h⟩,fun h=>h.2⟩;have:c∈S:=(hS c).2 ⟨hc,e.1,by omega⟩;rw[hS0]at this;cases this
   ·obtain⟨g1,g2,g3,g4⟩:=h3 m hm hs hc;rw[A0x.2 (by omega),cond_false];have g5:=h4 _ g2;generalize cr o[m]=c at*;cases hlast:A5Q S c with
    |true=>
     rw[cond_true];obtain⟨S',rfl⟩:=B1B.1 hlast;rw[List.dropLast_concat];obtain⟨k1,k2,k3⟩:=List.pairwise_append.1 hP;have hcS:=(hS c).1 (by simp);have hq:q c=m:=by omega
     rw[ih S' ?_ k1]
     ·refine⟨fun h=>⟨⟨fun t=>absurd t g1,fun c' hc' e d hd ⟨e1,e2,e3⟩=>?_⟩,h⟩,fun h=>h.2⟩;have:=g4 c' hc' (.inr e);subst this;have hdS:=(hS d).2 ⟨hd,e2,by omega⟩;rcases List.mem_append.1 hdS with h5|h5
      ·have:=k3 d h5 c' (by simp);omega
      ·rw[List.mem_singleton]at h5;subst h5;omega
     ·intro c';constructor
      ·intro hc';obtain⟨a,b,e⟩:=(hS c').1 (List.mem_append_left _ hc');have hlt:=k3 c' hc' c (by simp);have:q c'≠m:=fun e2=>by
        have:=g4 c' a (.inr e2);subst this;omega
       exact⟨a,by omega,by omega⟩
      ·rintro⟨a,b,e⟩;have hne:c'≠c:=fun e2=>by subst e2;omega
       have:p c'≠m:=fun e2=>hne (g4 c' a (.inl e2));have:=(hS c').2 ⟨a,by omega,by omega⟩;rcases List.mem_append.1 this with h5|h5
       ·exact h5
       ·exact absurd (List.mem_singleton.1 h5) hne
    |false=>
     rw[cond_false];cases hmem:A1q S c with
     |true=>
      rw[cond_true];refine⟨fun h=>(by cases h),fun h=>?_⟩;have hcS:=A1B.1 hmem;obtain⟨a,b,e⟩:=(hS c).1 hcS;have hq:q c=m:=by omega
      have hne:S≠[]:=fun e=>by rw[e]at hcS;cases hcS
      have hcat:=List.dropLast_concat_getLast hne;generalize S.dropLast=S' at hcat
      generalize S.getLast hne=d at hcat
      subst hcat
      have hdc:d≠c:=fun e=>by
       subst e;rw[B1B.2 ⟨S',rfl⟩]at hlast;cases hlast
      obtain⟨k1,k2,k3⟩:=List.pairwise_append.1 hP;have hc':c∈S':=by
       rcases List.mem_append.1 hcS with h5|h5
       ·exact h5
       ·exact absurd (List.mem_singleton.1 h5).symm hdc
      have hlt:=k3 c hc' d (by simp);obtain⟨a2,b2,e2⟩:=(hS d).1 (by simp);have:q d≠m:=fun e3=>hdc (g4 d a2 (.inr e3));exact absurd ⟨hlt,b2,by omega⟩ (h.1.2 c a hq d a2)
     |false=>
      rw[cond_false];have hcS:c∉S:=fun h=>by rw[A1B.2 h]at hmem;cases hmem
      have hp:p c=m:=by
       rcases g3 with h5|h5
       ·exact h5
       ·exact absurd ((hS c).2 ⟨g2,by omega,by omega⟩) hcS
      rw[ih (S++[c]) ?_ ?_]
      ·refine⟨fun h=>⟨⟨fun t=>absurd t g1,fun c' hc' e d hd ⟨e1,e2,e3⟩=>?_⟩,h⟩,fun h=>h.2⟩;have:=g4 c' hc' (.inr e);subst this;omega
      ·intro c';rw[List.mem_append,List.mem_singleton,hS];constructor
       ·rintro(⟨a,b,e⟩|rfl)
        ·have:q c'≠m:=fun e2=>by
          have:=g4 c' a (.inr e2);subst this;omega
         exact⟨a,by omega,by omega⟩
        ·exact⟨g2,by omega,by omega⟩
       ·rintro⟨a,b,e⟩
        by_cases h5:p c'=m
        ·exact .inr (g4 c' a (.inl h5))
        ·exact .inl ⟨a,by omega,by omega⟩
      ·refine List.pairwise_append.2 ⟨hP,by simp,fun x hx y hy=>?_⟩;rw[List.mem_singleton]at hy;subst hy;have:=(hS x).1 hx;omega
structure Alt (n:Nat)(r:List Int):Prop where
 ev:n%2=0
 up:∀k:Nat,k<n->k%2=0->gR r (k:Int)<gR r ((k:Int)+1)
 dn:∀k:Nat,k<n->k%2=1->gR r ((k:Int)+1)<gR r (k:Int)
 cl:gR r (n:Int)=gR r 0
theorem B1C:∀(a:List Int) (x:Int) (p:Bool),(A8q x p a)[a.length]?.getD 0=x+A2X p a-A2X (!p) a
 |[],x,p=>by simp[A8q,A2X]
 |a::r,x,p=>by
  simp only[A8q,List.length_cons,List.getElem?_cons_succ,A2X];rw[B1C r];cases p<;>simp<;>omega
theorem A7n {a k:List Int}(h:A0l a k=true):Alt a.length (A0b a):=by
 obtain⟨h1,h2⟩:=A1d.1 h;unfold A8p at h2;simp only[Bool.and_eq_true,Bool.not_eq_true',beq_eq_false_iff_ne,ne_eq,bne_eq_false_iff_eq]at h2;obtain⟨h3,h4⟩:=h2;have hev:a.length%2=0:=by
  rw[Int.tmod_eq_emod_of_nonneg (by omega)]at h3;omega
 have ha:=(A1C h).2.2.1.1;have st:∀k:Nat,k<a.length->gR (A0b a) ((k:Int)+1)=gR (A0b a) (k:Int)+a[k]?.getD 0*sgI k/\1<=a[k]?.getD 0:=fun k hk=>by
  have:=A9P a 0 true k hk;unfold gR;rw[show((k:Int)+1).toNat=k+1 by omega,Int.toNat_natCast];refine⟨by simpa[A0b]using this,?_⟩;rw[List.getElem?_eq_getElem hk];exact ha _ (List.getElem_mem hk)
 refine⟨hev,fun k hk he=>?_,fun k hk he=>?_,?_⟩
 ·obtain⟨e1,e2⟩:=st k hk;have:sgI k=1:=by unfold sgI;rw[Int.tmod_eq_emod_of_nonneg (by omega)];omega
  rw[this]at e1;omega
 ·obtain⟨e1,e2⟩:=st k hk;have:sgI k= -1:=by unfold sgI;rw[Int.tmod_eq_emod_of_nonneg (by omega)];omega
  rw[this]at e1;omega
 ·have h5:=B1C a 0 true;unfold gR A0b;rw[Int.toNat_natCast,h5,h4];cases a<;>simp[A8q]
theorem C6l {n:Nat}{c:Int}(h0:0<=c)(h1:c<n):bfI n c=if c=0 then(n:Int)-1 else c-1:=by
 unfold bfI;rw[Int.tmod_eq_emod_of_nonneg (by omega)];split
 ·rename_i h;subst h;rw[Int.emod_eq_of_lt (by omega) (by omega)];omega
 ·rw[show c+(n:Int)-1=(c-1)+(n:Int)by omega,Int.add_emod_right,Int.emod_eq_of_lt (by omega) (by omega)]
theorem D1c {n:Nat}{k:Int}(h0:0<=k)(h1:k<n):(k+1).tmod n=if k+1=n then 0 else k+1:=by
 rw[Int.tmod_eq_emod_of_nonneg (by omega)];split
 ·rename_i h;rw[h,Int.emod_self]
 ·rw[Int.emod_eq_of_lt (by omega) (by omega)]
theorem B7E {k:Int}(h:0<=k):∃m:Nat,k=m:=⟨k.toNat,by omega⟩
section
variable {n:Nat}{r:List Int}(A:Alt n r)
include A
theorem Alt.rise {k:Int}(h0:0<=k)(h1:k<n):(k%2=0/\gR r k<gR r (k+1))\/(k%2=1/\gR r (k+1)<gR r k):=by
 obtain⟨m,rfl⟩:=B7E h0;rcases Nat.mod_two_eq_zero_or_one m with h|h
 ·exact .inl ⟨by omega,A.up m (by omega) h⟩
 ·exact .inr ⟨by omega,A.dn m (by omega) h⟩
theorem Alt.nx {k:Int}(h0:0<=k)(h1:k<n):gR r ((k+1).tmod n)=gR r (k+1):=by
 rw[D1c h0 h1];split
 ·rename_i h;rw[h,A.cl]
 ·rfl
theorem Alt.bf {c:Int}(h0:0<=c)(h1:c<n):0<=bfI n c/\bfI n c<n/\bfI n c≠c/\(bfI n c+1).tmod n=c/\gR r (bfI n c+1)=gR r c/\bfI n c%2≠c%2:=by
 have:=A.ev;have hb:=C6l h0 h1;have g1:0<=bfI n c/\bfI n c<n:=by rw[hb];split<;>omega
 have g2:(bfI n c+1).tmod n=c:=by
  rw[D1c g1.1 g1.2,hb];split<;>split<;>omega
 refine⟨g1.1,g1.2,?_,g2,?_,?_⟩
 ·rw[hb];split<;>omega
 ·rw[<- A.nx g1.1 g1.2,g2]
 ·rw[hb];split<;>omega
theorem Alt.nxb {k:Int}(h0:0<=k)(h1:k<n):0<=(k+1).tmod n/\(k+1).tmod n<n/\bfI n ((k+1).tmod n)=k:=by
 have hv:=D1c h0 h1;have g1:0<=(k+1).tmod (n:Int)/\(k+1).tmod (n:Int)<n:=by rw[hv];split<;>omega
 refine⟨g1.1,g1.2,?_⟩;rw[C6l g1.1 g1.2,hv];split<;>split<;>omega
theorem Alt.sid {c:Int}(h0:0<=c)(h1:c<n):A42 r c=decide (c%2=0):=by
 unfold A42;rcases A.rise h0 h1 with⟨h,h'⟩|⟨h,h'⟩
 ·rw[A0h.2 h',h];rfl
 ·rw[A0x.2 (by omega),h];rfl
theorem Alt.skip {g:Bool}{y k:Int}(h0:0<=k)(h1:k<n):skG r g y k=false↔
  (A5E r y k=true\/(gR r k=y/\g=decide (k%2=0))\/(gR r (k+1)=y/\g=decide (k%2=1))):=by
 unfold skG A5E mnI mxI;rcases A.rise h0 h1 with⟨h,h'⟩|⟨h,h'⟩
 ·rw[if_neg (by omega),if_pos (by omega),h];cases g<;>simp[A0h,A0k,A0M,A0x]<;>omega
 ·rw[if_pos (by omega),if_neg (by omega),h];cases g<;>simp[A0h,A0k,A0M,A0x]<;>omega
theorem Alt.ins {y k:Int}(h:A5E r y k=true):gR r k≠y/\gR r (k+1)≠y:=by
 unfold A5E mnI mxI at h;rw[Bool.and_eq_true,A0h,A0h]at h;constructor<;>intro e<;>rw[e]at h<;>(split at h<;>split at h<;>omega)
theorem Alt.ev1 {g:Bool}{y k:Int}(h0:0<=k)(h1:k<n)(hs:skG r g y k=false)(hc:¬ crI n r y k<0):
  A5E r y k=false/\0<=crI n r y k/\crI n r y k<n/\gR r (crI n r y k)=y/\A42 r (crI n r y k)=g/\(k=crI n r y k\/k=bfI n (crI n r y k)):=by
 have hs:=(A.skip h0 h1).1 hs;unfold crI at hc ⊢;obtain⟨n1,n2,n3⟩:=A.nxb h0 h1;split at hc
 ·rename_i he;rw[if_pos he];have hni:A5E r y k=false:=by
   rw[<- Bool.not_eq_true];exact fun h=>(A.ins h).2 he
  refine⟨hni,n1,n2,by rw[A.nx h0 h1,he],?_,.inr n3.symm⟩;rw[A.sid n1 n2];have hb:=A.bf n1 n2;rw[n3]at hb;rcases hs with h|⟨h,h'⟩|⟨h,h'⟩
  ·rw[h]at hni;cases hni
  ·rcases A.rise h0 h1 with⟨q,q'⟩|⟨q,q'⟩<;>omega
  ·rw[h'];have:=hb.2.2.2.2.2;rcases Int.emod_two_eq k with q|q<;>rcases Int.emod_two_eq ((k+1).tmod (n:Int))with q'|q'<;>rw[q,q']<;>first|rfl|omega
 ·rename_i he;split at hc
  ·rename_i he2;rw[if_neg he,if_pos he2];have hni:A5E r y k=false:=by
    rw[<- Bool.not_eq_true];exact fun h=>(A.ins h).1 he2
   refine⟨hni,h0,h1,he2,?_,.inl rfl⟩;rw[A.sid h0 h1];rcases hs with h|⟨h,h'⟩|⟨h,h'⟩
   ·rw[h]at hni;cases hni
   ·rw[h']
   ·exact absurd h he
  ·exact absurd (by decide) hc
theorem Alt.ev2 {g:Bool}{y c k:Int}(h0:0<=c)(h1:c<n)(hy:gR r c=y)(hg:A42 r c=g)(hk:k=c\/k=bfI n c):skG r g y k=false/\crI n r y k=c:=by
 obtain⟨b1,b2,b3,b4,b5,b6⟩:=A.bf h0 h1;rw[A.sid h0 h1]at hg;rcases hk with rfl|rfl
 ·refine⟨(A.skip h0 h1).2 (.inr (.inl ⟨hy,hg.symm⟩)),?_⟩;unfold crI;rw[if_neg,if_pos hy];intro e;rcases A.rise h0 h1 with⟨q,q'⟩|⟨q,q'⟩<;>omega
 ·refine⟨(A.skip b1 b2).2 (.inr (.inr ⟨by rw[b5,hy],?_⟩)),?_⟩
  ·rw[<- hg];rcases Int.emod_two_eq c with q|q<;>rcases Int.emod_two_eq (bfI n c)with q'|q'<;>rw[q,q']<;>first|rfl|omega
  ·unfold crI;rw[if_pos (by rw[b5,hy]),b4]
end
theorem D1d (x y:Int):mnI x y=x\/mnI x y=y:=by unfold mnI;split<;>simp
theorem D1e (x y:Int):mxI x y=x\/mxI x y=y:=by unfold mxI;split<;>simp
theorem mnx (x y:Int)(h:x≠y):mnI x y<mxI x y:=by unfold mnI mxI;split<;>split<;>omega
theorem A7o (x y:Int):(mnI x y=x/\mxI x y=y)\/(mnI x y=y/\mxI x y=x):=by unfold mnI mxI;split<;>split<;>omega
theorem C4a {x y:Int}:0<=mnI x y↔0<=x/\0<=y:=by unfold mnI;split<;>omega
theorem A1P {n:Nat}{f:Int->Bool}:A5P n f=true↔∃i:Nat,i<n/\f i=true:=by
 unfold A5P;rw[List.any_eq_true];simp[List.mem_range]
theorem A2f {n:Nat}{f:Int->Bool}:A5P n f=false↔∀i:Nat,i<n->f i=false:=by
 rw[<- Bool.not_eq_true,A1P];constructor
 ·intro h i hi;rw[<- Bool.not_eq_true];exact fun h'=>h ⟨i,hi,h'⟩
 ·rintro h ⟨i,hi,h'⟩;rw[h i hi]at h';cases h'
theorem A2Y {n:Nat}{o:List Int}(hn:n<=8)(ho:o.Perm (idO n)):
  (∀m (h:m<o.length),0<=o[m]/\o[m]<n/\gR (rkL o) o[m]=m)/\(∀x:Int,0<=x->x<n->∃m,∃h:m<o.length,o[m]=x/\gR (rkL o) x=m):=by
 have hO:=A2m ho hn;have hN:=A1p ho;have mem:∀x:Int,x∈o↔0<=x/\x<n:=fun x=>by rw[ho.mem_iff,A1S]
 rw[A3F];refine⟨fun m h=>?_,fun x h0 h1=>?_⟩
 ·obtain⟨h0,h1⟩:=(mem _).1 (List.getElem_mem h);exact⟨h0,h1,B1r hN hO h⟩
 ·obtain⟨m,hm,e⟩:=List.getElem_of_mem ((mem x).2 ⟨h0,h1⟩);exact⟨m,hm,e,by rw[<- e];exact B1r hN hO hm⟩
theorem C22 {n:Nat}{r o:List Int}(A:Alt n r)(hn:n<=8)(ho:o.Perm (idO n)):
  A4y n r (rkL o)=false↔∀i:Nat,i<n->∀g:Bool,B9h (skG r g (gR r (i:Int))) (crI n r (gR r (i:Int))) [] o=true:=by
 obtain⟨R1,R2⟩:=A2Y hn ho;have hl:=A0K ho;generalize hrk:rkL o=rk at*;have inj:∀x y:Int,0<=x->x<n->0<=y->y<n->gR rk x=gR rk y->x=y:=fun x y a b c d e=>by
  obtain⟨m,hm,e1,e2⟩:=R2 x a b;obtain⟨m',hm',e3,e4⟩:=R2 y c d;have:m=m':=by omega
  subst this;rw[<- e1,<- e3]
 have pos:∀x:Int,0<=x->x<n->0<=gR rk x:=fun x a b=>by
  obtain⟨m,hm,e1,e2⟩:=R2 x a b;omega
 let p:Int->Int:=fun c=>mnI (gR rk (bfI n c)) (gR rk c)
 let q:Int->Int:=fun c=>mxI (gR rk (bfI n c)) (gR rk c)
 have hpq:∀c:Int,0<=c->c<n->p c<q c:=fun c a b=>by
  obtain⟨b1,b2,b3,_⟩:=A.bf a b;exact mnx _ _ fun e=>b3 (inj _ _ b1 b2 a b e)
 have hp0:∀c:Int,0<=c->c<n->0<=p c:=fun c a b=>by
  obtain⟨b1,b2,_⟩:=A.bf a b;have h1:=pos _ b1 b2;have h2:=pos _ a b;rcases D1d (gR rk (bfI n c)) (gR rk c)with e|e<;>(show 0<=mnI _ _;omega)
 have at_:∀(c:Int) (m:Nat) (hm:m<o.length),0<=c->c<n->(p c=m\/q c=m)->(o[m]=c\/o[m]=bfI n c):=fun c m hm a b e=>by
  obtain⟨g1,g2,g3⟩:=R1 m hm;obtain⟨b1,b2,_⟩:=A.bf a b;have e':gR rk (bfI n c)=m\/gR rk c=m:=by
   rcases A7o (gR rk (bfI n c)) (gR rk c)with⟨e1,e2⟩|⟨e1,e2⟩<;>(rcases e with e|e<;>simp only[p,q]at e<;>omega)
  rcases e' with e'|e'
  ·exact .inr (inj _ _ g1 g2 b1 b2 (by rw[g3,e']))
  ·exact .inl (inj _ _ g1 g2 a b (by rw[g3,e']))
 have key:∀(i:Nat),i<n->∀g,B9h (skG r g (gR r (i:Int))) (crI n r (gR r (i:Int))) [] o=true↔
   ∀j:Nat,0<=j->j<n->(A5E r (gR r (i:Int)) (o[j]?.getD 0)=true->∀c:Int,(0<=c/\c<n/\gR r c=gR r (i:Int)/\A42 r c=g)->¬ (p c<j/\j<q c))/\
    (∀c:Int,(0<=c/\c<n/\gR r c=gR r (i:Int)/\A42 r c=g)->q c=j->∀d:Int,(0<=d/\d<n/\gR r d=gR r (i:Int)/\A42 r d=g)->¬ (p c<p d/\p d<j/\j<q d)):=by
  intro i hi g;generalize gR r (i:Int)=y;have:=B4f (n:=n) (o:=o) (sk:=skG r g y) (cr:=crI n r y) (C:=fun c=>0<=c/\c<n/\gR r c=y/\A42 r c=g) (T:=fun j=>A5E r y (o[j]?.getD 0)=true) (p:=p) (q:=q) hl
   (fun m hm hs=>by
    obtain⟨g1,g2,g3⟩:=R1 m hm;rw[List.getElem?_eq_getElem hm];refine⟨fun h=>?_,fun c hc=>?_⟩
    ·rw[(A.skip g1 g2).2 (.inl h)]at hs;cases hs
    ·constructor<;>intro e
     ·rw[(A.ev2 hc.1 hc.2.1 hc.2.2.1 hc.2.2.2 (at_ c m hm hc.1 hc.2.1 (.inl e))).1]at hs;cases hs
     ·rw[(A.ev2 hc.1 hc.2.1 hc.2.2.1 hc.2.2.2 (at_ c m hm hc.1 hc.2.1 (.inr e))).1]at hs;cases hs)
   (fun m hm hs hc=>by
    obtain⟨g1,g2,g3⟩:=R1 m hm;rw[List.getElem?_eq_getElem hm];refine⟨?_,fun c hC=>?_⟩
    ·rcases(A.skip g1 g2).1 hs with h|⟨h,_⟩|⟨h,_⟩
     ·exact h
     ·unfold crI at hc;have:=(A.nxb g1 g2).1;split at hc<;>first|omega|(rw[if_pos h]at hc;omega)
     ·unfold crI at hc;have:=(A.nxb g1 g2).1;rw[if_pos h]at hc;omega
    ·constructor<;>intro e
     ·rw[(A.ev2 hC.1 hC.2.1 hC.2.2.1 hC.2.2.2 (at_ c m hm hC.1 hC.2.1 (.inl e))).2]at hc;omega
     ·rw[(A.ev2 hC.1 hC.2.1 hC.2.2.1 hC.2.2.2 (at_ c m hm hC.1 hC.2.1 (.inr e))).2]at hc;omega)
   (fun m hm hs hc=>by
    obtain⟨g1,g2,g3⟩:=R1 m hm;rw[List.getElem?_eq_getElem hm];obtain⟨k1,k2,k3,k4,k5,k6⟩:=A.ev1 g1 g2 hs hc;refine⟨fun h=>?_,⟨k2,k3,k4,k5⟩,?_,fun c hC e=>?_⟩
    ·simp only[Option.getD_some]at h;rw[h]at k1;cases k1
    ·have e3:gR rk (bfI n (crI n r y o[m]))=m\/gR rk (crI n r y o[m])=m:=by
      rcases k6 with e|e
      ·right;rw[<- e];exact g3
      ·left;rw[<- e];exact g3
     show mnI _ _=_\/mxI _ _=_;rcases A7o (gR rk (bfI n (crI n r y o[m]))) (gR rk (crI n r y o[m]))with⟨e1,e2⟩|⟨e1,e2⟩<;>rcases e3 with e3|e3<;>omega
    ·exact(A.ev2 hC.1 hC.2.1 hC.2.2.1 hC.2.2.2 (at_ c m hm hC.1 hC.2.1 e)).2.symm)
   (fun c hC=>hpq c hC.1 hC.2.1) n 0 [] (by omega) (fun c=>by
    constructor
    ·intro h;cases h
    ·rintro⟨hC,h,_⟩;have:=hp0 c hC.1 hC.2.1;omega) List.Pairwise.nil
  rw[List.drop_zero]at this;exact this
 have btw:∀(c s:Int),0<=c->c<n->(A7g n rk c s=true↔p c<gR rk s/\gR rk s<q c):=fun c s a b=>by
  have:=hp0 c a b;unfold A7g;rw[Bool.and_eq_true,Bool.and_eq_true,A0k,A0h,A0h];exact⟨fun h=>h.2,fun h=>⟨this,h⟩⟩
 constructor
 ·intro h i hi g;rw[key i hi g];have h':∀x y:Int,0<=x->x<n->0<=y->y<n->A9K n r rk x y=false:=fun x y a b c d=>by
   obtain⟨x,rfl⟩:=B7E a;obtain⟨y,rfl⟩:=B7E c;unfold A4y at h;exact A2f.1 (A2f.1 h x (by omega)) y (by omega)
  intro j _ hj;obtain⟨g1,g2,g3⟩:=R1 j (by omega);rw[List.getElem?_eq_getElem (by omega:j<o.length)];refine⟨fun hin c hC e=>?_,fun c hC e d hD ⟨e1,e2,e3⟩=>?_⟩
  ·have:=h' c o[j] hC.1 hC.2.1 g1 g2;unfold A9K at this;rw[Bool.or_eq_false_iff]at this;rw[hC.2.2.1]at this;simp only[Option.getD_some]at hin;rw[hin,Bool.true_and]at this;rw[(btw c o[j] hC.1 hC.2.1).2 (by rw[g3];exact e)]at this;cases this.1
  ·have:=h' c d hC.1 hC.2.1 hD.1 hD.2.1;unfold A9K at this;rw[Bool.or_eq_false_iff]at this;have hne:d≠c:=fun e=>by subst e;omega
   have hb:=A.bf hD.1 hD.2.1;have q1:p d=mnI (gR rk (bfI n d)) (gR rk d):=rfl;have q2:q d=mxI (gR rk (bfI n d)) (gR rk d):=rfl;have hp:=hp0 d hD.1 hD.2.1;rw[show(d !=c)=true from bne_iff_ne.2 hne,show(gR r d==gR r c)=true from beq_iff_eq.2 (by rw[hD.2.2.1,hC.2.2.1]),show(A42 r d==A42 r c)=true from beq_iff_eq.2 (by rw[hD.2.2.2,hC.2.2.2]),
    show leb 0 (mnI (gR rk (bfI n d)) (gR rk d))=true from A0k.2 hp]at this
   simp only[Bool.true_and]at this;have this:=bne_eq_false_iff_eq.1 this.2;have b1:=btw c (bfI n d) hC.1 hC.2.1;have b2:=btw c d hC.1 hC.2.1;rcases A7o (gR rk (bfI n d)) (gR rk d)with⟨e4,e5⟩|⟨e4,e5⟩
   ·rw[b1.2 (by omega)]at this;have:=b2.1 this.symm;omega
   ·rw[b2.2 (by omega)]at this;have:=b1.1 this;omega
 ·intro h;unfold A4y;refine A2f.2 fun i hi=>A2f.2 fun k hk=>?_;rw[<- Bool.not_eq_true];intro hc;unfold A9K at hc;rw[Bool.or_eq_true]at hc;have hI:(0:Int)<=i/\(i:Int)<n:=by omega
  have hK:(0:Int)<=k/\(k:Int)<n:=by omega
  rcases hc with hc|hc
  ·rw[Bool.and_eq_true,btw _ _ hI.1 hI.2]at hc;obtain⟨m,hm,e1,e2⟩:=R2 k hK.1 hK.2;have:=((key i hi (A42 r i)).1 (h i hi _) m (by omega) (by omega)).1;rw[List.getElem?_eq_getElem hm,e1]at this;exact this hc.1 i ⟨hI.1,hI.2,rfl,rfl⟩ (by rw[<- e2];exact hc.2)
  ·simp only[Bool.and_eq_true,bne_iff_ne,beq_iff_eq,ne_eq]at hc;obtain⟨c1,c2,c3,c4,c5⟩:=hc;have b1:=btw i (bfI n k) hI.1 hI.2;have b2:=btw i k hI.1 hI.2;have L:=(key i hi (A42 r i)).1 (h i hi _);obtain⟨k1,k2,k3,k4,k5,k6⟩:=A.bf hK.1 hK.2;obtain⟨i1,i2,i3,i4,i5,i6⟩:=A.bf hI.1 hI.2;have hnx:=A.rise hK.1 hK.2;have hni:=A.rise hI.1 hI.2;have d1:(k:Int)≠i:=c1;have d2:bfI n (k:Int)≠bfI n i:=fun e=>by rw[e]at k4;omega
   have d3:(k:Int)≠bfI n i:=fun e=>by
    rw[<- e]at i5;rcases hnx with⟨_,h⟩|⟨_,h⟩<;>omega
   have d4:bfI n (k:Int)≠i:=fun e=>by
    rw[e]at k5;rcases hni with⟨_,h⟩|⟨_,h⟩<;>omega
   have n1:gR rk (k:Int)≠gR rk i:=fun e=>d1 (inj _ _ hK.1 hK.2 hI.1 hI.2 e);have n2:gR rk (bfI n (k:Int))≠gR rk (bfI n i):=fun e=>d2 (inj _ _ k1 k2 i1 i2 e);have n3:gR rk (k:Int)≠gR rk (bfI n i):=fun e=>d3 (inj _ _ hK.1 hK.2 i1 i2 e);have n4:gR rk (bfI n (k:Int))≠gR rk i:=fun e=>d4 (inj _ _ k1 k2 hI.1 hI.2 e);have q1:p k=mnI (gR rk (bfI n k)) (gR rk k):=rfl;have q2:q k=mxI (gR rk (bfI n k)) (gR rk k):=rfl;have q3:p i=mnI (gR rk (bfI n i)) (gR rk i):=rfl;have q4:q i=mxI (gR rk (bfI n i)) (gR rk i):=rfl;have hpk:=hpq k hK.1 hK.2;have hpi:=hpq i hI.1 hI.2;have lt:∀c:Int,0<=c->c<n->∃m:Nat,q c=m/\m<n:=fun c a b=>by
    obtain⟨b1,b2,_⟩:=A.bf a b;obtain⟨m,hm,e1,e2⟩:=R2 c a b;obtain⟨m',hm',e1',e2'⟩:=R2 (bfI n c) b1 b2;rcases D1e (gR rk (bfI n c)) (gR rk c)with e|e
    ·exact⟨m',by show mxI _ _=_;omega,by omega⟩
    ·exact⟨m,by show mxI _ _=_;omega,by omega⟩
   obtain⟨mi,em,hmi⟩:=lt i hI.1 hI.2;obtain⟨mk,ek,hmk⟩:=lt k hK.1 hK.2;have L1:=(L mi (by omega) hmi).2 i ⟨hI.1,hI.2,rfl,rfl⟩ em k ⟨hK.1,hK.2,c2,c3⟩;have L2:=(L mk (by omega) hmk).2 k ⟨hK.1,hK.2,c2,c3⟩ ek i ⟨hI.1,hI.2,rfl,rfl⟩;cases hb1:A7g n rk i (bfI n k)with
   |true=>
    cases hb2:A7g n rk i k with
    |true=>rw[hb1,hb2]at c5;exact c5 rfl
    |false=>
     have hb1:=b1.1 hb1;have hb2:¬ _:=fun h=>by rw[b2.2 h]at hb2;cases hb2
     rcases A7o (gR rk (bfI n k)) (gR rk k)with⟨e4,e5⟩|⟨e4,e5⟩<;>rcases A7o (gR rk (bfI n i)) (gR rk i)with⟨e6,e7⟩|⟨e6,e7⟩<;>omega
   |false=>
    cases hb2:A7g n rk i k with
    |false=>rw[hb1,hb2]at c5;exact c5 rfl
    |true=>
     have hb2:=b2.1 hb2;have hb1:¬ _:=fun h=>by rw[b1.2 h]at hb1;cases hb1
     rcases A7o (gR rk (bfI n k)) (gR rk k)with⟨e4,e5⟩|⟨e4,e5⟩<;>rcases A7o (gR rk (bfI n i)) (gR rk i)with⟨e6,e7⟩|⟨e6,e7⟩<;>omega
theorem B7F:∀(o rk:List Int) (i:Int) (j:Nat),o.Nodup->(∀x∈o,0<=x/\x<rk.length)->(h:j<o.length)->gR (rkA rk i o) o[j]=i+j
 |[],rk,i,j,_,_,h=>by simp at h
 |x::o,rk,i,0,hn,hx,h=>by
  unfold rkA;obtain⟨h1,h2⟩:=List.nodup_cons.1 hn;have hx0:=hx x (List.mem_cons_self ..);show gR _ x=_;rw[A9S o _ _ x (fun z hz=>(hx z (List.mem_cons_of_mem _ hz)).1) hx0.1 h1,A7j hx0.1 hx0.2];omega
 |x::o,rk,i,j+1,hn,hx,h=>by
  unfold rkA;obtain⟨h1,h2⟩:=List.nodup_cons.1 hn;show gR _ (o[j]'(by simpa using h))=_;rw[B7F o _ _ j h2 (fun z hz=>by rw[List.length_set];exact hx z (List.mem_cons_of_mem _ hz)) (by simpa using h)];omega
theorem C0I {n:Nat}{o:List Int}(hn:n<=8)(ho:o.Perm (idO n)){x:Int}(h0:0<=x)(h1:x<n):gR (A4X o) x=gR (rkL o) x:=by
 obtain⟨R1,R2⟩:=A2Y hn ho;obtain⟨m,hm,e1,e2⟩:=R2 x h0 h1;have:=B7F o (List.replicate o.length 0) 0 m (A1p ho) (fun z hz=>by
  rw[List.length_replicate,A0K ho];exact A1S.1 (ho.mem_iff.1 hz)) hm
 rw[e1]at this;unfold A4X;rw[this,e2];omega
theorem B7G {n:Nat}{r k o:List Int}(A:Alt n r)(hn:n<=8)(hk:k.length=n)(hk2:∀x∈k,1<=x/\x<=3)(ho:o.Perm (idO n)):A7h k (rkL o)=A5P n (B5v n k (A4X o)):=by
 obtain⟨R1,R2⟩:=A2Y hn ho;have one:∀i:Nat,i<n->B1O k (rkL o) i=B5v n k (A4X o) i:=fun i hi=>by
  have h0:(0:Int)<=i:=by omega
  have h1:(i:Int)<n:=by omega
  obtain⟨b1,b2,b3,_,_,b6⟩:=A.bf h0 h1;have hg:1<=gR k i/\gR k i<=3:=by
   unfold gR;rw[Int.toNat_natCast,List.getElem?_eq_getElem (by omega)];exact hk2 _ (List.getElem_mem (by omega:i<k.length))
  have p1:=C0I hn ho h0 h1;have p2:=C0I hn ho b1 b2;obtain⟨m,hm,e1,e2⟩:=R2 i h0 h1;obtain⟨m',hm',e3,e4⟩:=R2 _ b1 b2;have hne:m≠m':=fun e=>by
   subst e;rw[e1]at e3;exact b3 e3.symm
  unfold B1O B5v kdI odI evI;rw[hk];rw[Int.tmod_eq_emod_of_nonneg b1,Int.tmod_eq_emod_of_nonneg h0];rw[Bool.eq_iff_iff];simp only[Bool.and_eq_true,Bool.or_eq_true,bne_iff_ne,ne_eq,beq_iff_eq,A0k,A0h,C4a];rcases Int.emod_two_eq (i:Int)with q|q
  ·have q':bfI n i%2=1:=by rcases Int.emod_two_eq (bfI n (i:Int))with q'|q'<;>omega
   have c2:¬ (bfI n i%2=0):=by omega
   rw[if_pos q,if_pos q,if_neg c2,p1,p2,e2,e4];split<;>omega
  ·have q':bfI n i%2=0:=by rcases Int.emod_two_eq (bfI n (i:Int))with q'|q'<;>omega
   have c1:¬ ((i:Int)%2=0):=by omega
   rw[if_neg c1,if_neg c1,if_pos q',p1,p2,e2,e4];split<;>omega
 unfold A7h;rw[hk,Bool.eq_iff_iff,A1P,A1P];constructor
 ·rintro⟨i,hi,h⟩;exact⟨i,hi,by rw[<- one i hi];exact h⟩
 ·rintro⟨i,hi,h⟩;exact⟨i,hi,by rw[one i hi];exact h⟩
theorem A7p {n:Nat}{r o:List Int}(A:Alt n r)(hn:n<=8)(ho:o.Perm (idO n)):A4y n r (rkL o)=A5P n (B1P n r o):=by
 suffices key:A4y n r (rkL o)=false↔A5P n (B1P n r o)=false by
  cases h1:A4y n r (rkL o)with
  |false=>exact(key.1 h1).symm
  |true=>
   cases h2:A5P n (B1P n r o)with
   |true=>rfl
   |false=>rw[key.2 h2]at h1;cases h1
 rw[C22 A hn ho,A2f];refine forall_congr' fun i=>imp_congr_right fun hi=>?_;unfold B1P A5F;rw[Bool.or_eq_false_iff,Bool.not_eq_false',Bool.not_eq_false'];constructor
 ·exact fun h=>⟨h true,h false⟩
 ·rintro⟨h1,h2⟩ g;cases g
  ·exact h2
  ·exact h1
theorem A9U {a k o:List Int}(h:A0l a k=true)(ho:o.Perm (idO a.length)):A3n a k o=A3d a k o:=by
 obtain⟨h1,h2,h3,h4⟩:=A1C h;have A:=A7n h;have hl:=A0K ho;have hall:C8s o o.length=true:=A6b.2 fun j hj=>ho.mem_iff.2 (A1S.2 (by omega));have hlst:A4v a k o=0:=by
  unfold A4v;rw[if_pos (B2D h),if_pos hl,if_pos hall]
 unfold A3n A3d;rw[if_pos hlst,A7p A h2 ho,B7G A h2 h1.symm h4 ho]
theorem C6m {a:List Int}(hA:okA a){m:Nat}(g:m<a.length):1<=a[m]?.getD 0/\a[m]?.getD 0<=8:=by
 have h1:=B65 hA g;have:a[m]?.getD 0<=a.sum:=by
  have e:(a.take m).sum+(a.drop m).sum=a.sum:=by rw[<- List.sum_append,List.take_append_drop]
  have e2:(a.drop m).sum=a[m]?.getD 0+(a.drop (m+1)).sum:=by rw[List.drop_eq_getElem_cons g,List.sum_cons,List.getElem?_eq_getElem g];rfl
  have:=A9M hA (m+1);have:0<=(a.take m).sum:=A1o fun x hx=>by have:=hA.1 x (List.mem_of_mem_take hx);omega
  omega
 have:=hA.2;omega
theorem C6n (a:List Int):[0]=(A0b a).take 1:=by
 show[0]=(A8q 0 true a).take 1;cases a<;>rfl
theorem B9F:A1j Tryz.prog G 28 C39:=by
 intro args r h hp;unfold C39 at h;split at h<;>cases h;rename_i a n _ k m _;obtain⟨rfl,rfl,hA⟩:=hp;refine A1O (A0e hcm hmx A3w D2M rfl (C2Y a k) ?_);dsimp -failIfUnchanged -proj -eta -iota -zeta only[rd,rdw,qs,ql,qx];have hl:=A2k hA;have hrb:=B7n hA;have hrl:=A1W a;have hr0:=C6n a;have iL0:iL [0]=[0]:=rfl;simp only[iL0,A0p,and_true,true_and,A0k,A0h,A0x,A0u,A0t,iI,A0i,List.length_drop,List.length_append,List.length_cons,List.length_nil,List.getD_eq_getElem?_getD,List.getElem?_drop,Nat.add_zero,Nat.zero_add,beq_iff_eq,beq_eq_false_iff_ne,ne_eq,forall_const,true_imp_iff];refine⟨⟨0,rfl,by omega,hr0⟩,?_⟩;rintro⟨i,r⟩ ⟨m,hi,hm,hr⟩;simp only at hi hr ⊢;subst hi hr;simp only[Int.toNat_natCast];refine⟨fun hlt=>?_,fun hge=>?_⟩
 ·have g:m<a.length:=by omega
  have hst:=B1p g;have htl:((A0b a).take (m+1)).length=m+1:=by rw[List.length_take];omega
  have ha:=C6m hA g;have hy: -8<=((A0b a).take (m+1))[m]?.getD 0/\((A0b a).take (m+1))[m]?.getD 0<=8:=by
   have hm1:m<((A0b a).take (m+1)).length:=by omega
   rw[List.getElem?_eq_getElem hm1];exact hrb _ (List.mem_of_mem_take (List.getElem_mem hm1))
  have ht:(m:Int).tmod 2=0\/(m:Int).tmod 2=1:=by rw[Int.tmod_eq_emod_of_nonneg (by omega)];omega
  generalize hq:(A0b a).take (m+1)=q at*;refine⟨by omega,by omega,by omega,by omega,fun h1=>?_,fun h1=>?_⟩
  ·rw[h1,show ∀x y:Int,x+y*(1-2*1)=x+(0-y)from fun x y=>by omega]at hst;refine⟨by omega,by omega,by omega,by omega,by omega,by omega,by omega,⟨m+1,by omega,by omega,hst.symm⟩,by omega⟩
  ·have h2:(m:Int).tmod 2=0:=by omega
   rw[h2,show ∀x y:Int,x+y*(1-2*0)=x+y from fun x y=>by omega]at hst;refine⟨by omega,by omega,by omega,by omega,by omega,by omega,⟨m+1,by omega,by omega,hst.symm⟩,by omega⟩
 ·rw[List.take_of_length_le (by omega)];exact⟨rfl,rfl⟩
theorem D1f:TabOk Tryz.prog G T35:=A0q A0C ⟨B9F,trivial⟩
theorem B7H {n:Nat}{r o S:List Int}{y:Int}{g:Bool}{m:Nat}(h:m<o.length):B3U n r y g S (o.drop m)=
  (bif skG r g y (gR o m)then B3U n r y g S (o.drop (m+1))else bif ltb (crI n r y (gR o m)) 0 then(bif ltb 0 (S.length:Int)then false else B3U n r y g S (o.drop (m+1)))
   else bif A5Q S (crI n r y (gR o m))then B3U n r y g S.dropLast (o.drop (m+1))else bif A1q S (crI n r y (gR o m))then false else B3U n r y g (S++[crI n r y (gR o m)]) (o.drop (m+1))):=by
 have e:gR o (m:Int)=o[m]:=by
  unfold gR;rw[Int.toNat_natCast,List.getElem?_eq_getElem h];rfl
 rw[e,List.drop_eq_getElem_cons h];rfl
theorem D1g:A1j Tryz.prog G 35 C9Q:=by
 intro args r h hp;unfold C9Q at h;split at h<;>cases h;rename_i a n _ k m _ o p _ y g;obtain⟨rfl,rfl,rfl,hA,hz,ho⟩:=hp;refine A3h (A0e hcm hmx D1f D2Z rfl (C2Z a k o y g) ?_);dsimp -failIfUnchanged -proj -eta -iota -zeta only[rd,rdw,qs,ql,qx];have hl:=A2k hA;have hrl:=A1W a;have d1:∀x y:Int,(if y<x then y else x)=mnI x y:=fun _ _=>rfl;have d2:∀x y:Int,(if y>x then y else x)=mxI x y:=fun _ _=>rfl;simp only[gR0,d1,d2,A0p,and_true,true_and,A0k,A0M,A0h,A0x,A0u,A0t,iI,A0i,List.length_drop,List.length_append,List.length_cons,List.length_nil,Nat.add_zero,Nat.zero_add,beq_iff_eq,beq_eq_false_iff_ne,ne_eq,forall_const,true_imp_iff,Bool.not_eq_true',Bool.not_eq_false',List.take_nil,List.take_zero];refine⟨hA,⟨0,rfl,by omega,by omega,by omega,rfl⟩,?_⟩;rintro⟨i,c,q,l⟩ ⟨m,hi,hm,hq,hlq,hlm,hf⟩;simp only at hi hq hlq hlm hf ⊢;subst hi hq;simp only[Int.toNat_natCast];refine⟨fun hlt=>?_,fun hge=>?_⟩
 ·have hmo:m<o.length:=by omega
  have hK:=ho _ (List.getElem_mem hmo);have e:gR o (m:Int)=o[m]:=by
   unfold gR;rw[Int.toNat_natCast,List.getElem?_eq_getElem hmo];rfl
  rw[<- e]at hK;rw[B7H hmo]at hf;generalize gR o (m:Int)=K at*;have htl:(c.take l).length=l:=by rw[List.length_take];omega
  rw[htl]at hf;have NX:B3U a.length (A0b a) y g (c.take l) (o.drop (m+1))=A5F a.length (A0b a) o y g->((-9223372036854775808<=(m:Int)+1/\(m:Int)+1<=9223372036854775807)/\
    (∃m_1:Nat,(m:Int)+1=m_1/\m_1<=o.length/\True/\l<=c.length/\l<=m_1/\B3U a.length (A0b a) y g (c.take l) (o.drop m_1)=A5F a.length (A0b a) o y g)/\o.length-((m:Int)+1).toNat<o.length-m):=
   fun h=>⟨by omega,⟨m+1,by omega,by omega,trivial,hlq,by omega,h⟩,by omega⟩
  have SK:skG (A0b a) g y K=true->B3U a.length (A0b a) y g (c.take l) (o.drop (m+1))=A5F a.length (A0b a) o y g:=fun h=>by
   rw[h,cond_true]at hf;exact hf
  refine⟨by omega,by omega,by omega,by omega,by omega,by omega,by omega,by omega,by omega,by omega,by omega,by omega,by omega,by omega,by omega,by omega,by omega,by omega,by omega,by omega,by omega,by omega,⟨?_,?_⟩,?_⟩
  ·intro hg;subst hg;exact⟨fun h1=>NX (SK (by show(ltb _ _||_)=true;rw[A0h.2 h1];rfl)),fun h1=>⟨fun h2=>NX (SK (by show(_||leb _ _)=true;rw[A0k.2 h2,Bool.or_true])),fun h2=>⟨fun h=>(by cases h),fun _=>(by show(ltb _ _||leb _ _)=false;rw[A0x.2 h1,A0M.2 h2];rfl)⟩⟩⟩
  ·intro hg;subst hg;exact⟨fun _=>⟨fun h1=>NX (SK (by show(leb _ _||_)=true;rw[A0k.2 h1];rfl)),fun h1=>⟨fun h2=>NX (SK (by show(_||ltb _ _)=true;rw[A0h.2 h2,Bool.or_true])),fun h2=>(by show(leb _ _||ltb _ _)=false;rw[A0M.2 h1,A0x.2 h2];rfl)⟩⟩,fun h=>(by cases h)⟩
  intro hsk;rw[hsk,cond_false]at hf;refine⟨⟨by omega,by omega,by omega,by omega,fun h=>by rw[if_pos h],fun h=>by rw[if_neg h]⟩,?_⟩;rintro⟨v3⟩ hv3;simp only at hv3 ⊢;refine⟨⟨by omega,by omega,by omega,by omega,by omega,fun h=>⟨by omega,by omega,by unfold crI;rw[if_pos h]⟩,fun h=>by unfold crI;rw[if_neg h];exact hv3⟩,?_⟩;rintro⟨v⟩ hv;simp only at hv ⊢;rw[<- hv]at hf;rw[<- hv];have gT:∀t:Nat,t<l->gR (c.take l) (t:Int)=c.getD t 0:=fun t ht=>by
   unfold gR;rw[Int.toNat_natCast,List.getElem?_take_of_lt ht,List.getD_eq_getElem?_getD]
  have LB:0<l->(A5Q (c.take l) v=true↔c.getD ((l:Int)-1).toNat 0=v):=fun h=>by
   unfold A5Q;rw[htl,A0h.2 (by omega),Bool.true_and,beq_iff_eq];have:=gT (l-1) (by omega);rw[show(((l-1:Nat):Int))=(l:Int)-1 by omega]at this;rw[this,show((l:Int)-1).toNat=l-1 by omega]
  refine⟨fun h1=>⟨fun h2=>?_,fun h2=>NX ?_⟩,fun h1=>⟨⟨fun h2=>⟨by omega,by omega,by omega,by omega,fun h3=>⟨by omega,by omega,by omega,by omega,⟨m+1,by omega,by omega,trivial,by omega,by omega,?_⟩,by omega⟩,fun h3=>?_⟩,fun h2=>?_⟩,fun h2=>⟨⟨0,rfl,by omega,fun j hj=>by omega⟩,?_⟩⟩⟩
  ·rw[A0h.2 h1,cond_true,A0h.2 h2,cond_true]at hf;exact hf
  ·rw[A0h.2 h1,cond_true,A0x.2 h2,cond_false]at hf;exact hf
  ·rw[A0x.2 h1,cond_false,(LB (by omega)).2 h3,cond_true]at hf;have:(c.take l).dropLast=c.take ((l:Int)-1).toNat:=by
    rw[List.dropLast_eq_take,htl,List.take_take];congr 1;omega
   rw[this]at hf;exact hf
  ·rw[<- Bool.not_eq_true,LB (by omega)];exact h3
  ·unfold A5Q;rw[htl,A0x.2 (by omega)];rfl
  ·rw[A0x.2 h1,cond_false,h2,cond_false]at hf;rintro⟨x⟩ ⟨t,hx,ht,hj⟩;simp only at hx ⊢;subst hx;simp only[Int.toNat_natCast];refine⟨fun h3=>⟨by omega,by omega,by omega,fun h4=>?_,fun h4=>⟨by omega,⟨t+1,by omega,by omega,fun j hj'=>?_⟩,by omega⟩⟩,fun h3=>⟨by omega,by omega,⟨m+1,by omega,by omega,?_,by omega,by omega,?_⟩,by omega⟩⟩
   ·have hm:v∈c.take l:=by
     rw[<- h4,<- gT t (by omega)];unfold gR;rw[Int.toNat_natCast,List.getElem?_eq_getElem (by omega:t<(c.take l).length)];exact List.getElem_mem _
    rw[A1B.2 hm,cond_true]at hf;exact hf
   ·by_cases hj2:j<t
    ·exact hj j hj2
    ·rw[show j=t by omega,gT t (by omega)];exact h4
   ·rw[htl];omega
   ·have hm:v∉c.take l:=fun hm=>by
     obtain⟨j,hj1,hj2⟩:=List.getElem_of_mem hm;have:=hj j (by omega);unfold gR at this;rw[Int.toNat_natCast,List.getElem?_eq_getElem hj1]at this;exact this hj2
    rw[A4x.2 hm,cond_false]at hf;rw[List.take_left' (by rw[List.length_append,htl];rfl)];exact hf
 ·rw[List.drop_eq_nil_of_le (by omega)]at hf;exact hf
theorem D1h:TabOk Tryz.prog G T14:=A0q A0C ⟨B9F,D1g,trivial⟩
theorem B9G {o p:List Int}{m:Nat}(h:m<o.length):rkA (p.set (gR o m).toNat (m:Int)) ((m+1:Nat):Int) (o.drop (m+1))=rkA p m (o.drop m):=by
 have e:gR o (m:Int)=o[m]:=by
  unfold gR;rw[Int.toNat_natCast,List.getElem?_eq_getElem h];rfl
 rw[e,List.drop_eq_getElem_cons h];show _=rkA (p.set o[m].toNat m) ((m:Int)+1) _;rfl
theorem C23 {a k o:List Int}{m:Nat}(h:m<a.length)(hb:B1P a.length (A0b a) o m=true):A3d a k o=12:=by
 unfold A3d;rw[if_pos (A1P.2 ⟨m,h,hb⟩)]
theorem C6o {a k o:List Int}{m:Nat}(hf:∀j:Nat,j<a.length->B1P a.length (A0b a) o j=false)(h:m<a.length)(hb:B5v a.length k (A4X o) m=true):A3d a k o=13:=by
 unfold A3d;rw[A2f.2 hf,if_neg (by decide),if_pos (A1P.2 ⟨m,h,hb⟩)]
theorem C24 {a k o:List Int}(hf:∀j:Nat,j<a.length->B1P a.length (A0b a) o j=false)(hw:∀j:Nat,j<a.length->B5v a.length k (A4X o) j=false):A3d a k o=0:=by
 unfold A3d;rw[A2f.2 hf,if_neg (by decide),A2f.2 hw,if_neg (by decide)]
theorem B9H (o:List Int):(A4X o).length=o.length:=by
 unfold A4X;rw[B2E,List.length_replicate]
theorem C25:A1j Tryz.prog G 14 C49:=by
 intro args r h hp;unfold C49 at h;split at h<;>cases h;rename_i a n _ k m _ o p _;obtain⟨rfl,rfl,rfl,hA,hk,hpm⟩:=hp;refine A3h (A0e hcm hmx D1h D2m rfl (C20 a k o) ?_);dsimp -failIfUnchanged -proj -eta -iota -zeta only[rd,rdw,qs,ql,qx];have hl:=A2k hA;have hrl:=A1W a;have hol:o.length=a.length:=A0K hpm;have hmem:∀x∈o,0<=x/\x<a.length:=fun x hx=>A1S.1 (hpm.mem_iff.1 hx);have hpl:=B9H o;simp only[gR0,A0p,and_true,true_and,A0k,A0M,A0h,A0x,A0u,A0t,iI,A0i,List.length_drop,List.length_replicate,List.length_set,Nat.add_zero,Nat.zero_add,Int.toNat_natCast,ne_eq,forall_const,true_imp_iff,imp_self];refine⟨hA,⟨0,rfl,by omega,fun j hj=>by omega⟩,?_⟩;rintro⟨i⟩ ⟨m,hi,hm,hf⟩;simp only at hi ⊢;subst hi;simp only[Int.toNat_natCast];refine⟨fun hlt=>?_,fun hge=>?_⟩
 ·have hb:∀j:Nat,B1P a.length (A0b a) o j=(!A5F a.length (A0b a) o (gR (A0b a) j) true|| !A5F a.length (A0b a) o (gR (A0b a) j) false):=fun _=>rfl;have hbm:=hb m;generalize A5F a.length (A0b a) o (gR (A0b a) m) true=b1 at*;generalize A5F a.length (A0b a) o (gR (A0b a) m) false=b2 at*;have e1:(bif !b1 then true else !b2)=B1P a.length (A0b a) o m:=by rw[hbm];cases b1<;>cases b2<;>rfl
  have e2:(bif !b1 then true else !!b1&&true)=true:=by cases b1<;>rfl
  rw[e1];refine⟨by omega,by omega,by omega,by omega,⟨hA,by omega,hmem⟩,fun _=>by omega,fun _=>by omega,fun _=>by omega,fun _=>by omega,fun _=>⟨hA,by omega,hmem⟩,e2,fun h=>(C23 (by omega) h).symm,fun h=>⟨by omega,⟨m+1,by omega,by omega,fun j hj=>?_⟩,by omega⟩⟩
  by_cases hj':j<m
  ·exact hf j hj'
  ·rw[show j=m by omega];exact h
 ·have hf:∀j:Nat,j<a.length->B1P a.length (A0b a) o j=false:=fun j hj=>hf j (by omega);refine⟨by omega,by omega,⟨0,rfl,by omega,by unfold A4X;rw[hol];rfl⟩,?_⟩;rintro⟨i,p⟩ ⟨q,hi,hq,hpl2,hrk⟩;simp only at hi hpl2 hrk ⊢;subst hi;simp only[Int.toNat_natCast];refine⟨fun hlt=>?_,fun hge2=>?_⟩
  ·have hqo:q<o.length:=by omega
   have hK:=hmem _ (List.getElem_mem hqo);have e:gR o (q:Int)=o[q]:=by
    unfold gR;rw[Int.toNat_natCast,List.getElem?_eq_getElem hqo];rfl
   rw[<- e]at hK;have hst:=B9G (p:=p) hqo;generalize gR o (q:Int)=K at*;refine⟨by omega,by omega,by omega,by omega,by omega,by omega,by omega,by omega,⟨q+1,by omega,by omega,hpl2,hst.trans hrk⟩,by omega⟩
  ·have hqe:q=o.length:=by omega
   subst hqe;rw[List.drop_length]at hrk;have hp:p=A4X o:=hrk;subst hp;refine⟨⟨0,rfl,by omega,fun j hj=>by omega⟩,?_⟩;rintro⟨i⟩ ⟨m,hi,hm,hw⟩;simp only at hi ⊢;subst hi;simp only[Int.toNat_natCast];have hbf:=fun h:m<a.length=>A5o (n:=a.length) (c:=m) (by omega) (by omega);have hod:m<a.length->0<=odI a.length m/\odI a.length m<a.length:=fun h=>by have:=hbf h;unfold odI;split<;>omega
   have hev:m<a.length->0<=evI a.length m/\evI a.length m<a.length:=fun h=>by have:=hbf h;unfold evI;split<;>omega
   have hw1:B5v a.length k (A4X o) m=((gR k m==2&&ltb (gR (A4X o) (odI a.length m)) (gR (A4X o) (evI a.length m)))||(gR k m==1&&ltb (gR (A4X o) (evI a.length m)) (gR (A4X o) (odI a.length m)))):=rfl;have f1:(((m:Int).tmod 2==0)=true->((m:Int)+a.length-1).tmod a.length=odI a.length m/\(m:Int)=evI a.length m):=fun h=>by
    have h:=beq_iff_eq.1 h;unfold odI evI;rw[if_pos h,if_pos h];exact⟨rfl,rfl⟩
   have f2:(((m:Int).tmod 2==0)=false->(m:Int)=odI a.length m/\((m:Int)+a.length-1).tmod a.length=evI a.length m):=fun h=>by
    have h:=beq_eq_false_iff_ne.1 h;unfold odI evI;rw[if_neg h,if_neg h];exact⟨rfl,rfl⟩
   simp only[C92];generalize hX:(gR k m==2&&ltb (gR (A4X o) (odI a.length m)) (gR (A4X o) (evI a.length m)))=X at*;generalize (gR k m==2)=Y at*;generalize (gR k m==1)=Z at*;generalize ltb (gR (A4X o) (evI a.length m)) (gR (A4X o) (odI a.length m))=W at*;refine⟨fun hlt=>⟨by omega,by omega,by rw[beq_false_of_ne (by omega:(a.length:Int)≠0)];rfl,⟨f1,f2⟩,by omega,by omega,by omega,by omega,fun _=>by omega,fun _=>by omega,fun _=>by omega,fun _=>by omega,fun _=>by omega,fun _=>by omega,fun _=>by omega,fun _=>by omega,by cases Y<;>rfl,fun _=>by omega,fun _=>by omega,fun _=>by omega,fun _=>by omega,fun _=>by omega,fun _=>by omega,fun _=>by omega,fun _=>by omega,fun _=>by omega,fun _=>by omega,fun _=>by omega,fun _=>by omega,?_⟩,fun hge3=>?_⟩
   ·have e3:(bif X then true else Z&&W)=B5v a.length k (A4X o) m:=by rw[hw1];cases X<;>rfl
    rw[e3];refine⟨by cases X<;>simp,by cases X<;>cases Z<;>simp,by cases X<;>rfl,fun h=>(C6o hf (by omega) h).symm,fun h=>⟨by omega,⟨m+1,by omega,by omega,fun j hj=>?_⟩,by omega⟩⟩
    by_cases hj':j<m
    ·exact hw j hj'
    ·rw[show j=m by omega];exact h
   ·exact(C24 hf fun j hj=>hw j (by omega)).symm
theorem B9I (m:Nat):idN (m+1)=idN m++[(m:Int)]:=by
 unfold idN;rw[List.range_succ,List.map_append];rfl
theorem B7I (n:Nat):(idN n).length=n:=by unfold idN;rw[List.length_map,List.length_range]
theorem C0J {x:List Int}(hx:∀y∈x,0<=y/\y<256){i:Nat}{n:Nat}(hn:0<n):0<=pkX x i n/\pkX x i n<n:=by
 unfold pkX;split
 ·rename_i h;have hi:i<x.length:=by omega
  have:=hx _ (List.getElem_mem hi);have e:gR x (i:Int)=x[i]:=by
   unfold gR;rw[Int.toNat_natCast,List.getElem?_eq_getElem hi];rfl
  rw[e,Int.tmod_eq_emod_of_nonneg this.1];exact⟨Int.emod_nonneg _ (by omega),Int.emod_lt_of_pos _ (by omega)⟩
 ·omega
theorem B4g {l:List Int}{k:Int}(h0:0<=k)(h1:k<l.length):(C1U l k).length=l.length-1:=by
 unfold C1U;rw[List.length_append,List.length_take,List.length_drop];omega
theorem C6p:A1j Tryz.prog G 25 C8t:=by
 intro args r h hp;unfold C8t at h;split at h<;>cases h;rename_i x p _ n;obtain⟨rfl,hx,hn0,hn1⟩:=hp;refine(A0e hcm hmx A3w D2G rfl (C21 x n) ?_:SpecP Tryz.prog G 25 [A3X .u8 x,.int .i64 n] _ []).args fun w F xs h=>by
  cases h with
  |cons _ _ _ _ h1 h2=>exact .cons _ _ _ _ h1.caps h2
 simp only[gR0,A0p,and_true,true_and,A0k,A0M,A0h,A0x,A0u,A0t,iI,A0i,List.length_drop,List.length_append,List.length_cons,List.length_nil,Nat.add_zero,Nat.zero_add,ne_eq,beq_iff_eq,beq_eq_false_iff_ne,forall_const,true_imp_iff];refine⟨⟨0,rfl,by omega,rfl⟩,?_⟩;rintro⟨i,l⟩ ⟨m,hi,hm,hl⟩;simp only at hi hl ⊢;subst hi hl;rw[B7I];refine⟨fun hlt=>⟨by omega,by omega,⟨m+1,by omega,by omega,(B9I m).symm⟩,by omega⟩,fun hge=>?_⟩;have hmn:m=n.toNat:=by omega
 subst hmn;refine⟨⟨0,rfl,by omega,by omega,rfl,rfl⟩,?_⟩;rintro⟨i,l,p⟩ ⟨m,hi,hm,hl,hpl,ho⟩;simp only at hi hl hpl ho ⊢;subst hi;simp only[Int.toNat_natCast];refine⟨fun hlt=>?_,fun hge=>?_⟩
 ·have hf:n.toNat-m=(n.toNat-(m+1))+1:=by omega
  have hk:=C0J hx (i:=m) (n:=l.length) (by omega);rw[hf]at ho;rw[oxR]at ho;have hrl:=B4g hk.1 hk.2;have hg:(m:Int)<x.length->0<=gR x m/\gR x m<256:=fun h=>by
   have hi:m<x.length:=by omega
   have e:gR x (m:Int)=x[m]:=by
    unfold gR;rw[Int.toNat_natCast,List.getElem?_eq_getElem hi];rfl
   rw[e];exact hx _ (List.getElem_mem hi)
  refine⟨⟨fun h=>⟨by omega,by omega,by omega,by omega,by have:=hg h;omega,by rw[beq_false_of_ne (by omega:(l.length:Int)≠0)];rfl,by unfold pkX;rw[if_pos h]⟩,fun h=>by unfold pkX;rw[if_neg (by omega)]⟩,?_⟩;rintro⟨v⟩ hv;simp only at hv ⊢;rw[<- hv]at ho hk hrl ⊢;have htl:(List.take v.toNat l).length=v.toNat:=by rw[List.length_take];omega
  have hrm:C1U l v=l.take v.toNat++l.drop (v+1).toNat:=rfl;have em:((m+1:Nat):Int)=(m:Int)+1:=by omega
  rw[htl];rw[hrm]at ho;refine⟨by omega,by omega,by omega,by omega,by omega,fun h=>⟨by omega,by omega,by omega,by omega,by omega,by omega,by omega,by omega,by omega,⟨m+1,by omega,by omega,by omega,by omega,?_⟩,by omega⟩,fun h=>⟨by omega,by omega,by omega,by omega,by omega,by omega,rfl,by omega,by omega,by omega,rfl,⟨m+1,by omega,by omega,by omega,by omega,?_⟩,by omega⟩⟩
  ·rw[List.drop_eq_nil_of_le (by omega),List.append_nil]at ho;rw[List.append_assoc,em];exact ho
  ·rw[List.append_assoc,em];exact ho
 ·have:m=n.toNat:=by omega
  subst this;rw[Nat.sub_self]at ho;simp only[oxR,List.append_nil]at ho;rw[ho];exact⟨rfl,rfl⟩
end Go.Proofs.YthiammkiobbclaaGreatDoor.X
