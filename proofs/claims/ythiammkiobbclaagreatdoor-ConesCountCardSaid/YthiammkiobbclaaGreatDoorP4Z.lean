/-
 Cones, plain: what it means that nothing crosses.
-/
import Derived.Test.YthiammkiobbclaaGreatDoorD11Z
import Derived.Test.YthiammkiobbclaaGreatDoorC9Z
set_option maxRecDepth 1000000
set_option linter.unusedVariables false
set_option linter.unusedSectionVars false
set_option linter.unusedSimpArgs false
namespace Go.Proofs.YthiammkiobbclaaGreatDoor.X
open Go Go.Ab

theorem lastB_iff {S:List Int}{c:Int}:lastB S c=true↔∃S',S=S'++[c]:=by
 unfold lastB gR
 rw[Bool.and_eq_true,ltb_iff,beq_iff_eq]
 constructor
 ·rintro⟨h1,h2⟩
  have hne:S≠[]:=fun e=>by rw[e]at h1;simp at h1
  refine⟨S.dropLast,?_⟩
  have h3:((S.length:Int)-1).toNat=S.length-1:=by omega
  have h4:S.length-1<S.length:=by omega
  rw[h3,List.getElem?_eq_getElem h4]at h2
  simp only[Option.getD_some]at h2
  rw[← h2,← List.getLast_eq_getElem hne,List.dropLast_concat_getLast]
 ·rintro⟨S',rfl⟩
  rw[List.length_append]
  refine⟨by simp,?_⟩
  have h3:(((S'.length+[c].length:Nat):Int)-1).toNat=S'.length:=by simp
  rw[h3];simp
theorem scan_iff {n:Nat}{o:List Int}{sk:Int→Bool}{cr:Int→Int}{C:Int→Prop}{T:Nat→Prop}{p q:Int→Int}(ho:o.length=n)
  (h1:∀m (hm:m<o.length),sk o[m]=true→¬ T m∧∀c,C c→p c≠m∧q c≠m)
  (h2:∀m (hm:m<o.length),sk o[m]=false→cr o[m]<0→T m∧∀c,C c→p c≠m∧q c≠m)
  (h3:∀m (hm:m<o.length),sk o[m]=false→¬ cr o[m]<0→¬ T m∧C (cr o[m])∧(p (cr o[m])=m∨q (cr o[m])=m)∧∀c,C c→(p c=m∨q c=m)→c=cr o[m])
  (h4:∀c,C c→p c<q c):∀(d m:Nat) (S:List Int),m+d=n→(∀c,c∈S↔C c∧p c<m∧m≤q c)→S.Pairwise (fun a b=>p a<p b)→
  (fitG sk cr S (o.drop m)=true↔∀j:Nat,m≤j→j<n→(T j→∀c,C c→¬ (p c<j∧j<q c))∧(∀c,C c→q c=j→∀d,C d→¬ (p c<p d∧p d<j∧j<q d)))
 |0,m,S,hd,_,_=>by
  rw[List.drop_eq_nil_of_le (by omega)]
  exact⟨fun _ j h5 h6=>by omega,fun _=>rfl⟩
 |d+1,m,S,hd,hS,hP=>by
  have hm:m<o.length:=by omega
  rw[List.drop_eq_getElem_cons hm]
  have step:(∀j:Nat,m≤j→j<n→(T j→∀c,C c→¬ (p c<j∧j<q c))∧(∀c,C c→q c=j→∀d,C d→¬ (p c<p d∧p d<j∧j<q d)))↔
    ((T m→∀c,C c→¬ (p c<m∧m<q c))∧(∀c,C c→q c=m→∀d,C d→¬ (p c<p d∧p d<m∧m<q d)))∧
    (∀j:Nat,m+1≤j→j<n→(T j→∀c,C c→¬ (p c<j∧j<q c))∧(∀c,C c→q c=j→∀d,C d→¬ (p c<p d∧p d<j∧j<q d))):=by
   constructor
   ·intro h
    exact⟨h m (Nat.le_refl _) (by omega),fun j h5 h6=>h j (by omega) h6⟩
   ·rintro⟨h,h'⟩ j h5 h6
    rcases Nat.lt_or_ge m j with h7|h7
    ·exact h' j h7 h6
    ·have:j=m:=by omega
     subst this;exact h
  rw[step]
  have ih:=fun S hS hP=>scan_iff ho h1 h2 h3 h4 d (m+1) S (by omega) hS hP
  -- what stays where nothing is opened or closed
  have same:(∀c,C c→p c≠m∧q c≠m)→∀c,c∈S↔C c∧p c<((m+1:Nat):Int)∧((m+1:Nat):Int)≤q c:=fun h c=>by
   rw[hS]
   constructor
   ·rintro⟨a,b,e⟩
    have:=h c a
    exact⟨a,by omega,by omega⟩
   ·rintro⟨a,b,e⟩
    have:=h c a
    exact⟨a,by omega,by omega⟩
  show(bif sk o[m]then _ else _)=true↔_
  cases hs:sk o[m]with
  |true=>
   obtain⟨g1,g2⟩:=h1 m hm hs
   rw[cond_true,ih S (same g2) hP]
   exact⟨fun h=>⟨⟨fun t=>absurd t g1,fun c hc e=>absurd e (g2 c hc).2⟩,h⟩,fun h=>h.2⟩
  |false=>
   rw[cond_false]
   by_cases hc:cr o[m]<0
   ·obtain⟨g1,g2⟩:=h2 m hm hs hc
    rw[ltb_iff.2 hc,cond_true]
    cases hl:ltb 0 (S.length:Int)with
    |true=>
     rw[cond_true]
     refine⟨fun h=>(by cases h),fun h=>?_⟩
     have hl:=ltb_iff.1 hl
     obtain⟨c,hcS⟩:=List.exists_mem_of_length_pos (by omega:0<S.length)
     obtain⟨a,b,e⟩:=(hS c).1 hcS
     have:=g2 c a
     exact absurd ⟨b,by omega⟩ (h.1.1 g1 c a)
    |false=>
     have hl:=ltb_no.1 hl
     have hS0:S=[]:=List.length_eq_zero_iff.1 (by omega)
     rw[cond_false,ih S (same g2) hP]
     refine⟨fun h=>⟨⟨fun _ c hc e=>?_,fun c hc e=>absurd e (g2 c hc).2⟩,h⟩,fun h=>h.2⟩
     have:c∈S:=(hS c).2 ⟨hc,e.1,by omega⟩
     rw[hS0]at this;cases this
   ·obtain⟨g1,g2,g3,g4⟩:=h3 m hm hs hc
    rw[ltb_no.2 (by omega),cond_false]
    have g5:=h4 _ g2
    generalize cr o[m]=c at*
    cases hlast:lastB S c with
    |true=>
     rw[cond_true]
     obtain⟨S',rfl⟩:=lastB_iff.1 hlast
     rw[List.dropLast_concat]
     obtain⟨k1,k2,k3⟩:=List.pairwise_append.1 hP
     have hcS:=(hS c).1 (by simp)
     have hq:q c=m:=by omega
     rw[ih S' ?_ k1]
     ·refine⟨fun h=>⟨⟨fun t=>absurd t g1,fun c' hc' e d hd ⟨e1,e2,e3⟩=>?_⟩,h⟩,fun h=>h.2⟩
      have:=g4 c' hc' (.inr e)
      subst this
      have hdS:=(hS d).2 ⟨hd,e2,by omega⟩
      rcases List.mem_append.1 hdS with h5|h5
      ·have:=k3 d h5 c' (by simp);omega
      ·rw[List.mem_singleton]at h5;subst h5;omega
     ·intro c'
      constructor
      ·intro hc'
       obtain⟨a,b,e⟩:=(hS c').1 (List.mem_append_left _ hc')
       have hlt:=k3 c' hc' c (by simp)
       have:q c'≠m:=fun e2=>by
        have:=g4 c' a (.inr e2)
        subst this;omega
       exact⟨a,by omega,by omega⟩
      ·rintro⟨a,b,e⟩
       have hne:c'≠c:=fun e2=>by subst e2;omega
       have:p c'≠m:=fun e2=>hne (g4 c' a (.inl e2))
       have:=(hS c').2 ⟨a,by omega,by omega⟩
       rcases List.mem_append.1 this with h5|h5
       ·exact h5
       ·exact absurd (List.mem_singleton.1 h5) hne
    |false=>
     rw[cond_false]
     cases hmem:memB S c with
     |true=>
      rw[cond_true]
      refine⟨fun h=>(by cases h),fun h=>?_⟩
      have hcS:=memB_true.1 hmem
      obtain⟨a,b,e⟩:=(hS c).1 hcS
      have hq:q c=m:=by omega
      have hne:S≠[]:=fun e=>by rw[e]at hcS;cases hcS
      have hcat:=List.dropLast_concat_getLast hne
      generalize S.dropLast=S' at hcat
      generalize S.getLast hne=d at hcat
      subst hcat
      have hdc:d≠c:=fun e=>by
       subst e
       rw[lastB_iff.2 ⟨S',rfl⟩]at hlast;cases hlast
      obtain⟨k1,k2,k3⟩:=List.pairwise_append.1 hP
      have hc':c∈S':=by
       rcases List.mem_append.1 hcS with h5|h5
       ·exact h5
       ·exact absurd (List.mem_singleton.1 h5).symm hdc
      have hlt:=k3 c hc' d (by simp)
      obtain⟨a2,b2,e2⟩:=(hS d).1 (by simp)
      have:q d≠m:=fun e3=>hdc (g4 d a2 (.inr e3))
      exact absurd ⟨hlt,b2,by omega⟩ (h.1.2 c a hq d a2)
     |false=>
      rw[cond_false]
      have hcS:c∉S:=fun h=>by rw[memB_true.2 h]at hmem;cases hmem
      have hp:p c=m:=by
       rcases g3 with h5|h5
       ·exact h5
       ·exact absurd ((hS c).2 ⟨g2,by omega,by omega⟩) hcS
      rw[ih (S++[c]) ?_ ?_]
      ·refine⟨fun h=>⟨⟨fun t=>absurd t g1,fun c' hc' e d hd ⟨e1,e2,e3⟩=>?_⟩,h⟩,fun h=>h.2⟩
       have:=g4 c' hc' (.inr e)
       subst this;omega
      ·intro c'
       rw[List.mem_append,List.mem_singleton,hS]
       constructor
       ·rintro(⟨a,b,e⟩|rfl)
        ·have:q c'≠m:=fun e2=>by
          have:=g4 c' a (.inr e2)
          subst this;omega
         exact⟨a,by omega,by omega⟩
        ·exact⟨g2,by omega,by omega⟩
       ·rintro⟨a,b,e⟩
        by_cases h5:p c'=m
        ·exact .inr (g4 c' a (.inl h5))
        ·exact .inl ⟨a,by omega,by omega⟩
      ·refine List.pairwise_append.2 ⟨hP,by simp,fun x hx y hy=>?_⟩
       rw[List.mem_singleton]at hy
       subst hy
       have:=(hS x).1 hx
       omega
/-! ### Fans that alternate -/
structure Alt (n:Nat)(r:List Int):Prop where
 ev:n%2=0
 up:∀k:Nat,k<n→k%2=0→gR r (k:Int)<gR r ((k:Int)+1)
 dn:∀k:Nat,k<n→k%2=1→gR r ((k:Int)+1)<gR r (k:Int)
 cl:gR r (n:Int)=gR r 0
theorem rayL_last:∀(a:List Int) (x:Int) (p:Bool),(rayL x p a)[a.length]?.getD 0=x+sumP p a-sumP (!p) a
 |[],x,p=>by simp[rayL,sumP]
 |a::r,x,p=>by
  simp only[rayL,List.length_cons,List.getElem?_cons_succ,sumP]
  rw[rayL_last r]
  cases p<;>simp<;>omega
theorem alt_of {a k:List Int}(h:altS a k=true):Alt a.length (raysL a):=by
 obtain⟨h1,h2⟩:=altS_iff.1 h
 unfold altB at h2
 simp only[Bool.and_eq_true,Bool.not_eq_true',beq_eq_false_iff_ne,ne_eq,bne_eq_false_iff_eq]at h2
 obtain⟨h3,h4⟩:=h2
 have hev:a.length%2=0:=by
  rw[Int.tmod_eq_emod_of_nonneg (by omega)]at h3
  omega
 have ha:=(alt_facts h).2.2.1.1
 have st:∀k:Nat,k<a.length→gR (raysL a) ((k:Int)+1)=gR (raysL a) (k:Int)+a[k]?.getD 0*sgI k∧1≤a[k]?.getD 0:=fun k hk=>by
  have:=rayL_get a 0 true k hk
  unfold gR
  rw[show((k:Int)+1).toNat=k+1 by omega,Int.toNat_natCast]
  refine⟨by simpa[raysL]using this,?_⟩
  rw[List.getElem?_eq_getElem hk]
  exact ha _ (List.getElem_mem hk)
 refine⟨hev,fun k hk he=>?_,fun k hk he=>?_,?_⟩
 ·obtain⟨e1,e2⟩:=st k hk
  have:sgI k=1:=by unfold sgI;rw[Int.tmod_eq_emod_of_nonneg (by omega)];omega
  rw[this]at e1;omega
 ·obtain⟨e1,e2⟩:=st k hk
  have:sgI k= -1:=by unfold sgI;rw[Int.tmod_eq_emod_of_nonneg (by omega)];omega
  rw[this]at e1;omega
 ·have h5:=rayL_last a 0 true
  unfold gR raysL
  rw[Int.toNat_natCast,h5,h4]
  cases a<;>simp[rayL]
theorem bfI_v {n:Nat}{c:Int}(h0:0≤c)(h1:c<n):bfI n c=if c=0 then(n:Int)-1 else c-1:=by
 unfold bfI
 rw[Int.tmod_eq_emod_of_nonneg (by omega)]
 split
 ·rename_i h;subst h
  rw[Int.emod_eq_of_lt (by omega) (by omega)];omega
 ·rw[show c+(n:Int)-1=(c-1)+(n:Int)by omega,Int.add_emod_right,Int.emod_eq_of_lt (by omega) (by omega)]
theorem nx_v {n:Nat}{k:Int}(h0:0≤k)(h1:k<n):(k+1).tmod n=if k+1=n then 0 else k+1:=by
 rw[Int.tmod_eq_emod_of_nonneg (by omega)]
 split
 ·rename_i h;rw[h,Int.emod_self]
 ·rw[Int.emod_eq_of_lt (by omega) (by omega)]
theorem nat_of {k:Int}(h:0≤k):∃m:Nat,k=m:=⟨k.toNat,by omega⟩
section
variable {n:Nat}{r:List Int}(A:Alt n r)
include A
theorem Alt.rise {k:Int}(h0:0≤k)(h1:k<n):(k%2=0∧gR r k<gR r (k+1))∨(k%2=1∧gR r (k+1)<gR r k):=by
 obtain⟨m,rfl⟩:=nat_of h0
 rcases Nat.mod_two_eq_zero_or_one m with h|h
 ·exact .inl ⟨by omega,A.up m (by omega) h⟩
 ·exact .inr ⟨by omega,A.dn m (by omega) h⟩
theorem Alt.nx {k:Int}(h0:0≤k)(h1:k<n):gR r ((k+1).tmod n)=gR r (k+1):=by
 rw[nx_v h0 h1]
 split
 ·rename_i h;rw[h,A.cl]
 ·rfl
theorem Alt.bf {c:Int}(h0:0≤c)(h1:c<n):0≤bfI n c∧bfI n c<n∧bfI n c≠c∧(bfI n c+1).tmod n=c∧gR r (bfI n c+1)=gR r c∧bfI n c%2≠c%2:=by
 have:=A.ev
 have hb:=bfI_v h0 h1
 have g1:0≤bfI n c∧bfI n c<n:=by rw[hb];split<;>omega
 have g2:(bfI n c+1).tmod n=c:=by
  rw[nx_v g1.1 g1.2,hb]
  split<;>split<;>omega
 refine⟨g1.1,g1.2,?_,g2,?_,?_⟩
 ·rw[hb];split<;>omega
 ·rw[← A.nx g1.1 g1.2,g2]
 ·rw[hb];split<;>omega
theorem Alt.nxb {k:Int}(h0:0≤k)(h1:k<n):0≤(k+1).tmod n∧(k+1).tmod n<n∧bfI n ((k+1).tmod n)=k:=by
 have hv:=nx_v h0 h1
 have g1:0≤(k+1).tmod (n:Int)∧(k+1).tmod (n:Int)<n:=by rw[hv];split<;>omega
 refine⟨g1.1,g1.2,?_⟩
 rw[bfI_v g1.1 g1.2,hv]
 split<;>split<;>omega
theorem Alt.sid {c:Int}(h0:0≤c)(h1:c<n):sidB r c=decide (c%2=0):=by
 unfold sidB
 rcases A.rise h0 h1 with⟨h,h'⟩|⟨h,h'⟩
 ·rw[ltb_iff.2 h',h];rfl
 ·rw[ltb_no.2 (by omega),h];rfl
/-- The event of a sector beside a ray. -/
theorem Alt.skip {g:Bool}{y k:Int}(h0:0≤k)(h1:k<n):skG r g y k=false↔
  (insB r y k=true∨(gR r k=y∧g=decide (k%2=0))∨(gR r (k+1)=y∧g=decide (k%2=1))):=by
 unfold skG insB mnI mxI
 rcases A.rise h0 h1 with⟨h,h'⟩|⟨h,h'⟩
 ·rw[if_neg (by omega),if_pos (by omega),h]
  cases g<;>simp[ltb_iff,leb_iff,leb_no,ltb_no]<;>omega
 ·rw[if_pos (by omega),if_neg (by omega),h]
  cases g<;>simp[ltb_iff,leb_iff,leb_no,ltb_no]<;>omega
theorem Alt.ins {y k:Int}(h:insB r y k=true):gR r k≠y∧gR r (k+1)≠y:=by
 unfold insB mnI mxI at h
 rw[Bool.and_eq_true,ltb_iff,ltb_iff]at h
 constructor<;>intro e<;>rw[e]at h<;>(split at h<;>split at h<;>omega)
theorem Alt.ev1 {g:Bool}{y k:Int}(h0:0≤k)(h1:k<n)(hs:skG r g y k=false)(hc:¬ crI n r y k<0):
  insB r y k=false∧0≤crI n r y k∧crI n r y k<n∧gR r (crI n r y k)=y∧sidB r (crI n r y k)=g∧(k=crI n r y k∨k=bfI n (crI n r y k)):=by
 have hs:=(A.skip h0 h1).1 hs
 unfold crI at hc ⊢
 obtain⟨n1,n2,n3⟩:=A.nxb h0 h1
 split at hc
 ·rename_i he
  rw[if_pos he]
  have hni:insB r y k=false:=by
   rw[← Bool.not_eq_true];exact fun h=>(A.ins h).2 he
  refine⟨hni,n1,n2,by rw[A.nx h0 h1,he],?_,.inr n3.symm⟩
  rw[A.sid n1 n2]
  have hb:=A.bf n1 n2
  rw[n3]at hb
  rcases hs with h|⟨h,h'⟩|⟨h,h'⟩
  ·rw[h]at hni;cases hni
  ·rcases A.rise h0 h1 with⟨q,q'⟩|⟨q,q'⟩<;>omega
  ·rw[h']
   have:=hb.2.2.2.2.2
   rcases Int.emod_two_eq k with q|q<;>rcases Int.emod_two_eq ((k+1).tmod (n:Int))with q'|q'<;>rw[q,q']<;>first|rfl|omega
 ·rename_i he
  split at hc
  ·rename_i he2
   rw[if_neg he,if_pos he2]
   have hni:insB r y k=false:=by
    rw[← Bool.not_eq_true];exact fun h=>(A.ins h).1 he2
   refine⟨hni,h0,h1,he2,?_,.inl rfl⟩
   rw[A.sid h0 h1]
   rcases hs with h|⟨h,h'⟩|⟨h,h'⟩
   ·rw[h]at hni;cases hni
   ·rw[h']
   ·exact absurd h he
  ·exact absurd (by decide) hc
theorem Alt.ev2 {g:Bool}{y c k:Int}(h0:0≤c)(h1:c<n)(hy:gR r c=y)(hg:sidB r c=g)(hk:k=c∨k=bfI n c):skG r g y k=false∧crI n r y k=c:=by
 obtain⟨b1,b2,b3,b4,b5,b6⟩:=A.bf h0 h1
 rw[A.sid h0 h1]at hg
 rcases hk with rfl|rfl
 ·refine⟨(A.skip h0 h1).2 (.inr (.inl ⟨hy,hg.symm⟩)),?_⟩
  unfold crI
  rw[if_neg,if_pos hy]
  intro e
  rcases A.rise h0 h1 with⟨q,q'⟩|⟨q,q'⟩<;>omega
 ·refine⟨(A.skip b1 b2).2 (.inr (.inr ⟨by rw[b5,hy],?_⟩)),?_⟩
  ·rw[← hg]
   rcases Int.emod_two_eq c with q|q<;>rcases Int.emod_two_eq (bfI n c)with q'|q'<;>rw[q,q']<;>first|rfl|omega
  ·unfold crI
   rw[if_pos (by rw[b5,hy]),b4]
end
theorem mn_or (x y:Int):mnI x y=x∨mnI x y=y:=by unfold mnI;split<;>simp
theorem mx_or (x y:Int):mxI x y=x∨mxI x y=y:=by unfold mxI;split<;>simp
theorem mnx (x y:Int)(h:x≠y):mnI x y<mxI x y:=by unfold mnI mxI;split<;>split<;>omega
theorem mnx_or (x y:Int):(mnI x y=x∧mxI x y=y)∨(mnI x y=y∧mxI x y=x):=by unfold mnI mxI;split<;>split<;>omega
theorem mn_0 {x y:Int}:0≤mnI x y↔0≤x∧0≤y:=by unfold mnI;split<;>omega
theorem anyN_iff {n:Nat}{f:Int→Bool}:anyN n f=true↔∃i:Nat,i<n∧f i=true:=by
 unfold anyN
 rw[List.any_eq_true]
 simp[List.mem_range]
theorem anyN_noI {n:Nat}{f:Int→Bool}:anyN n f=false↔∀i:Nat,i<n→f i=false:=by
 rw[← Bool.not_eq_true,anyN_iff]
 constructor
 ·intro h i hi
  rw[← Bool.not_eq_true]
  exact fun h'=>h ⟨i,hi,h'⟩
 ·rintro h ⟨i,hi,h'⟩
  rw[h i hi]at h';cases h'
/-- Ranks of a permutation. -/
theorem rk_facts {n:Nat}{o:List Int}(hn:n≤8)(ho:o.Perm (idO n)):
  (∀m (h:m<o.length),0≤o[m]∧o[m]<n∧gR (rkL o) o[m]=m)∧(∀x:Int,0≤x→x<n→∃m,∃h:m<o.length,o[m]=x∧gR (rkL o) x=m):=by
 have hO:=perm_okO ho hn
 have hN:=perm_nodup ho
 have mem:∀x:Int,x∈o↔0≤x∧x<n:=fun x=>by rw[ho.mem_iff,idO_mem]
 rw[rkL_eq]
 refine⟨fun m h=>?_,fun x h0 h1=>?_⟩
 ·obtain⟨h0,h1⟩:=(mem _).1 (List.getElem_mem h)
  exact⟨h0,h1,rk_at hN hO h⟩
 ·obtain⟨m,hm,e⟩:=List.getElem_of_mem ((mem x).2 ⟨h0,h1⟩)
  exact⟨m,hm,e,by rw[← e];exact rk_at hN hO hm⟩
/-- Nothing crosses exactly if all scans end well. -/
theorem crs_fit {n:Nat}{r o:List Int}(A:Alt n r)(hn:n≤8)(ho:o.Perm (idO n)):
  crsB n r (rkL o)=false↔∀i:Nat,i<n→∀g:Bool,fitG (skG r g (gR r (i:Int))) (crI n r (gR r (i:Int))) [] o=true:=by
 obtain⟨R1,R2⟩:=rk_facts hn ho
 have hl:=perm_len ho
 generalize hrk:rkL o=rk at*
 have inj:∀x y:Int,0≤x→x<n→0≤y→y<n→gR rk x=gR rk y→x=y:=fun x y a b c d e=>by
  obtain⟨m,hm,e1,e2⟩:=R2 x a b
  obtain⟨m',hm',e3,e4⟩:=R2 y c d
  have:m=m':=by omega
  subst this
  rw[← e1,← e3]
 have pos:∀x:Int,0≤x→x<n→0≤gR rk x:=fun x a b=>by
  obtain⟨m,hm,e1,e2⟩:=R2 x a b;omega
 let p:Int→Int:=fun c=>mnI (gR rk (bfI n c)) (gR rk c)
 let q:Int→Int:=fun c=>mxI (gR rk (bfI n c)) (gR rk c)
 have hpq:∀c:Int,0≤c→c<n→p c<q c:=fun c a b=>by
  obtain⟨b1,b2,b3,_⟩:=A.bf a b
  exact mnx _ _ fun e=>b3 (inj _ _ b1 b2 a b e)
 have hp0:∀c:Int,0≤c→c<n→0≤p c:=fun c a b=>by
  obtain⟨b1,b2,_⟩:=A.bf a b
  have h1:=pos _ b1 b2
  have h2:=pos _ a b
  rcases mn_or (gR rk (bfI n c)) (gR rk c)with e|e<;>(show 0≤mnI _ _;omega)
 -- which sectors a place belongs to
 have at_:∀(c:Int) (m:Nat) (hm:m<o.length),0≤c→c<n→(p c=m∨q c=m)→(o[m]=c∨o[m]=bfI n c):=fun c m hm a b e=>by
  obtain⟨g1,g2,g3⟩:=R1 m hm
  obtain⟨b1,b2,_⟩:=A.bf a b
  have e':gR rk (bfI n c)=m∨gR rk c=m:=by
   rcases mnx_or (gR rk (bfI n c)) (gR rk c)with⟨e1,e2⟩|⟨e1,e2⟩<;>(rcases e with e|e<;>simp only[p,q]at e<;>omega)
  rcases e' with e'|e'
  ·exact .inr (inj _ _ g1 g2 b1 b2 (by rw[g3,e']))
  ·exact .inl (inj _ _ g1 g2 a b (by rw[g3,e']))
 have key:∀(i:Nat),i<n→∀g,fitG (skG r g (gR r (i:Int))) (crI n r (gR r (i:Int))) [] o=true↔
   ∀j:Nat,0≤j→j<n→(insB r (gR r (i:Int)) (o[j]?.getD 0)=true→∀c:Int,(0≤c∧c<n∧gR r c=gR r (i:Int)∧sidB r c=g)→¬ (p c<j∧j<q c))∧
    (∀c:Int,(0≤c∧c<n∧gR r c=gR r (i:Int)∧sidB r c=g)→q c=j→∀d:Int,(0≤d∧d<n∧gR r d=gR r (i:Int)∧sidB r d=g)→¬ (p c<p d∧p d<j∧j<q d)):=by
  intro i hi g
  generalize gR r (i:Int)=y
  have:=scan_iff (n:=n) (o:=o) (sk:=skG r g y) (cr:=crI n r y) (C:=fun c=>0≤c∧c<n∧gR r c=y∧sidB r c=g) (T:=fun j=>insB r y (o[j]?.getD 0)=true) (p:=p) (q:=q) hl
   (fun m hm hs=>by
    obtain⟨g1,g2,g3⟩:=R1 m hm
    rw[List.getElem?_eq_getElem hm]
    refine⟨fun h=>?_,fun c hc=>?_⟩
    ·rw[(A.skip g1 g2).2 (.inl h)]at hs;cases hs
    ·constructor<;>intro e
     ·rw[(A.ev2 hc.1 hc.2.1 hc.2.2.1 hc.2.2.2 (at_ c m hm hc.1 hc.2.1 (.inl e))).1]at hs;cases hs
     ·rw[(A.ev2 hc.1 hc.2.1 hc.2.2.1 hc.2.2.2 (at_ c m hm hc.1 hc.2.1 (.inr e))).1]at hs;cases hs)
   (fun m hm hs hc=>by
    obtain⟨g1,g2,g3⟩:=R1 m hm
    rw[List.getElem?_eq_getElem hm]
    refine⟨?_,fun c hC=>?_⟩
    ·rcases(A.skip g1 g2).1 hs with h|⟨h,_⟩|⟨h,_⟩
     ·exact h
     ·unfold crI at hc
      have:=(A.nxb g1 g2).1
      split at hc<;>first|omega|(rw[if_pos h]at hc;omega)
     ·unfold crI at hc
      have:=(A.nxb g1 g2).1
      rw[if_pos h]at hc;omega
    ·constructor<;>intro e
     ·rw[(A.ev2 hC.1 hC.2.1 hC.2.2.1 hC.2.2.2 (at_ c m hm hC.1 hC.2.1 (.inl e))).2]at hc;omega
     ·rw[(A.ev2 hC.1 hC.2.1 hC.2.2.1 hC.2.2.2 (at_ c m hm hC.1 hC.2.1 (.inr e))).2]at hc;omega)
   (fun m hm hs hc=>by
    obtain⟨g1,g2,g3⟩:=R1 m hm
    rw[List.getElem?_eq_getElem hm]
    obtain⟨k1,k2,k3,k4,k5,k6⟩:=A.ev1 g1 g2 hs hc
    refine⟨fun h=>?_,⟨k2,k3,k4,k5⟩,?_,fun c hC e=>?_⟩
    ·simp only[Option.getD_some]at h
     rw[h]at k1;cases k1
    ·have e3:gR rk (bfI n (crI n r y o[m]))=m∨gR rk (crI n r y o[m])=m:=by
      rcases k6 with e|e
      ·right;rw[← e];exact g3
      ·left;rw[← e];exact g3
     show mnI _ _=_∨mxI _ _=_
     rcases mnx_or (gR rk (bfI n (crI n r y o[m]))) (gR rk (crI n r y o[m]))with⟨e1,e2⟩|⟨e1,e2⟩<;>rcases e3 with e3|e3<;>omega
    ·exact(A.ev2 hC.1 hC.2.1 hC.2.2.1 hC.2.2.2 (at_ c m hm hC.1 hC.2.1 e)).2.symm)
   (fun c hC=>hpq c hC.1 hC.2.1) n 0 [] (by omega) (fun c=>by
    constructor
    ·intro h;cases h
    ·rintro⟨hC,h,_⟩
     have:=hp0 c hC.1 hC.2.1
     omega) List.Pairwise.nil
  rw[List.drop_zero]at this
  exact this
 have btw:∀(c s:Int),0≤c→c<n→(btwB n rk c s=true↔p c<gR rk s∧gR rk s<q c):=fun c s a b=>by
  have:=hp0 c a b
  unfold btwB
  rw[Bool.and_eq_true,Bool.and_eq_true,leb_iff,ltb_iff,ltb_iff]
  exact⟨fun h=>h.2,fun h=>⟨this,h⟩⟩
 constructor
 ·intro h i hi g
  rw[key i hi g]
  have h':∀x y:Int,0≤x→x<n→0≤y→y<n→crs1 n r rk x y=false:=fun x y a b c d=>by
   obtain⟨x,rfl⟩:=nat_of a
   obtain⟨y,rfl⟩:=nat_of c
   unfold crsB at h
   exact anyN_noI.1 (anyN_noI.1 h x (by omega)) y (by omega)
  intro j _ hj
  obtain⟨g1,g2,g3⟩:=R1 j (by omega)
  rw[List.getElem?_eq_getElem (by omega:j<o.length)]
  refine⟨fun hin c hC e=>?_,fun c hC e d hD ⟨e1,e2,e3⟩=>?_⟩
  ·have:=h' c o[j] hC.1 hC.2.1 g1 g2
   unfold crs1 at this
   rw[Bool.or_eq_false_iff]at this
   rw[hC.2.2.1]at this
   simp only[Option.getD_some]at hin
   rw[hin,Bool.true_and]at this
   rw[(btw c o[j] hC.1 hC.2.1).2 (by rw[g3];exact e)]at this
   cases this.1
  ·have:=h' c d hC.1 hC.2.1 hD.1 hD.2.1
   unfold crs1 at this
   rw[Bool.or_eq_false_iff]at this
   have hne:d≠c:=fun e=>by subst e;omega
   have hb:=A.bf hD.1 hD.2.1
   have q1:p d=mnI (gR rk (bfI n d)) (gR rk d):=rfl
   have q2:q d=mxI (gR rk (bfI n d)) (gR rk d):=rfl
   have hp:=hp0 d hD.1 hD.2.1
   rw[show(d !=c)=true from bne_iff_ne.2 hne,show(gR r d==gR r c)=true from beq_iff_eq.2 (by rw[hD.2.2.1,hC.2.2.1]),show(sidB r d==sidB r c)=true from beq_iff_eq.2 (by rw[hD.2.2.2,hC.2.2.2]),
    show leb 0 (mnI (gR rk (bfI n d)) (gR rk d))=true from leb_iff.2 hp]at this
   simp only[Bool.true_and]at this
   have this:=bne_eq_false_iff_eq.1 this.2
   have b1:=btw c (bfI n d) hC.1 hC.2.1
   have b2:=btw c d hC.1 hC.2.1
   rcases mnx_or (gR rk (bfI n d)) (gR rk d)with⟨e4,e5⟩|⟨e4,e5⟩
   ·rw[b1.2 (by omega)]at this
    have:=b2.1 this.symm
    omega
   ·rw[b2.2 (by omega)]at this
    have:=b1.1 this
    omega
 ·intro h
  unfold crsB
  refine anyN_noI.2 fun i hi=>anyN_noI.2 fun k hk=>?_
  rw[← Bool.not_eq_true]
  intro hc
  unfold crs1 at hc
  rw[Bool.or_eq_true]at hc
  have hI:(0:Int)≤i∧(i:Int)<n:=by omega
  have hK:(0:Int)≤k∧(k:Int)<n:=by omega
  rcases hc with hc|hc
  ·rw[Bool.and_eq_true,btw _ _ hI.1 hI.2]at hc
   obtain⟨m,hm,e1,e2⟩:=R2 k hK.1 hK.2
   have:=((key i hi (sidB r i)).1 (h i hi _) m (by omega) (by omega)).1
   rw[List.getElem?_eq_getElem hm,e1]at this
   exact this hc.1 i ⟨hI.1,hI.2,rfl,rfl⟩ (by rw[← e2];exact hc.2)
  ·simp only[Bool.and_eq_true,bne_iff_ne,beq_iff_eq,ne_eq]at hc
   obtain⟨c1,c2,c3,c4,c5⟩:=hc
   have b1:=btw i (bfI n k) hI.1 hI.2
   have b2:=btw i k hI.1 hI.2
   have L:=(key i hi (sidB r i)).1 (h i hi _)
   obtain⟨k1,k2,k3,k4,k5,k6⟩:=A.bf hK.1 hK.2
   obtain⟨i1,i2,i3,i4,i5,i6⟩:=A.bf hI.1 hI.2
   -- the four sectors differ
   have hnx:=A.rise hK.1 hK.2
   have hni:=A.rise hI.1 hI.2
   have d1:(k:Int)≠i:=c1
   have d2:bfI n (k:Int)≠bfI n i:=fun e=>by rw[e]at k4;omega
   have d3:(k:Int)≠bfI n i:=fun e=>by
    rw[← e]at i5;rcases hnx with⟨_,h⟩|⟨_,h⟩<;>omega
   have d4:bfI n (k:Int)≠i:=fun e=>by
    rw[e]at k5;rcases hni with⟨_,h⟩|⟨_,h⟩<;>omega
   have n1:gR rk (k:Int)≠gR rk i:=fun e=>d1 (inj _ _ hK.1 hK.2 hI.1 hI.2 e)
   have n2:gR rk (bfI n (k:Int))≠gR rk (bfI n i):=fun e=>d2 (inj _ _ k1 k2 i1 i2 e)
   have n3:gR rk (k:Int)≠gR rk (bfI n i):=fun e=>d3 (inj _ _ hK.1 hK.2 i1 i2 e)
   have n4:gR rk (bfI n (k:Int))≠gR rk i:=fun e=>d4 (inj _ _ k1 k2 hI.1 hI.2 e)
   have q1:p k=mnI (gR rk (bfI n k)) (gR rk k):=rfl
   have q2:q k=mxI (gR rk (bfI n k)) (gR rk k):=rfl
   have q3:p i=mnI (gR rk (bfI n i)) (gR rk i):=rfl
   have q4:q i=mxI (gR rk (bfI n i)) (gR rk i):=rfl
   have hpk:=hpq k hK.1 hK.2
   have hpi:=hpq i hI.1 hI.2
   have lt:∀c:Int,0≤c→c<n→∃m:Nat,q c=m∧m<n:=fun c a b=>by
    obtain⟨b1,b2,_⟩:=A.bf a b
    obtain⟨m,hm,e1,e2⟩:=R2 c a b
    obtain⟨m',hm',e1',e2'⟩:=R2 (bfI n c) b1 b2
    rcases mx_or (gR rk (bfI n c)) (gR rk c)with e|e
    ·exact⟨m',by show mxI _ _=_;omega,by omega⟩
    ·exact⟨m,by show mxI _ _=_;omega,by omega⟩
   obtain⟨mi,em,hmi⟩:=lt i hI.1 hI.2
   obtain⟨mk,ek,hmk⟩:=lt k hK.1 hK.2
   have L1:=(L mi (by omega) hmi).2 i ⟨hI.1,hI.2,rfl,rfl⟩ em k ⟨hK.1,hK.2,c2,c3⟩
   have L2:=(L mk (by omega) hmk).2 k ⟨hK.1,hK.2,c2,c3⟩ ek i ⟨hI.1,hI.2,rfl,rfl⟩
   cases hb1:btwB n rk i (bfI n k)with
   |true=>
    cases hb2:btwB n rk i k with
    |true=>rw[hb1,hb2]at c5;exact c5 rfl
    |false=>
     have hb1:=b1.1 hb1
     have hb2:¬ _:=fun h=>by rw[b2.2 h]at hb2;cases hb2
     rcases mnx_or (gR rk (bfI n k)) (gR rk k)with⟨e4,e5⟩|⟨e4,e5⟩<;>rcases mnx_or (gR rk (bfI n i)) (gR rk i)with⟨e6,e7⟩|⟨e6,e7⟩<;>omega
   |false=>
    cases hb2:btwB n rk i k with
    |false=>rw[hb1,hb2]at c5;exact c5 rfl
    |true=>
     have hb2:=b2.1 hb2
     have hb1:¬ _:=fun h=>by rw[b1.2 h]at hb1;cases hb1
     rcases mnx_or (gR rk (bfI n k)) (gR rk k)with⟨e4,e5⟩|⟨e4,e5⟩<;>rcases mnx_or (gR rk (bfI n i)) (gR rk i)with⟨e6,e7⟩|⟨e6,e7⟩<;>omega
theorem rkA_in':∀(o rk:List Int) (i:Int) (j:Nat),o.Nodup→(∀x∈o,0≤x∧x<rk.length)→(h:j<o.length)→gR (rkA rk i o) o[j]=i+j
 |[],rk,i,j,_,_,h=>by simp at h
 |x::o,rk,i,0,hn,hx,h=>by
  unfold rkA
  obtain⟨h1,h2⟩:=List.nodup_cons.1 hn
  have hx0:=hx x (List.mem_cons_self ..)
  show gR _ x=_
  rw[rkA_out o _ _ x (fun z hz=>(hx z (List.mem_cons_of_mem _ hz)).1) hx0.1 h1,gR_set_self hx0.1 hx0.2];omega
 |x::o,rk,i,j+1,hn,hx,h=>by
  unfold rkA
  obtain⟨h1,h2⟩:=List.nodup_cons.1 hn
  show gR _ (o[j]'(by simpa using h))=_
  rw[rkA_in' o _ _ j h2 (fun z hz=>by rw[List.length_set];exact hx z (List.mem_cons_of_mem _ hz)) (by simpa using h)];omega
theorem pos_at {n:Nat}{o:List Int}(hn:n≤8)(ho:o.Perm (idO n)){x:Int}(h0:0≤x)(h1:x<n):gR (posL o) x=gR (rkL o) x:=by
 obtain⟨R1,R2⟩:=rk_facts hn ho
 obtain⟨m,hm,e1,e2⟩:=R2 x h0 h1
 have:=rkA_in' o (List.replicate o.length 0) 0 m (perm_nodup ho) (fun z hz=>by
  rw[List.length_replicate,perm_len ho]
  exact idO_mem.1 (ho.mem_iff.1 hz)) hm
 rw[e1]at this
 unfold posL
 rw[this,e2];omega
theorem wr_iff {n:Nat}{r k o:List Int}(A:Alt n r)(hn:n≤8)(hk:k.length=n)(hk2:∀x∈k,1≤x∧x≤3)(ho:o.Perm (idO n)):wrgB k (rkL o)=anyN n (wrC1 n k (posL o)):=by
 obtain⟨R1,R2⟩:=rk_facts hn ho
 have one:∀i:Nat,i<n→wrg1 k (rkL o) i=wrC1 n k (posL o) i:=fun i hi=>by
  have h0:(0:Int)≤i:=by omega
  have h1:(i:Int)<n:=by omega
  obtain⟨b1,b2,b3,_,_,b6⟩:=A.bf h0 h1
  have hg:1≤gR k i∧gR k i≤3:=by
   unfold gR
   rw[Int.toNat_natCast,List.getElem?_eq_getElem (by omega)]
   exact hk2 _ (List.getElem_mem (by omega:i<k.length))
  have p1:=pos_at hn ho h0 h1
  have p2:=pos_at hn ho b1 b2
  obtain⟨m,hm,e1,e2⟩:=R2 i h0 h1
  obtain⟨m',hm',e3,e4⟩:=R2 _ b1 b2
  have hne:m≠m':=fun e=>by
   subst e;rw[e1]at e3;exact b3 e3.symm
  unfold wrg1 wrC1 kdI odI evI
  rw[hk]
  rw[Int.tmod_eq_emod_of_nonneg b1,Int.tmod_eq_emod_of_nonneg h0]
  rw[Bool.eq_iff_iff]
  simp only[Bool.and_eq_true,Bool.or_eq_true,bne_iff_ne,ne_eq,beq_iff_eq,leb_iff,ltb_iff,mn_0]
  rcases Int.emod_two_eq (i:Int)with q|q
  ·have q':bfI n i%2=1:=by rcases Int.emod_two_eq (bfI n (i:Int))with q'|q'<;>omega
   have c2:¬ (bfI n i%2=0):=by omega
   rw[if_pos q,if_pos q,if_neg c2,p1,p2,e2,e4]
   split<;>omega
  ·have q':bfI n i%2=0:=by rcases Int.emod_two_eq (bfI n (i:Int))with q'|q'<;>omega
   have c1:¬ ((i:Int)%2=0):=by omega
   rw[if_neg c1,if_neg c1,if_pos q',p1,p2,e2,e4]
   split<;>omega
 unfold wrgB
 rw[hk,Bool.eq_iff_iff,anyN_iff,anyN_iff]
 constructor
 ·rintro⟨i,hi,h⟩;exact⟨i,hi,by rw[← one i hi];exact h⟩
 ·rintro⟨i,hi,h⟩;exact⟨i,hi,by rw[one i hi];exact h⟩
theorem bad_iff {n:Nat}{r o:List Int}(A:Alt n r)(hn:n≤8)(ho:o.Perm (idO n)):crsB n r (rkL o)=anyN n (badF n r o):=by
 suffices key:crsB n r (rkL o)=false↔anyN n (badF n r o)=false by
  cases h1:crsB n r (rkL o)with
  |false=>exact(key.1 h1).symm
  |true=>
   cases h2:anyN n (badF n r o)with
   |true=>rfl
   |false=>rw[key.2 h2]at h1;cases h1
 rw[crs_fit A hn ho,anyN_noI]
 refine forall_congr' fun i=>imp_congr_right fun hi=>?_
 unfold badF fitL
 rw[Bool.or_eq_false_iff,Bool.not_eq_false',Bool.not_eq_false']
 constructor
 ·exact fun h=>⟨h true,h false⟩
 ·rintro⟨h1,h2⟩ g
  cases g
  ·exact h2
  ·exact h1
end Go.Proofs.YthiammkiobbclaaGreatDoor.X
