/-
 The plain law of patterns: set, look up, the check, over lists of units and kinds.
-/
import Derived.Test.YtfpcbimohikhmaaDoorQC8Z

set_option maxRecDepth 1000000
set_option linter.unusedVariables false
set_option linter.unusedSimpArgs false
namespace Go.Proofs.YtfpcbimohikhmaaDoor.X
open Go Go.Ab

/-- Ascending codes. -/
def asc (us:List Int):Prop:=us.Pairwise (fun x y=>x<y)
theorem unL_asc (w h:Int):∀n,asc (unL w h n)
 |0=>.nil
 |n+1=>by
  rw[unL_succ]
  unfold asc
  rw[List.pairwise_append]
  refine⟨unL_asc w h n,?_,fun x hx y hy=>?_⟩
  ·split
   ·exact List.pairwise_singleton ..
   ·exact .nil
  ·have:=unL_mem hx
   split at hy
   ·rw[List.mem_singleton]at hy;omega
   ·simp at hy
theorem units_asc (w h:Int):asc (units w h):=unL_asc w h _
theorem cd_of (c k:Int):cdC (c/3,c%3,k)=c:=by unfold cdC;simp only;omega
theorem asc_tail {d:Int}{us:List Int}(h:asc (d::us)):asc us∧∀x∈us,d<x:=⟨(List.pairwise_cons.1 h).2,(List.pairwise_cons.1 h).1⟩
/-- A crease of a list of units and kinds. -/
theorem wthL_mem:∀{us ks:List Int} {x:Cr},x∈wthL us ks→cdC x∈us∧x.1=cdC x/3∧x.2.1=cdC x%3∧x.2.2∈ks∧x.2.2≠0
 |[],ks,x,h=>by simp[wthL]at h
 |c::us,[],x,h=>by simp[wthL]at h
 |c::us,k::ks,x,h=>by
  simp only[wthL]at h
  split at h
  ·obtain⟨h1,h2,h3,h4,h5⟩:=wthL_mem h
   exact⟨by simp[h1],h2,h3,by simp[h4],h5⟩
  ·rename_i hk
   rcases List.mem_cons.1 h with rfl|h
   ·rw[cd_of];exact⟨by simp,rfl,rfl,by simp,hk⟩
   ·obtain⟨h1,h2,h3,h4,h5⟩:=wthL_mem h
    exact⟨by simp[h1],h2,h3,by simp[h4],h5⟩
theorem wthL_pw:∀{us ks:List Int},asc us→(wthL us ks).Pairwise (fun x y=>cdC x<cdC y)
 |[],ks,_=>by simp[wthL]
 |c::us,[],_=>by simp[wthL]
 |c::us,k::ks,h=>by
  obtain⟨h1,h2⟩:=asc_tail h
  simp only[wthL]
  split
  ·exact wthL_pw h1
  ·refine List.pairwise_cons.2 ⟨fun y hy=>?_,wthL_pw h1⟩
   rw[cd_of]
   exact h2 _ (wthL_mem hy).1
/-! ### Look up -/
theorem lookK_none {c:Int}:∀{l:List Cr} {acc:Int},(∀x∈l,¬ (x.1=c/3∧x.2.1=c%3))→lookK c acc l=acc
 |[],acc,_=>rfl
 |x::l,acc,h=>by
  simp only[lookK]
  rw[if_neg (h x (by simp)),lookK_none fun y hy=>h y (by simp[hy])]
theorem look_out {c:Int}{us ks:List Int}(hc:c∉us)(acc:Int):lookK c acc (wthL us ks)=acc:=lookK_none fun x hx he=>by
 obtain⟨h1,h2,h3,-,-⟩:=wthL_mem hx
 have:cdC x=c:=by unfold cdC;omega
 exact hc (this▸h1)
theorem kinds_wthL:∀{us ks:List Int},asc us→ks.length=us.length→kindsL us (wthL us ks)=ks
 |[],ks,_,h=>by
  have:ks=[]:=List.length_eq_zero_iff.1 (by simpa using h)
  subst this;rfl
 |c::us,[],_,h=>by simp at h
 |c::us,k::ks,ha,h=>by
  obtain⟨h1,h2⟩:=asc_tail ha
  have ih:=kinds_wthL (us:=us) (ks:=ks) h1 (by simpa using h)
  have hc:c∉us:=fun hm=>by have:=h2 c hm;omega
  unfold kindsL at ih ⊢
  simp only[List.map_cons]
  congr 1
  ·simp only[wthL]
   split
   ·rename_i hk;rw[look_out hc,hk]
   ·simp only[lookK]
    rw[if_pos (by simp),look_out hc]
  ·refine Eq.trans (List.map_congr_left fun d hd=>?_) ih
   have hdc:c<d:=h2 d hd
   simp only[wthL]
   split
   ·rfl
   ·simp only[lookK]
    rw[if_neg (by omega)]
/-! ### Set -/
/-! ### The check -/
/-- Kinds of a sheet's units. -/
def kds (w h:Int)(ks:List Int):Prop:=ks.length=(units w h).length∧∀k∈ks,0≤k∧k≤3
/-- A pattern of kinds. -/
def vP (w h:Int)(l:List Cr):Prop:=∃ks,kds w h ks∧l=wthL (units w h) ks
theorem vP_mem {w h:Int}{l:List Cr}(hv:vP w h l){x:Cr}(hx:x∈l):cdC x∈units w h∧x.1=cdC x/3∧x.2.1=cdC x%3∧1≤x.2.2∧x.2.2≤3:=by
 obtain⟨ks,⟨h1,h2⟩,rfl⟩:=hv
 obtain⟨a,b,c,d,e⟩:=wthL_mem hx
 have:=h2 _ d
 exact⟨a,b,c,by omega,by omega⟩
theorem vP_edg {w h:Int}{l:List Cr}(hv:vP w h l):edg l:=fun x hx=>by
 obtain⟨-,-,h3,-,-⟩:=vP_mem hv hx
 omega
theorem vP_len {w h:Int}{l:List Cr}(hs:s5 w h)(hv:vP w h l):l.length≤300:=by
 obtain⟨ks,-,rfl⟩:=hv
 have:=wthL_len (units w h) ks
 have:=units_len hs
 omega
theorem units_mem {w h c:Int}(hs:s5 w h)(hc:c∈units w h):hasB w h (c/3)=true∧c/3<nbI w h (c/3) (c%3)∧0≤c:=by
 have h1:=unL_mem hc
 have:=s5_len hs
 have h3:((3*(4*w*h).toNat:Nat):Int)=3*(4*w*h):=by omega
 refine⟨hasB_iff.2 ⟨by omega,by omega⟩,?_,h1.1⟩
 have h2:=h1.2.2
 unfold unB at h2
 exact ltb_iff.1 h2
theorem units_of {w h c:Int}(hs:s5 w h)(h0:hasB w h (c/3)=true)(h1:c/3<nbI w h (c/3) (c%3)):c∈units w h:=by
 have:=s5_len hs
 have hb:=hasB_iff.1 h0
 unfold units unL
 rw[List.mem_filter,List.mem_map]
 refine⟨⟨c.toNat,List.mem_range.2 (by omega),?_⟩,?_⟩
 ·show((c.toNat:Nat):Int)=c
  omega
 ·unfold unB;exact ltb_iff.2 h1
theorem vP_unit {w h:Int}{l:List Cr}(hs:s5 w h)(hv:vP w h l){x:Cr}(hx:x∈l):unitB w h x=true:=by
 obtain⟨h1,h2,h3,h4,h5⟩:=vP_mem hv hx
 obtain⟨u1,u2,u3⟩:=units_mem hs h1
 rw[← h2,← h3]at u2
 rw[← h2]at u1
 unfold unitB okN okI
 rw[okS_of hs,u1]
 have hb:=hasB_iff.1 u1
 simp only[Bool.true_and,Bool.and_eq_true,decide_eq_true_eq,leb_iff]
 omega
theorem pw_asc:∀(l:List Cr),(∀x∈l,0≤x.2.1∧x.2.1≤2)→l.Pairwise (fun x y=>cdC x<cdC y)→ascB l=true
 |[],_,_=>rfl
 |[x],_,_=>rfl
 |x::y::r,he,h=>by
  have h1:=List.pairwise_cons.1 h
  have ih:=pw_asc (y::r) (fun z hz=>he z (by simp at hz ⊢; exact .inr hz)) h1.2
  have hxy:=(ord_cd (he x (by simp)) (he y (by simp))).1.2 (h1.1 y (by simp))
  simp only[ascB,Bool.and_eq_true]at ih ⊢
  exact⟨ltb_iff.2 hxy,ih⟩
theorem vP_pw {w h:Int}{l:List Cr}(hv:vP w h l):l.Pairwise (fun x y=>cdC x<cdC y):=by
 obtain⟨ks,-,rfl⟩:=hv
 exact wthL_pw (units_asc w h)
theorem vP_chk {w h:Int}{l:List Cr}(hs:s5 w h)(hv:vP w h l):chkI w h l=0:=by
 have h1:badL l=false:=by
  unfold badL
  rw[List.any_eq_false]
  intro x hx
  obtain⟨-,-,-,h4,h5⟩:=vP_mem hv hx
  rw[kdB_iff.2 ⟨h4,h5⟩];simp
 have h2:l.all (unitB w h)=true:=List.all_eq_true.2 fun x hx=>vP_unit hs hv hx
 have h3:ascB l=true:=pw_asc l (fun x hx=>by obtain⟨-,-,h3,-,-⟩:=vP_mem hv hx;omega) (vP_pw hv)
 unfold chkI
 rw[okS_of hs,h1,h2,h3];rfl
end Go.Proofs.YtfpcbimohikhmaaDoor.X

/-
 The plain law of patterns: what set and look up do to valid patterns.
-/
set_option maxRecDepth 1000000
set_option linter.unusedVariables false
set_option linter.unusedSimpArgs false
namespace Go.Proofs.YtfpcbimohikhmaaDoor.X
open Go Go.Ab

/-! ### A unit, named from either side -/
def beqI (a b:Int):Bool:=a==b
def invOk (w h i e:Int):Bool:=ltb (nbI w h i e) 0||(beqI (nbI w h (nbI w h i e) e) i&&(!beqI (nbI w h i e) i&&ltb (nbI w h i e) (4*w*h)))
theorem inv_all:overS 5 invOk=true:=by kernel_rfl
theorem inv_ok {w h i e:Int}(hs:s5 w h)(hb:hasB w h i=true)(he:0≤e∧e≤2)(hn:0≤nbI w h i e):nbI w h (nbI w h i e) e=i∧nbI w h i e≠i∧hasB w h (nbI w h i e)=true:=by
 obtain⟨s1,s2,s3,s4⟩:=id hs
 have h1:=overS_ok inv_all ⟨s1,s2⟩ ⟨s3,s4⟩ (hasB_iff.1 hb) he
 unfold invOk at h1
 simp only[Bool.or_eq_true,ltb_iff,Bool.and_eq_true,beqI,beq_iff_eq,Bool.not_eq_true',beq_eq_false_iff_ne,ne_eq]at h1
 rcases h1 with h1|⟨h1,h2,h3⟩
 ·omega
 ·exact⟨h1,h2,hasB_iff.2 ⟨hn,h3⟩⟩
/-- The code of the unit behind an edge. -/
def cod (w h i e:Int):Int:=3*min i (nbI w h i e)+e
theorem cod_mem {w h i e:Int}(hs:s5 w h)(hb:hasB w h i=true)(he:0≤e∧e≤2)(hn:0≤nbI w h i e):cod w h i e∈units w h:=by
 obtain⟨h1,h2,h3⟩:=inv_ok hs hb he hn
 have e1:cod w h i e/3=min i (nbI w h i e):=by unfold cod;omega
 have e2:cod w h i e%3=e:=by unfold cod;omega
 refine units_of hs ?_ ?_
 ·rw[e1]
  rcases Int.le_total i (nbI w h i e)with hle|hle
  ·rw[show min i (nbI w h i e)=i by omega];exact hb
  ·rw[show min i (nbI w h i e)=nbI w h i e by omega];exact h3
 ·rw[e1,e2]
  rcases Int.le_total i (nbI w h i e)with hle|hle
  ·rw[show min i (nbI w h i e)=i by omega];omega
  ·rw[show min i (nbI w h i e)=nbI w h i e by omega,h1];omega
theorem un_no {w h i e:Int}(hs:s5 w h)(he:0≤e∧e≤2)(hb:hasB w h i=true):(neE w h i e=0∨neE w h i e=7)∧(neE w h i e=0↔0≤nbI w h i e)∧(neE w h i e=7→unI w h i e= -1):=by
 have hok:okI w h i=true:=by unfold okI;rw[okS_of hs,hb];rfl
 unfold neE unI
 rw[hok,hb,decide_eq_true he.1,decide_eq_true he.2]
 simp only[cond_true,Bool.and_self,Bool.true_and]
 cases hl:leb 0 (nbI w h i e)with
 |true=>
  have:=leb_iff.1 hl
  simp[bI];omega
 |false=>
  have:=leb_no.1 hl
  simp[bI];omega
/-! ### Patterns of plain data -/
/-! ### The opposite -/
end Go.Proofs.YtfpcbimohikhmaaDoor.X
/-
 Least cells: numbers that pairs make equal.
-/
set_option maxRecDepth 1000000
set_option linter.unusedVariables false
set_option linter.unusedSimpArgs false
namespace Go.Proofs.YtfpcbimohikhmaaDoor.X
open Go Go.Ab

/-- Two numbers of a list become the smaller one of both. -/
def mg (l:List Nat)(a b:Nat):List Nat:=l.map (fun z=>if z=max (l.getD a 0) (l.getD b 0)then min (l.getD a 0) (l.getD b 0)else z)
def repF (l:List Nat)(ps:List (Nat×Nat)):List Nat:=ps.foldl (fun l p=>mg l p.1 p.2) l
def repL (n:Nat)(ps:List (Nat×Nat)):List Nat:=repF (List.range n) ps

/-- A set that no pair leaves. -/
def clo (ps:List (Nat×Nat))(S:Nat→Prop):Prop:=∀p∈ps,(S p.1↔S p.2)

structure Inv (n:Nat)(all:List (Nat×Nat))(l:List Nat):Prop where
 len:l.length=n
 le:∀i,i<n→l.getD i 0≤i
 idem:∀i,i<n→l.getD (l.getD i 0) 0=l.getD i 0
 cls:∀S,clo all S→∀i,i<n→(S i↔S (l.getD i 0))

theorem getD_map (f:Nat→Nat){l:List Nat}{i:Nat}(h:i<l.length):(l.map f).getD i 0=f (l.getD i 0):=by simp[List.getD,h]
theorem getD_mg {l:List Nat}{a b i:Nat}(h:i<l.length):(mg l a b).getD i 0=if l.getD i 0=max (l.getD a 0) (l.getD b 0)then min (l.getD a 0) (l.getD b 0)else l.getD i 0:=getD_map _ h

theorem Inv.mgI {n:Nat}{all:List (Nat×Nat)}{l:List Nat}(h:Inv n all l){a b:Nat}(ha:a<n)(hb:b<n)(hp:(a,b)∈all):Inv n all (mg l a b)∧(mg l a b).getD a 0=(mg l a b).getD b 0∧
  ∀i j,i<n→j<n→l.getD i 0=l.getD j 0→(mg l a b).getD i 0=(mg l a b).getD j 0:=by
 obtain⟨h1,h2,h3,h4⟩:=h
 have g:∀i,i<n→(mg l a b).getD i 0=if l.getD i 0=max (l.getD a 0) (l.getD b 0)then min (l.getD a 0) (l.getD b 0)else l.getD i 0:=fun i hi=>getD_mg (by omega)
 have ha2:=h2 a ha
 have hb2:=h2 b hb
 have ha3:=h3 a ha
 have hb3:=h3 b hb
 refine⟨⟨by simp[mg,h1],fun i hi=>?_,fun i hi=>?_,fun S hS i hi=>?_⟩,?_,fun i j hi hj e=>?_⟩
 ·rw[g i hi]
  have:=h2 i hi
  split<;>omega
 ·have hi2:=h2 i hi
  have hi3:=h3 i hi
  rw[g i hi]
  split
  ·rename_i e
   have hm:min (l.getD a 0) (l.getD b 0)<n:=by omega
   rw[g _ hm]
   have:l.getD (min (l.getD a 0) (l.getD b 0)) 0=min (l.getD a 0) (l.getD b 0):=by
    rcases Nat.le_total (l.getD a 0) (l.getD b 0)with q|q
    ·rw[Nat.min_eq_left q];exact ha3
    ·rw[Nat.min_eq_right q];exact hb3
   rw[this]
   split<;>rfl
  ·rename_i e
   rw[g _ (by omega),hi3,if_neg e]
 ·rw[g i hi]
  have hi4:=h4 S hS i hi
  split
  ·rename_i e
   have ha4:=h4 S hS a ha
   have hb4:=h4 S hS b hb
   have hab:=hS (a,b) hp
   simp only at hab
   rw[hi4,e]
   rcases Nat.le_total (l.getD a 0) (l.getD b 0)with q|q
   ·rw[Nat.max_eq_right q,Nat.min_eq_left q,← ha4,← hb4,hab]
   ·rw[Nat.max_eq_left q,Nat.min_eq_right q,← ha4,← hb4,hab]
  ·exact hi4
 ·rw[g a ha,g b hb]
  split<;>split<;>omega
 ·rw[g i hi,g j hj,e]

theorem repF_inv {n:Nat}{all:List (Nat×Nat)}:∀(ps done:List (Nat×Nat)) (l:List Nat),(∀p∈ps,p.1<n∧p.2<n∧p∈all)→(∀p∈done,p.1<n∧p.2<n)→Inv n all l→(∀p∈done,l.getD p.1 0=l.getD p.2 0)→
  Inv n all (repF l ps)∧∀p∈done++ps,(repF l ps).getD p.1 0=(repF l ps).getD p.2 0
 |[],done,l,h,hd0,hi,hd=>⟨hi,fun p hp=>hd p (by simpa using hp)⟩
 |(a,b)::r,done,l,h,hd0,hi,hd=>by
  obtain⟨ha,hb,hm⟩:=h (a,b) (by simp)
  obtain⟨q1,q2,q3⟩:=hi.mgI ha hb hm
  have:=repF_inv r (done++[(a,b)]) (mg l a b) (fun p hp=>h p (by simp[hp])) (fun p hp=>by
   rcases List.mem_append.1 hp with hp|hp
   ·exact hd0 p hp
   ·simp at hp;subst hp;exact⟨ha,hb⟩) q1 (fun p hp=>by
   rcases List.mem_append.1 hp with hp|hp
   ·exact q3 _ _ (hd0 p hp).1 (hd0 p hp).2 (hd p hp)
   ·simp at hp;subst hp;exact q2)
  simpa[repF]using this

theorem inv0 (n:Nat)(all:List (Nat×Nat)):Inv n all (List.range n):=by
 have g:∀i,i<n→(List.range n).getD i 0=i:=fun i hi=>by simp[List.getD,hi]
 refine⟨by simp,fun i hi=>by rw[g i hi];exact Nat.le_refl _,fun i hi=>by rw[g i hi,g i hi],fun S _ i hi=>by rw[g i hi]⟩

/-- The least cells: of which one of all pairs' ends each is. -/
structure Rep (n:Nat)(ps:List (Nat×Nat))(l:List Nat):Prop where
 inv:Inv n ps l
 eq:∀p∈ps,l.getD p.1 0=l.getD p.2 0
theorem rep_ok {n:Nat}{ps:List (Nat×Nat)}(h:∀p∈ps,p.1<n∧p.2<n):Rep n ps (repL n ps):=by
 obtain⟨h1,h2⟩:=repF_inv (all:=ps) ps [] (List.range n) (fun p hp=>⟨(h p hp).1,(h p hp).2,hp⟩) (fun p hp=>by simp at hp) (inv0 n ps) (fun p hp=>by simp at hp)
 exact⟨h1,fun p hp=>h2 p (by simpa using hp)⟩

/-- A closed set that holds one of a class holds all. -/
theorem Rep.all {n:Nat}{ps:List (Nat×Nat)}{l:List Nat}(h:Rep n ps l){S:Nat→Prop}(hS:clo ps S){i j:Nat}(hi:i<n)(hj:j<n)(e:l.getD i 0=l.getD j 0)(hs:S i):S j:=by
 rw[h.inv.cls S hS j hj,← e,← h.inv.cls S hS i hi];exact hs

/-- Least cells are told by what they are. -/
theorem Rep.uniq {n:Nat}{ps:List (Nat×Nat)}{l m:List Nat}(h:Rep n ps l)(hlen:m.length=n)(hle:∀i,i<n→m.getD i 0≤i)(hcls:∀S,clo ps S→∀i,i<n→(S i↔S (m.getD i 0)))
  (heq:∀p∈ps,m.getD p.1 0=m.getD p.2 0):m=l:=by
 refine List.ext_getElem (by rw[hlen,h.inv.len]) (fun i h1 h2=>?_)
 have hi:i<n:=by omega
 have e1:m[i]=m.getD i 0:=by simp[List.getD,h1]
 have e2:l[i]=l.getD i 0:=by simp[List.getD,h2]
 rw[e1,e2]
 have hl:=h.inv.le i hi
 have hm:=hle i hi
 -- m is constant on classes
 have a1:m.getD i 0≤l.getD i 0:=by
  have hc:clo ps (fun j=>m.getD j 0=m.getD i 0):=fun p hp=>by show m.getD p.1 0=_↔m.getD p.2 0=_;rw[heq p hp]
  have:=h.all hc hi (show l.getD i 0<n by omega) (h.inv.idem i hi).symm rfl
  rw[← this];exact hle _ (by omega)
 have a2:l.getD i 0≤m.getD i 0:=by
  have hc:clo ps (fun j=>l.getD j 0=l.getD i 0):=fun p hp=>by show l.getD p.1 0=_↔l.getD p.2 0=_;rw[h.eq p hp]
  have:=(hcls _ hc i hi).1 rfl
  rw[← this];exact h.inv.le _ (by omega)
 omega

/-- Which number the class of a least cell has: how many least cells come before. -/
def rk (l:List Nat):Nat→Nat
 |0=>0
 |k+1=>rk l k+(if l.getD k 0=k then 1 else 0)
def labL (l:List Nat):List Nat:=l.map (rk l)
theorem rk_mono {l:List Nat}:∀{a b:Nat},a≤b→rk l a≤rk l b
 |a,0,h=>by
  have:a=0:=by omega
  subst this;exact Nat.le_refl _
 |a,b+1,h=>by
  by_cases e:a=b+1
  ·subst e;exact Nat.le_refl _
  ·have:=rk_mono (l:=l) (show a≤b by omega)
   simp only[rk];omega
theorem rk_lt {l:List Nat}{a b:Nat}(ha:l.getD a 0=a)(h:a<b):rk l a<rk l b:=by
 have:=rk_mono (l:=l) (show a+1≤b from h)
 simp only[rk,ha,if_true]at this
 omega
theorem rk_le (l:List Nat):∀k,rk l k≤k
 |0=>Nat.le_refl _
 |k+1=>by have:=rk_le l k;simp only[rk];split<;>omega
end Go.Proofs.YtfpcbimohikhmaaDoor.X
/-
 Faces, plainly: the least cell of each, their numbers; a face gathered cell by cell.
-/
set_option maxRecDepth 1000000
set_option linter.unusedVariables false
set_option linter.unusedSimpArgs false
namespace Go.Proofs.YtfpcbimohikhmaaDoor.X
open Go Go.Ab

/-- Is there a crease on a unit? -/
def crB (l:List Cr)(c:Int):Bool:=l.any fun x=>x.1==c/3&&x.2.1==c%3
def opnU (w h:Int)(l:List Cr):List Int:=(units w h).filter fun c=> !crB l c
def prF (w h c:Int):Nat×Nat:=((c/3).toNat,(nbI w h (c/3) (c%3)).toNat)
def prs (w h:Int)(l:List Cr):List (Nat×Nat):=(opnU w h l).map (prF w h)
def nC (w h:Int):Nat:=(4*w*h).toNat
/-- The least cell of each cell's face. -/
def repP (w h:Int)(l:List Cr):List Nat:=repL (nC w h) (prs w h l)
def rP (w h:Int)(l:List Cr)(i:Nat):Nat:=(repP w h l).getD i 0
/-- The number of the face whose least cell it is; how many faces begin before. -/
def kP (w h:Int)(l:List Cr)(i:Nat):Int:=(rk (repP w h l) i:Nat)
/-- The faces of the cells. -/
def facL (w h:Int)(l:List Cr):List Int:=(labL (repP w h l)).map fun n:Nat=>(n:Int)
theorem cod_div {w h i e:Int}(he:0≤e∧e≤2):cod w h i e/3=min i (nbI w h i e)∧cod w h i e%3=e:=by unfold cod;omega
theorem prs_ok {w h:Int}{l:List Cr}(hs:s5 w h):∀p∈prs w h l,p.1<nC w h∧p.2<nC w h:=by
 intro p hp
 unfold prs opnU at hp
 obtain⟨c,hc,rfl⟩:=List.mem_map.1 hp
 have hc:=(List.mem_filter.1 hc).1
 obtain⟨u1,u2,u3⟩:=units_mem hs hc
 obtain⟨i1,i2,i3⟩:=inv_ok hs u1 ⟨by omega,by omega⟩ (show 0≤nbI w h (c/3) (c%3)by have:=(hasB_iff.1 u1).1;omega)
 have b1:=hasB_iff.1 u1
 have b3:=hasB_iff.1 i3
 unfold prF nC
 omega
theorem rep_P {w h:Int}(hs:s5 w h)(l:List Cr):Rep (nC w h) (prs w h l) (repP w h l):=rep_ok (prs_ok hs)
/-- Open neighbours have the same least cell. -/
theorem adj_rep {w h:Int}{l:List Cr}{i e:Int}(hs:s5 w h)(hb:hasB w h i=true)(he:0≤e∧e≤2)(hn:0≤nbI w h i e)(hc:crB l (cod w h i e)=false):rP w h l i.toNat=rP w h l (nbI w h i e).toNat:=by
 have hm:prF w h (cod w h i e)∈prs w h l:=List.mem_map.2 ⟨_,List.mem_filter.2 ⟨cod_mem hs hb he hn,by rw[hc];rfl⟩,rfl⟩
 have h1:=(rep_P hs l).eq _ hm
 obtain⟨d1,d2⟩:=cod_div (w:=w) (h:=h) (i:=i) he
 obtain⟨i1,i2,i3⟩:=inv_ok hs hb he hn
 unfold prF at h1
 rw[d1,d2]at h1
 simp only at h1
 unfold rP
 rcases Int.le_total i (nbI w h i e)with hle|hle
 ·rw[show min i (nbI w h i e)=i by omega]at h1;exact h1
 ·rw[show min i (nbI w h i e)=nbI w h i e by omega,i1]at h1;exact h1.symm
/-- A set that no open neighbour leaves. -/
theorem clo_of {w h:Int}{l:List Cr}(hs:s5 w h){S:Nat→Prop}(hS:∀i e:Int,hasB w h i=true→0≤e∧e≤2→0≤nbI w h i e→crB l (cod w h i e)=false→S i.toNat→S (nbI w h i e).toNat):clo (prs w h l) S:=by
 intro p hp
 unfold prs opnU at hp
 obtain⟨c,hc,rfl⟩:=List.mem_map.1 hp
 obtain⟨hc,hcr⟩:=List.mem_filter.1 hc
 have hcr:crB l c=false:=by simpa using hcr
 obtain⟨u1,u2,u3⟩:=units_mem hs hc
 have he:0≤c%3∧c%3≤2:=by omega
 have hn:0≤nbI w h (c/3) (c%3):=by have:=(hasB_iff.1 u1).1;omega
 obtain⟨i1,i2,i3⟩:=inv_ok hs u1 he hn
 have e1:cod w h (c/3) (c%3)=c:=by unfold cod;omega
 have e2:cod w h (nbI w h (c/3) (c%3)) (c%3)=c:=by unfold cod;rw[i1];omega
 refine⟨fun h1=>hS _ _ u1 he hn (by rw[e1];exact hcr) h1,fun h1=>?_⟩
 have:=hS _ _ i3 he (by rw[i1];exact(hasB_iff.1 u1).1) (by rw[e2];exact hcr) h1
 rw[i1]at this;exact this

/-! ### Gathering -/
def gI (out:List Int)(i:Nat):Int:=out[i]?.getD 0
theorem gI_set {out:List Int}{i j:Nat}{x:Int}(h:i<out.length):gI (out.set i x) j=if j=i then x else gI out j:=by
 unfold gI
 by_cases e:j=i
 ·subst e;rw[if_pos rfl,List.getElem?_set_self h];rfl
 ·rw[if_neg e,List.getElem?_set_ne (Ne.symm e)]
theorem kP_nn (w h:Int)(l:List Cr)(i:Nat):0≤kP w h l i:=Int.natCast_nonneg _
/-- All faces that begin before a cell have their numbers. -/
structure LabT (w h:Int)(l:List Cr)(m:Nat)(out:List Int):Prop where
 len:out.length=nC w h
 lt:∀i,i<nC w h→rP w h l i<m→gI out i=kP w h l (rP w h l i)
 ge:∀i,i<nC w h→m≤rP w h l i→gI out i= -1
/-- A face is being gathered. -/
structure GI (w h:Int)(l:List Cr)(m:Nat)(out q:List Int)(cur k:Int):Prop where
 len:out.length=nC w h
 lt:∀i,i<nC w h→rP w h l i<m→gI out i=kP w h l (rP w h l i)
 gt:∀i,i<nC w h→m<rP w h l i→gI out i= -1
 eq:∀i,i<nC w h→rP w h l i=m→gI out i= -1∨gI out i=kP w h l m
 mN:m<nC w h
 own:gI out m=kP w h l m
 rm:rP w h l m=m
 que:∀c∈q,∃i:Nat,c=i∧i<nC w h∧rP w h l i=m∧gI out i=kP w h l m
 done:∀i:Nat,i<nC w h→rP w h l i=m→gI out i=kP w h l m→(i:Int)∈q∨∀e:Int,0≤e→e≤2→((i:Int)=cur→e<k)→0≤nbI w h i e→crB l (cod w h i e)=false→gI out (nbI w h i e).toNat=kP w h l m
theorem nC_has {w h:Int}{i:Nat}(hs:s5 w h)(hi:i<nC w h):hasB w h (i:Int)=true:=by
 have:=s5_len hs
 unfold nC at hi
 exact hasB_iff.2 ⟨by omega,by omega⟩
theorem has_nC {w h i:Int}(hb:hasB w h i=true):i.toNat<nC w h∧((i.toNat:Nat):Int)=i:=by
 have:=hasB_iff.1 hb
 unfold nC;omega
theorem GI.start {w h:Int}{l:List Cr}{m:Nat}{out:List Int}(h0:LabT w h l m out)(hm:m<nC w h)(hr:rP w h l m=m)(cur:Int):GI w h l m (out.set m (kP w h l m)) [(m:Int)] cur 3:=by
 obtain⟨h1,h2,h3⟩:=h0
 have g:∀j,gI (out.set m (kP w h l m)) j=if j=m then kP w h l m else gI out j:=fun j=>gI_set (by omega)
 refine⟨by simp[h1],fun i hi hlt=>?_,fun i hi hgt=>?_,fun i hi he=>?_,hm,by rw[g,if_pos rfl],hr,fun c hc=>?_,fun i hi he hF=>?_⟩
 ·rw[g,if_neg (fun e=>by subst e;omega)];exact h2 i hi hlt
 ·rw[g,if_neg (fun e=>by subst e;omega)];exact h3 i hi (by omega)
 ·rw[g];split
  ·exact .inr rfl
  ·exact .inl (h3 i hi (by omega))
 ·simp at hc
  exact⟨m,hc,hm,hr,by rw[g,if_pos rfl]⟩
 ·rw[g]at hF
  split at hF
  ·rename_i e;subst e;exact .inl (by simp)
  ·have:=h3 i hi (by omega)
   have:=kP_nn w h l m
   omega
theorem GI.pop {w h:Int}{l:List Cr}{m:Nat}{out q:List Int}{c cur:Int}(hg:GI w h l m out (c::q) cur 3):GI w h l m out q c 0:=by
 obtain⟨h1,h2,h3,h4,h5,h6,h7,h8,h9⟩:=hg
 refine⟨h1,h2,h3,h4,h5,h6,h7,fun c hc=>h8 c (by simp[hc]),fun i hi he hF=>?_⟩
 rcases h9 i hi he hF with hq|hq
 ·rcases List.mem_cons.1 hq with rfl|hq
  ·exact .inr fun e e0 e2 hlt=>absurd (hlt rfl) (by omega)
  ·exact .inl hq
 ·exact .inr fun e e0 e2 hlt=>hq e e0 e2 (fun _=>by omega)
theorem GI.skip {w h:Int}{l:List Cr}{m:Nat}{out q:List Int}{c k:Int}(hs:s5 w h)(hg:GI w h l m out q c k)(hk:0≤k∧k≤2)(hc:hasB w h c=true)(hrc:rP w h l c.toNat=m)
  (hno:0≤nbI w h c k→crB l (cod w h c k)=false→0≤gI out (nbI w h c k).toNat):GI w h l m out q c (k+1):=by
 obtain⟨h1,h2,h3,h4,h5,h6,h7,h8,h9⟩:=hg
 refine⟨h1,h2,h3,h4,h5,h6,h7,h8,fun i hi he hF=>?_⟩
 rcases h9 i hi he hF with hq|hq
 ·exact .inl hq
 ·refine .inr fun e e0 e2 hlt hn hcr=>?_
  by_cases hic:(i:Int)=c∧e=k
  ·obtain⟨rfl,rfl⟩:=hic
   have h10:=hno hn hcr
   have h11:=adj_rep hs hc ⟨e0,e2⟩ hn hcr
   obtain⟨_,_,i3⟩:=inv_ok hs hc ⟨e0,e2⟩ hn
   have h12:=h4 _ (has_nC i3).1 (h11.symm.trans hrc)
   omega
  ·exact hq e e0 e2 (fun e1=>by have:=hlt e1;rcases Int.lt_or_eq_of_le (show e≤k by omega)with q|q;exact q;exact absurd ⟨e1,q⟩ hic) hn hcr
theorem GI.mark {w h:Int}{l:List Cr}{m:Nat}{out q:List Int}{c k:Int}(hs:s5 w h)(hg:GI w h l m out q c k)(hk:0≤k∧k≤2)(hc:hasB w h c=true)(hrc:rP w h l c.toNat=m)
  (hn:0≤nbI w h c k) (hcr:crB l (cod w h c k)=false) (hlt0:gI out (nbI w h c k).toNat<0):GI w h l m (out.set (nbI w h c k).toNat (kP w h l m)) (q++[nbI w h c k]) c (k+1):=by
 obtain⟨h1,h2,h3,h4,h5,h6,h7,h8,h9⟩:=hg
 have h11:=adj_rep hs hc hk hn hcr
 obtain⟨_,_,i3⟩:=inv_ok hs hc hk hn
 obtain⟨n1,n2⟩:=has_nC i3
 generalize (nbI w h c k).toNat=n at*
 have hrn:rP w h l n=m:=h11.symm.trans hrc
 have hk0:=kP_nn w h l m
 have g:∀j,gI (out.set n (kP w h l m)) j=if j=n then kP w h l m else gI out j:=fun j=>gI_set (by omega)
 refine⟨by simp[h1],fun i hi hlt=>?_,fun i hi hgt=>?_,fun i hi he=>?_,h5,?_,h7,fun c' hc'=>?_,fun i hi he hF=>?_⟩
 ·rw[g,if_neg (fun e=>by subst e;omega)];exact h2 i hi hlt
 ·rw[g,if_neg (fun e=>by subst e;omega)];exact h3 i hi hgt
 ·rw[g];split
  ·exact .inr rfl
  ·exact h4 i hi he
 ·rw[g];split
  ·rfl
  ·exact h6
 ·rcases List.mem_append.1 hc' with hc'|hc'
  ·obtain⟨i,q1,q2,q3,q4⟩:=h8 c' hc'
   refine⟨i,q1,q2,q3,?_⟩
   rw[g];split
   ·rfl
   ·exact q4
  ·simp at hc'
   exact⟨n,by omega,n1,hrn,by rw[g,if_pos rfl]⟩
 ·by_cases hin:i=n
  ·subst hin;exact .inl (by simp[← n2])
  ·rw[g,if_neg hin]at hF
   rcases h9 i hi he hF with hq|hq
   ·exact .inl (by simp[hq])
   ·refine .inr fun e e0 e2 hlt hn' hcr'=>?_
    rw[g]
    split
    ·rfl
    ·rename_i hne
     by_cases hic:(i:Int)=c∧e=k
     ·obtain⟨rfl,rfl⟩:=hic
      exact absurd (by omega) hne
     ·exact hq e e0 e2 (fun e1=>by have:=hlt e1;rcases Int.lt_or_eq_of_le (show e≤k by omega)with q|q;exact q;exact absurd ⟨e1,q⟩ hic) hn' hcr'
/-- The face is whole. -/
theorem GI.fin {w h:Int}{l:List Cr}{m:Nat}{out:List Int}{cur:Int}(hs:s5 w h)(hg:GI w h l m out [] cur 3):LabT w h l (m+1) out:=by
 obtain⟨h1,h2,h3,h4,h5,h6,h7,h8,h9⟩:=hg
 have hR:=rep_P hs l
 have hS:clo (prs w h l) (fun i=>i<nC w h∧rP w h l i=m∧gI out i=kP w h l m):=clo_of hs fun i e hb he hn hcr h=>by
  obtain⟨_,_,i3⟩:=inv_ok hs hb he hn
  obtain⟨b1,b2⟩:=has_nC hb
  obtain⟨q1,q2,q3⟩:=h
  refine⟨(has_nC i3).1,?_,?_⟩
  ·rw[← adj_rep hs hb he hn hcr];exact q2
  ·rcases h9 _ q1 q2 q3 with hq|hq
   ·simp at hq
   ·rw[b2]at hq
    exact hq e he.1 he.2 (fun _=>by omega) hn hcr
 refine⟨h1,fun i hi hlt=>?_,fun i hi hge=>h3 i hi (by omega)⟩
 by_cases hlt':rP w h l i<m
 ·exact h2 i hi hlt'
 ·have he:rP w h l i=m:=by omega
  rw[he]
  exact(hR.all hS h5 hi (show rP w h l m=rP w h l i by rw[h7,he]) ⟨h5,h7,h6⟩).2.2
/-- A cell that has its number already. -/
theorem LabT.next {w h:Int}{l:List Cr}{m:Nat}{out:List Int}(hs:s5 w h)(hL:LabT w h l m out)(hm:m<nC w h)(hr:rP w h l m≠m):LabT w h l (m+1) out:=by
 have hR:=rep_P hs l
 have key:∀i,i<nC w h→rP w h l i≠m:=fun i hi e=>by
  have:=hR.inv.idem i hi
  unfold rP at e hr
  rw[e]at this;exact hr this
 exact⟨hL.len,fun i hi hlt=>hL.lt i hi (by have:=key i hi;omega),fun i hi hge=>hL.ge i hi (by omega)⟩
theorem LabT.neg {w h:Int}{l:List Cr}{m:Nat}{out:List Int}(hs:s5 w h)(hL:LabT w h l m out)(hm:m<nC w h):gI out m<0↔rP w h l m=m:=by
 have h1:rP w h l m≤m:=(rep_P hs l).inv.le m hm
 constructor
 ·intro hn
  by_cases hlt:rP w h l m<m
  ·have:=hL.lt m hm hlt
   have:=kP_nn w h l (rP w h l m)
   omega
  ·omega
 ·intro e
  have:=hL.ge m hm (by omega)
  omega
theorem LabT.zero {w h:Int}(l:List Cr):LabT w h l 0 (List.replicate (nC w h) (-1)):=
 ⟨by simp,fun i hi hlt=>by omega,fun i hi _=>by unfold gI;simp[hi]⟩
theorem kP_next (w h:Int)(l:List Cr)(m:Nat):kP w h l (m+1)=kP w h l m+(if rP w h l m=m then 1 else 0):=by
 unfold kP rP
 simp only[rk]
 split<;>simp
theorem LabT.all {w h:Int}{l:List Cr}{out:List Int}(hs:s5 w h)(hL:LabT w h l (nC w h) out):out=facL w h l:=by
 have hR:=rep_P hs l
 have hl:(facL w h l).length=nC w h:=by simp[facL,labL,hR.inv.len]
 refine List.ext_getElem (by rw[hL.len,hl]) (fun i h1 h2=>?_)
 have hi:i<nC w h:=by rw[← hL.len];exact h1
 have h3:=hL.lt i hi (Nat.lt_of_le_of_lt (hR.inv.le i hi) hi)
 have h4:gI out i=out[i]:=by unfold gI;rw[List.getElem?_eq_getElem h1];rfl
 rw[← h4,h3]
 have h5:i<(repP w h l).length:=by rw[hR.inv.len];exact hi
 have h6:rP w h l i=(repP w h l)[i]:=by unfold rP;simp[List.getD,h5]
 simp only[facL,labL,List.getElem_map,kP,h6]
/-- The numbers so far. -/
def labF (w h:Int)(l:List Cr)(m:Nat):List Int:=(List.range (nC w h)).map fun i=>if rP w h l i<m then kP w h l (rP w h l i)else -1
theorem gI_labF {w h:Int}{l:List Cr}{m i:Nat}(hi:i<nC w h):gI (labF w h l m) i=if rP w h l i<m then kP w h l (rP w h l i)else -1:=by
 unfold gI labF
 rw[List.getElem?_map,List.getElem?_range hi];rfl
theorem labF_len (w h:Int)(l:List Cr)(m:Nat):(labF w h l m).length=nC w h:=by simp[labF]
theorem labT_F (w h:Int)(l:List Cr)(m:Nat):LabT w h l m (labF w h l m):=
 ⟨labF_len w h l m,fun i hi hlt=>by rw[gI_labF hi,if_pos hlt],fun i hi hge=>by rw[gI_labF hi,if_neg (by omega)]⟩
theorem LabT.eqF {w h:Int}{l:List Cr}{m:Nat}{out:List Int}(hL:LabT w h l m out):out=labF w h l m:=by
 refine List.ext_getElem (by rw[hL.len,labF_len]) (fun i h1 h2=>?_)
 have hi:i<nC w h:=by rw[← hL.len];exact h1
 have g:∀(o:List Int) (q:i<o.length),o[i]=gI o i:=fun o q=>by unfold gI;rw[List.getElem?_eq_getElem q];rfl
 rw[g _ h1,g _ h2,gI_labF hi]
 split
 ·rename_i hlt;exact hL.lt i hi hlt
 ·rename_i hge;exact hL.ge i hi (by omega)
theorem labF_zero (w h:Int)(l:List Cr):labF w h l 0=List.replicate (nC w h) (-1):=(LabT.zero l).eqF.symm
theorem labF_all {w h:Int}(l:List Cr)(hs:s5 w h):labF w h l (nC w h)=facL w h l:=(labT_F w h l _).all hs
end Go.Proofs.YtfpcbimohikhmaaDoor.X
