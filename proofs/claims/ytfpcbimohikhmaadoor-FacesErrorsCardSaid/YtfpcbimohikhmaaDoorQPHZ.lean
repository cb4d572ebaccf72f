/-
 Joints, plainly: counted in a map, listed in order.
-/
import Derived.Test.YtfpcbimohikhmaaDoorQYC6Z
import Derived.Test.YtfpcbimohikhmaaDoorQPJZ
set_option maxRecDepth 1000000
set_option linter.unusedVariables false
set_option linter.unusedSimpArgs false
namespace Go.Proofs.YtfpcbimohikhmaaDoor.X
open Go Go.Ab

theorem vP_cr {w h:Int}{l:List Cr}(hs:s5 w h)(hv:vP w h l){x:Cr}(hx:x∈l):hasB w h x.1=true∧0≤x.2.1∧x.2.1≤2∧0≤nbI w h x.1 x.2.1∧nbI w h x.1 x.2.1<4*w*h∧okN w h x.1 x.2.1=true:=by
 obtain⟨m1,m2,m3,m4,m5⟩:=vP_mem hv hx
 obtain⟨u1,u2,u3⟩:=units_mem hs m1
 rw[← m2,← m3]at u2
 rw[← m2]at u1
 have hb:=hasB_iff.1 u1
 have he:0≤x.2.1∧x.2.1≤2:=by omega
 have hn:0≤nbI w h x.1 x.2.1:=by omega
 obtain⟨i1,i2,i3⟩:=inv_ok hs u1 he hn
 have hb3:=hasB_iff.1 i3
 refine⟨u1,he.1,he.2,hn,hb3.2,?_⟩
 unfold okN okI
 rw[okS_of hs,u1,decide_eq_true he.2]
 simpa using hn
theorem flJ_row (x:Jt):([AV.int .i64 x.1,.int .i64 x.2.1,.int .i64 x.2.2]:List AV).length=3:=rfl
theorem flJ_len (L:List Jt):(flJ L).length=L.length*3:=by
 induction L with
 |nil=>rfl
 |cons x r ih=>
  unfold flJ at ih ⊢
  rw[List.flatMap_cons,List.length_append,ih];simp;omega
theorem flJ_app (a b:List Jt):flJ (a++b)=flJ a++flJ b:=by unfold flJ;rw[List.flatMap_append]
theorem jget {L:List Jt}{n:Nat}(h:n<L.length):(List.drop (n*3) (flJ L))[0]? =some (.int .i64 (L[n]?.getD (0,0,0)).1)∧(List.drop (n*3) (flJ L))[1]? =some (.int .i64 (L[n]?.getD (0,0,0)).2.1)∧(List.drop (n*3) (flJ L))[2]? =some (.int .i64 (L[n]?.getD (0,0,0)).2.2):=by
 unfold flJ
 simp only[List.getElem?_drop]
 rw[flatMap_row (k:=3) (by decide) flJ_row,flatMap_row (k:=3) (by decide) flJ_row,flatMap_row (k:=3) (by decide) flJ_row]
 rw[show(n*3+0)/3=n by omega,show(n*3+1)/3=n by omega,show(n*3+2)/3=n by omega,show(n*3+0)%3=0 by omega,show(n*3+1)%3=1 by omega,show(n*3+2)%3=2 by omega,List.getElem?_eq_getElem h]
 exact⟨rfl,rfl,rfl⟩
theorem unJ_flJ:∀(L:List Jt),unJ (flJ L)=L
 |[]=>rfl
 |(a,b,u)::r=>by
  have ih:=unJ_flJ r
  show(a,b,u)::unJ (flJ r)=_
  rw[ih]
theorem okJ_flJ {L:List Jt}(h:L.length<1000000000):okJ (flJ L) L.length:=by
 unfold okJ;rw[unJ_flJ];exact⟨rfl,rfl,h⟩
/-! ### The map -/
theorem grF_snoc (w h:Int)(F:List Int)(l:List Cr)(c:Cr):grF w h F (l++[c])=grS w h F (grF w h F l) c:=by
 unfold grF;rw[List.foldl_append];rfl
theorem snoc_ind {α:Type}{P:List α→Prop}(h0:P [])(h1:∀l a,P l→P (l++[a]))(l:List α):P l:=by
 have:∀n,∀l:List α,l.length=n→P l:=by
  intro n
  induction n with
  |zero=>intro l hl;rw[List.length_eq_zero_iff.1 hl];exact h0
  |succ n ih=>
   intro l hl
   have hne:l≠[]:=fun e=>by rw[e]at hl;simp at hl
   rw[← List.dropLast_concat_getLast hne]
   exact h1 _ _ (ih _ (by simp[hl]))
 exact this _ l rfl
theorem grF_wf (w h:Int)(F:List Int)(l:List Cr):WfE (grF w h F l).1 (grF w h F l).2:=by
 refine snoc_ind (P:=fun l=>WfE (grF w h F l).1 (grF w h F l).2) (WfE.nil 0) (fun l a ih=>?_) l
 rw[grF_snoc];exact ih.put _ _
theorem cntJ_snoc (w h:Int)(F:List Int)(l:List Cr)(c:Cr)(a b:Int):cntJ w h F (l++[c]) a b=cntJ w h F l a b+(if prJ w h F c=(a,b)then 1 else 0):=by
 unfold cntJ
 rw[List.countP_append]
 by_cases h1:prJ w h F c=(a,b)<;>simp[h1]
theorem grF_get (w h:Int)(F:List Int)(l:List Cr)(a b:Int):mget (grF w h F l).1 [a,b]=if 0<cntJ w h F l a b then some [(cntJ w h F l a b:Int)]else none:=by
 refine snoc_ind (P:=fun l=>∀a b:Int,mget (grF w h F l).1 [a,b]=if 0<cntJ w h F l a b then some [(cntJ w h F l a b:Int)]else none) (fun a b=>rfl) (fun l c ih a b=>?_) l a b
 rw[grF_snoc,cntJ_snoc]
 unfold grS
 simp only
 rw[mget_put]
 unfold grV grK
 rw[ih]
 have hk:([a,b]=[loA w h F c,hiA w h F c])↔prJ w h F c=(a,b):=by
  unfold prJ
  simp only[List.cons.injEq,and_true,Prod.mk.injEq]
  exact⟨fun h=>⟨h.1.symm,h.2.symm⟩,fun h=>⟨h.1.symm,h.2.symm⟩⟩
 by_cases h1:prJ w h F c=(a,b)
 ·rw[if_pos (hk.2 h1),if_pos h1,if_pos (show 0<cntJ w h F l a b+1 from Nat.succ_pos _)]
  have e1:loA w h F c=a:=(Prod.mk.inj h1).1
  have e2:hiA w h F c=b:=(Prod.mk.inj h1).2
  rw[e1,e2]
  by_cases h2:0<cntJ w h F l a b
  ·simp[h2]
  ·have:cntJ w h F l a b=0:=by omega
   simp[this]
 ·rw[if_neg (fun q=>h1 (hk.1 q)),if_neg h1,ih,Nat.add_zero]
theorem put_key {k v:List Int}{c:Nat}:∀{es:List Ent3} {e:Ent3},e∈mput es k v c→e.1=k∨∃e0∈es,e0.1=e.1
 |[],e,he=>by simp[mput]at he;rw[he];exact .inl rfl
 |d::r,e,he=>by
  simp only[mput,cond_eq_ite,decide_eq_true_eq]at he
  by_cases h2:k=d.1
  ·rw[if_pos h2]at he
   rcases List.mem_cons.1 he with rfl|he
   ·exact .inl rfl
   ·exact .inr ⟨e,by simp[he],rfl⟩
  ·rw[if_neg h2]at he
   rcases List.mem_cons.1 he with rfl|he
   ·exact .inr ⟨e,by simp,rfl⟩
   ·rcases put_key he with h3|⟨e0,h3,h4⟩
    ·exact .inl h3
    ·exact .inr ⟨e0,by simp[h3],h4⟩
theorem grF_key (w h:Int)(F:List Int)(l:List Cr):∀e∈(grF w h F l).1,∃c∈l,e.1=grK w h F c:=by
 refine snoc_ind (P:=fun l=>∀e∈(grF w h F l).1,∃c∈l,e.1=grK w h F c) (fun e he=>by simp[grF]at he) (fun l c ih e he=>?_) l
 rw[grF_snoc]at he
 rcases put_key he with h1|⟨e0,h1,h2⟩
 ·exact⟨c,by simp,h1⟩
 ·obtain⟨c0,h3,h4⟩:=ih e0 h1
  exact⟨c0,by simp[h3],by rw[← h2];exact h4⟩
/-- The map's entries. -/
theorem grF_ent {w h:Int}{F:List Int}{l:List Cr}{e:Ent3}(he:e∈(grF w h F l).1):∃c∈l,entJ e=(loA w h F c,hiA w h F c,(cntJ w h F l (loA w h F c) (hiA w h F c):Int))∧e.1=[loA w h F c,hiA w h F c]∧0<cntJ w h F l (loA w h F c) (hiA w h F c):=by
 obtain⟨c,hc,hk⟩:=grF_key w h F l e he
 have hk:e.1=[loA w h F c,hiA w h F c]:=hk
 have hg:=(grF_wf w h F l).get he
 rw[hk,grF_get]at hg
 by_cases h2:0<cntJ w h F l (loA w h F c) (hiA w h F c)
 ·rw[if_pos h2]at hg
  have hg:=(Option.some.inj hg).symm
  refine⟨c,hc,?_,hk,h2⟩
  unfold entJ
  rw[hk,hg];rfl
 ·rw[if_neg h2]at hg;cases hg
theorem grF_mem {w h:Int}{F:List Int}{l:List Cr}{x:Jt}:x∈(grF w h F l).1.map entJ↔0<cntJ w h F l x.1 x.2.1∧x.2.2=(cntJ w h F l x.1 x.2.1:Int):=by
 constructor
 ·intro hx
  obtain⟨e,he,rfl⟩:=List.mem_map.1 hx
  obtain⟨c,hc,h1,h2,h3⟩:=grF_ent he
  rw[h1];exact⟨h3,rfl⟩
 ·rintro⟨h1,h2⟩
  have hg:=grF_get w h F l x.1 x.2.1
  rw[if_pos h1]at hg
  obtain⟨b,hb⟩:=WfE.mem hg
  exact List.mem_map.2 ⟨_,hb,by obtain⟨x1,x2,x3⟩:=x;simp only at h2;simp[entJ,h2]⟩
/-! ### The list -/
theorem mem_jnR {w h:Int}{F:List Int}{l:List Cr}{a b:Nat}{x:Jt}:x∈jnR w h F l a b↔∃c:Nat,a≤c∧c<b∧0<cntJ w h F l a c∧x=((a:Int),(c:Int),(cntJ w h F l a c:Int)):=by
 unfold jnR
 rw[List.mem_filterMap]
 constructor
 ·rintro⟨c,h1,h2⟩
  rw[List.mem_range'_1]at h1
  split at h2
  ·cases h2;exact⟨c,h1.1,by omega,by assumption,rfl⟩
  ·cases h2
 ·rintro⟨c,h1,h2,h3,rfl⟩
  exact⟨c,by rw[List.mem_range'_1];omega,by rw[if_pos h3]⟩
theorem mem_jnP {w h:Int}{F:List Int}{l:List Cr}{n:Nat}{x:Jt}:x∈jnP w h F l n↔∃a c:Nat,a<n∧a≤c∧c<nC w h∧0<cntJ w h F l a c∧x=((a:Int),(c:Int),(cntJ w h F l a c:Int)):=by
 unfold jnP
 rw[List.mem_flatMap]
 constructor
 ·rintro⟨a,h1,h2⟩
  obtain⟨c,h3⟩:=mem_jnR.1 h2
  exact⟨a,c,List.mem_range.1 h1,h3.1,h3.2.1,h3.2.2⟩
 ·rintro⟨a,c,h1,h2⟩
  exact⟨a,List.mem_range.2 h1,mem_jnR.2 ⟨c,h2⟩⟩
/-- One joint comes before another. -/
def ltJ (x y:Jt):Prop:=x.1<y.1∨(x.1=y.1∧x.2.1<y.2.1)
theorem cmI_lt (x y:Jt):cmI x y<0↔ltJ x y:=by
 unfold cmI ltJ
 by_cases h:x.1=y.1
 ·simp[h];omega
 ·have:(x.1 !=y.1)=true:=by simpa using h
  rw[this,cond_true];omega
theorem jnP_pw (w h:Int)(F:List Int)(l:List Cr)(n:Nat):(jnP w h F l n).Pairwise ltJ:=by
 unfold jnP
 rw[List.pairwise_flatMap]
 constructor
 ·intro a ha
  unfold jnR
  rw[List.pairwise_filterMap]
  refine List.Pairwise.imp ?_ (List.pairwise_lt_range' (s:=a) (n:=nC w h-a))
  intro c d hcd x hx y hy
  split at hx<;>cases hx
  split at hy<;>cases hy
  exact .inr ⟨rfl,Int.ofNat_lt.2 hcd⟩
 ·refine List.Pairwise.imp ?_ (List.pairwise_lt_range (n:=n))
  intro a b hab x hx y hy
  obtain⟨c,_,_,_,rfl⟩:=mem_jnR.1 hx
  obtain⟨d,_,_,_,rfl⟩:=mem_jnR.1 hy
  exact .inl (Int.ofNat_lt.2 hab)
theorem ext_lt {α:Type}{r:α→α→Prop}(hr:∀a b,r a b→¬ r b a):∀{l l':List α},l.Pairwise r→l'.Pairwise r→(∀x,x∈l↔x∈l')→l=l'
 |[],[],_,_,_=>rfl
 |[],y::r',_,_,h=>absurd ((h y).2 (by simp)) (by simp)
 |x::r,[],_,_,h=>absurd ((h x).1 (by simp)) (by simp)
 |x::l,y::l',h1,h2,h=>by
  obtain⟨a1,a2⟩:=List.pairwise_cons.1 h1
  obtain⟨b1,b2⟩:=List.pairwise_cons.1 h2
  have hxy:x=y:=by
   rcases List.mem_cons.1 ((h x).1 (by simp))with q|q
   ·exact q
   ·rcases List.mem_cons.1 ((h y).2 (by simp))with p|p
    ·exact p.symm
    ·exact absurd (a1 y p) (hr _ _ (b1 x q))
  subst hxy
  congr 1
  refine ext_lt hr a2 b2 (fun z=>?_)
  have:=h z
  constructor
  ·intro hz
   rcases List.mem_cons.1 (this.1 (by simp[hz]))with rfl|q
   ·exact absurd (a1 _ hz) (hr _ _ (a1 _ hz))
   ·exact q
  ·intro hz
   rcases List.mem_cons.1 (this.2 (by simp[hz]))with rfl|q
   ·exact absurd (b1 _ hz) (hr _ _ (b1 _ hz))
   ·exact q
theorem ltJ_asym (a b:Jt):ltJ a b→¬ ltJ b a:=by unfold ltJ;omega
/-- Values of faces are cells' numbers. -/
def okF (w h:Int)(F:List Int):Prop:=F.length=nC w h∧∀x∈F,0≤x∧x<nC w h
theorem okF_gI {w h:Int}{F:List Int}(hF:okF w h F){i:Nat}(hi:i<nC w h):0≤gI F i∧gI F i<nC w h:=by
 have:i<F.length:=by rw[hF.1];exact hi
 rw[gI_at this];exact hF.2 _ (List.getElem_mem this)
theorem okF_facL {w h:Int}(hs:s5 w h)(l:List Cr):okF w h (facL w h l):=⟨facL_len hs l,facL_le hs l⟩
theorem fa_ok {w h:Int}{F:List Int}{l:List Cr}(hs:s5 w h)(hv:vP w h l)(hF:okF w h F){c:Cr}(hc:c∈l):0≤loA w h F c∧loA w h F c≤hiA w h F c∧hiA w h F c<nC w h∧(faA F c=loA w h F c∨faA F c=hiA w h F c):=by
 obtain⟨a1,a2,a3,a4,a5,a6⟩:=vP_cr hs hv hc
 have hb:=hasB_iff.1 a1
 have n1:c.1.toNat<nC w h:=by unfold nC;omega
 have n2:(nbI w h c.1 c.2.1).toNat<nC w h:=by unfold nC;omega
 have f1:=okF_gI hF n1
 have f2:=okF_gI hF n2
 unfold loA hiA faA faB
 split<;>split<;>omega
theorem cntJ_pos {w h:Int}{F:List Int}{l:List Cr}{a b:Int}(h0:0<cntJ w h F l a b):∃c∈l,loA w h F c=a∧hiA w h F c=b:=by
 unfold cntJ at h0
 rw[List.countP_pos_iff]at h0
 obtain⟨c,h1,h2⟩:=h0
 have h2:prJ w h F c=(a,b):=by simpa using h2
 exact⟨c,h1,(Prod.mk.inj h2).1,(Prod.mk.inj h2).2⟩
theorem mem_jnL {w h:Int}{F:List Int}{l:List Cr}(hs:s5 w h)(hv:vP w h l)(hF:okF w h F){x:Jt}:x∈jnL w h F l↔0<cntJ w h F l x.1 x.2.1∧x.2.2=(cntJ w h F l x.1 x.2.1:Int):=by
 unfold jnL
 rw[mem_jnP]
 constructor
 ·rintro⟨a,c,h1,h2,h3,h4,rfl⟩
  exact⟨h4,rfl⟩
 ·rintro⟨h1,h2⟩
  obtain⟨c,hc,e1,e2⟩:=cntJ_pos h1
  obtain⟨f1,f2,f3,_⟩:=fa_ok hs hv hF hc
  obtain⟨x1,x2,x3⟩:=x
  simp only at*
  refine⟨x1.toNat,x2.toNat,by omega,by omega,by omega,?_,?_⟩
  ·rw[show((x1.toNat:Nat):Int)=x1 by omega,show((x2.toNat:Nat):Int)=x2 by omega];exact h1
  ·rw[show((x1.toNat:Nat):Int)=x1 by omega,show((x2.toNat:Nat):Int)=x2 by omega,h2]
/-- What is sorted is the list. -/
theorem srt_jnL {w h:Int}{F:List Int}{l:List Cr}(hs:s5 w h)(hv:vP w h l)(hF:okF w h F){S:List Jt}(hp:S.Perm ((grF w h F l).1.map entJ))(ho:S.Pairwise (fun x y=>¬ ltJ y x)):S=jnL w h F l:=by
 refine ext_lt ltJ_asym ?_ (jnP_pw w h F l _) (fun x=>?_)
 ·have hd:S.Pairwise (fun x y=>(x.1,x.2.1)≠(y.1,y.2.1)):=by
   refine(hp.pairwise_iff (fun{x y} h e=>h e.symm)).2 ?_
   rw[List.pairwise_map]
   refine List.Pairwise.imp_of_mem ?_ (grF_wf w h F l).keys
   intro e e' he he' hne heq
   obtain⟨c,_,h1,h2,_⟩:=grF_ent he
   obtain⟨c',_,h1',h2',_⟩:=grF_ent he'
   rw[h1,h1']at heq
   simp only[Prod.mk.injEq]at heq
   rw[h2,h2',heq.1,heq.2]at hne
   exact hne rfl
  refine(ho.and hd).imp ?_
  rintro x y ⟨h1,h2⟩
  unfold ltJ at h1 ⊢
  by_cases q:x.1=y.1
  ·by_cases q2:x.2.1=y.2.1
   ·exact absurd (by rw[q,q2]) h2
   ·omega
  ·omega
 ·rw[hp.mem_iff,grF_mem,mem_jnL hs hv hF]
end Go.Proofs.YtfpcbimohikhmaaDoor.X
