/-
 Cones, plain: ranks of an order, what grows, sorted lists.
-/
import Derived.Test.YthiammkiobbclaaGreatD9Z
import Derived.Test.YthiammkiobbclaaGreatC8Z
set_option maxRecDepth 1000000
set_option linter.unusedVariables false
namespace Go.Proofs.YthiammkiobbclaaGreat.X
open Go Go.Ab

/-! ### Ranks -/
theorem gR_set_self {l:List Int}{x v:Int}(h0:0≤x)(h1:x<l.length):gR (l.set x.toNat v) x=v:=by
 unfold gR;rw[List.getElem?_set_self (by omega)];rfl
theorem gR_set_ne {l:List Int}{x y v:Int}(h0:0≤x)(h1:0≤y)(h:x≠y):gR (l.set x.toNat v) y=gR l y:=by
 unfold gR;rw[List.getElem?_set_ne (by omega)]
theorem rkA_out:∀(o rk:List Int) (i y:Int),(∀x∈o,0≤x)→0≤y→y∉o→gR (rkA rk i o) y=gR rk y
 |[],rk,i,y,_,_,_=>rfl
 |x::o,rk,i,y,h,hy,hn=>by
  unfold rkA
  rw[rkA_out o _ _ y (fun z hz=>h z (List.mem_cons_of_mem _ hz)) hy (fun hm=>hn (List.mem_cons_of_mem _ hm)),gR_set_ne (h x (List.mem_cons_self ..)) hy fun e=>hn (by rw[e];exact List.mem_cons_self ..)]
theorem rkA_in:∀(o rk:List Int) (i:Int) (j:Nat),rk.length=8→o.Nodup→(∀x∈o,0≤x∧x<8)→(h:j<o.length)→gR (rkA rk i o) o[j]=i+j
 |[],rk,i,j,_,_,_,h=>by simp at h
 |x::o,rk,i,0,hr,hn,hx,h=>by
  unfold rkA
  obtain⟨h1,h2⟩:=List.nodup_cons.1 hn
  have hx0:=hx x (List.mem_cons_self ..)
  show gR _ x=_
  rw[rkA_out o _ _ x (fun z hz=>(hx z (List.mem_cons_of_mem _ hz)).1) hx0.1 h1,gR_set_self hx0.1 (by omega)];omega
 |x::o,rk,i,j+1,hr,hn,hx,h=>by
  unfold rkA
  obtain⟨h1,h2⟩:=List.nodup_cons.1 hn
  show gR _ (o[j]'(by simpa using h))=_
  rw[rkA_in o _ _ j (by rw[List.length_set];exact hr) h2 (fun z hz=>hx z (List.mem_cons_of_mem _ hz)) (by simpa using h)];omega
theorem rk_at {o:List Int}(hn:o.Nodup)(ho:okO o){j:Nat}(h:j<o.length):gR (rkF o) o[j]=j:=by
 unfold rkF
 rw[rkA_in o _ 0 j (by simp) hn ho.2 h];omega
theorem perm_nodup {o:List Int}{n:Nat}(h:o.Perm (idO n)):o.Nodup:=h.nodup_iff.2 (idO_nodup n)
theorem perm_len {o:List Int}{n:Nat}(h:o.Perm (idO n)):o.length=n:=by rw[h.length_eq,idO_len]
theorem rk_inj {o p:List Int}{n:Nat}(hn:n≤8)(ho:o.Perm (idO n))(hp:p.Perm (idO n))(h:rkF o=rkF p):o=p:=by
 have l1:=perm_len ho
 have l2:=perm_len hp
 have o1:=perm_okO ho hn
 have o2:=perm_okO hp hn
 apply List.ext_getElem (by omega)
 intro i h1 h2
 have e:=rk_at (perm_nodup hp) o2 h2
 rw[← h]at e
 have hm:p[i]∈o:=ho.mem_iff.2 (hp.mem_iff.1 (List.getElem_mem h2))
 obtain⟨j,hj,hj2⟩:=List.getElem_of_mem hm
 have e2:=rk_at (perm_nodup ho) o1 hj
 rw[hj2,e]at e2
 have:i=j:=by omega
 subst this
 exact hj2
/-! ### The map of what was found -/
theorem mget_put {k k' v:List Int}{c:Nat}:∀{es:List (List Int×List Int×Nat)},mget (mput es k v c) k'=if k'=k then some v else mget es k'
 |[]=>by
  simp only[mput,mget,cond_eq_ite,decide_eq_true_eq]
 |e::r=>by
  have ih:=mget_put (k:=k) (k':=k') (v:=v) (c:=c) (es:=r)
  simp only[mput,cond_eq_ite,decide_eq_true_eq]
  split
  ·rename_i h1
   simp only[mget,cond_eq_ite,decide_eq_true_eq,h1]
   split<;>simp_all
  ·rename_i h1
   simp only[mget,cond_eq_ite,decide_eq_true_eq,ih]
   split
   ·rename_i h2
    rw[if_neg fun h3=>h1 (h3.symm.trans h2)]
   ·rfl
theorem fndS_snoc (L:List (List Int))(l:List Int):fndS (L++[l])=(mput (fnE L) (rkL l) [1] (fnK L),mck (fnE L) (rkL l) (fnK L)):=by
 unfold fndS fnE fnK fndS
 rw[List.foldl_append];rfl
theorem fnE_snoc (L:List (List Int))(l:List Int):fnE (L++[l])=mput (fnE L) (rkL l) [1] (fnK L):=by
 show(fndS (L++[l])).1=_
 rw[fndS_snoc]
theorem fnK_snoc (L:List (List Int))(l:List Int):fnK (L++[l])=mck (fnE L) (rkL l) (fnK L):=by
 show(fndS (L++[l])).2=_
 rw[fndS_snoc]
theorem snocRec {α:Type}{P:List α→Prop}(h0:P [])(h1:∀l x,P l→P (l++[x]))(l:List α):P l:=by
 suffices ∀n (l:List α),l.length=n→P l from this _ l rfl
 intro n
 induction n with
 |zero=>intro l h;rw[List.length_eq_zero_iff.1 h];exact h0
 |succ n ih=>
  intro l h
  have hne:l≠[]:=fun e=>by rw[e]at h;simp at h
  rw[← List.dropLast_concat_getLast hne]
  exact h1 _ _ (ih _ (by rw[List.length_dropLast,h];rfl))
theorem fnE_get {n:Nat}(hn:n≤8){l:List Int}(hl:l.Perm (idO n)):∀(L:List (List Int)),(∀x∈L,x.Perm (idO n))→(mget (fnE L) (rkL l))=if l∈L then some [1]else none:=by
 refine snocRec (fun _=>rfl) fun L x ih h=>?_
 rw[fnE_snoc,mget_put]
 have hx:=h x (by simp)
 have ih:=ih fun y hy=>h y (List.mem_append_left _ hy)
 by_cases e:l=x
 ·subst e
  rw[if_pos rfl,if_pos (by simp)]
 ·rw[if_neg fun e2=>e (rk_inj hn hl hx (by rw[← rkL_eq,← rkL_eq,e2])),ih]
  simp[e]
theorem outV_un (L:List (List Int)):unO (outV L)=L:=by
 induction L with
 |nil=>rfl
 |cons x r ih=>
  show x::unO (outV r)=_
  rw[ih]
theorem outV_len (L:List (List Int)):(outV L).length=L.length:=by unfold outV;rw[List.length_map]
/-! ### Growing -/
theorem insA_perm {o:List Int}{i:Nat}(h:okG o):okG (insA o i (o.length:Int)):=by
 have hl:(insA o i (o.length:Int)).length=o.length+1:=by
  unfold insA
  rw[List.length_append,List.length_cons,List.length_take,List.length_drop];omega
 unfold okG at h ⊢
 rw[hl,List.range_succ,List.map_append]
 have p1:(insA o i (o.length:Int)).Perm ((o.length:Int)::o):=by
  unfold insA
  refine List.perm_middle.trans ?_
  rw[List.take_append_drop]
 refine p1.trans ((List.Perm.cons _ h).trans ?_)
 exact(List.perm_append_comm (l₁:=[(o.length:Int)])).trans (by rfl)
theorem insA_len' {o:List Int}{i:Nat}{x:Int}:(insA o i x).length=o.length+1:=by
 unfold insA
 rw[List.length_append,List.length_cons,List.length_take,List.length_drop];omega
theorem grwL_perm {n:Nat}{r k:List Int}:∀(f:Nat) (o:List Int),∀l∈grwL n r k f o,l.Perm (idO (o.length+f))
 |0,o,l,h=>by
  unfold grwL at h
  cases hc:cwB n r k o with
  |true=>rw[hc]at h;cases h
  |false=>
   rw[hc]at h
   rw[List.mem_singleton.1 h]
   exact leastL_perm r o
 |f+1,o,l,h=>by
  unfold grwL at h
  cases hc:cwB n r k o with
  |true=>rw[hc]at h;cases h
  |false=>
   rw[hc,cond_false,List.mem_flatMap]at h
   obtain⟨i,_,h⟩:=h
   have:=grwL_perm f _ l h
   rw[insA_len']at this
   rw[show o.length+(f+1)=o.length+1+f by omega]
   exact this
theorem addU_ok {n:Nat}:∀(M L:List (List Int)),(L.Nodup∧∀l∈L,l.Perm (idO n))→(∀l∈M,l.Perm (idO n))→((M.foldl addU L).Nodup∧∀l∈M.foldl addU L,l.Perm (idO n))
 |[],L,h,_=>h
 |x::M,L,h,hM=>by
  refine addU_ok M _ ?_ fun l hl=>hM l (List.mem_cons_of_mem _ hl)
  unfold addU
  cases hc:L.contains x with
  |true=>exact h
  |false=>
   rw[cond_false]
   have hx:x∉L:=fun hm=>by
    rw[List.contains_iff_mem.2 hm]at hc;cases hc
   refine⟨List.nodup_append.2 ⟨h.1,by simp,fun y hy z hz e=>?_⟩,fun l hl=>?_⟩
   ·rw[List.mem_singleton]at hz;subst hz;subst e;exact hx hy
   ·rcases List.mem_append.1 hl with hl|hl
    ·exact h.2 l hl
    ·rw[List.mem_singleton]at hl;subst hl;exact hM l (List.mem_cons_self ..)
theorem grwO_ok {a r k o:List Int}{L:List (List Int)}(hL:okL a L)(ho:o.length≤a.length):okL a (grwO a.length r k L o):=
 addU_ok _ _ hL fun l hl=>by
  have:=grwL_perm _ _ l hl
  rwa [show o.length+(a.length-o.length)=a.length by omega]at this
theorem grwO_stop {n:Nat}{r k o:List Int}{L:List (List Int)}(h:cwB n r k o=true):grwO n r k L o=L:=by
 unfold grwO
 cases hf:n-o.length<;>(unfold grwL;rw[h];rfl)
theorem grwO_leaf {n:Nat}{r k o:List Int}{L:List (List Int)}(h:cwB n r k o=false)(hn:n≤o.length):grwO n r k L o=addU L (leastL r o):=by
 unfold grwO
 rw[show n-o.length=0 by omega]
 unfold grwL;rw[h];rfl
theorem grwO_node {n:Nat}{r k o:List Int}{L:List (List Int)}(h:cwB n r k o=false)(hn:o.length<n):grwO n r k L o=grwM n r k L o (o.length+1):=by
 unfold grwO grwM
 rw[show n-o.length=(n-(o.length+1))+1 by omega]
 show(cond (cwB n r k o) [] _).foldl addU L=_
 rw[h];rfl
theorem grwM_step {n:Nat}{r k o:List Int}{L:List (List Int)}{m:Nat}:grwM n r k L o (m+1)=grwO n r k (grwM n r k L o m) (insA o m (o.length:Int)):=by
 unfold grwO grwM
 rw[List.range_succ,List.flatMap_append,List.foldl_append,insA_len']
 simp
/-! ### How many orders there are -/
def codL:List Int→Int
 |[]=>0
 |x::r=>x+8*codL r
theorem codL_inj:∀(l p:List Int),l.length=p.length→(∀x∈l,0≤x∧x<8)→(∀x∈p,0≤x∧x<8)→codL l=codL p→l=p
 |[],[],_,_,_,_=>rfl
 |x::l,y::p,hl,h1,h2,h=>by
  have hx:=h1 x (List.mem_cons_self ..)
  have hy:=h2 y (List.mem_cons_self ..)
  unfold codL at h
  have e1:x=y:=by omega
  have e2:codL l=codL p:=by omega
  rw[e1,codL_inj l p (by simpa using hl) (fun z hz=>h1 z (List.mem_cons_of_mem _ hz)) (fun z hz=>h2 z (List.mem_cons_of_mem _ hz)) e2]
theorem codL_bd:∀(l:List Int),(∀x∈l,0≤x∧x<8)→0≤codL l∧codL l<8 ^ l.length
 |[],_=>by simp[codL]
 |x::l,h=>by
  have hx:=h x (List.mem_cons_self ..)
  have ih:=codL_bd l fun z hz=>h z (List.mem_cons_of_mem _ hz)
  unfold codL
  rw[List.length_cons,Int.pow_succ]
  omega
theorem map_nodup {f:List Int→Int}:∀(L:List (List Int)),L.Nodup→(∀x∈L,∀y∈L,f x=f y→x=y)→(L.map f).Nodup
 |[],_,_=>List.nodup_nil
 |x::L,h,hf=>by
  obtain⟨h1,h2⟩:=List.nodup_cons.1 h
  rw[List.map_cons]
  refine List.nodup_cons.2 ⟨fun hm=>?_,map_nodup L h2 fun y hy z hz=>hf y (List.mem_cons_of_mem _ hy) z (List.mem_cons_of_mem _ hz)⟩
  obtain⟨y,hy,hy2⟩:=List.mem_map.1 hm
  rw[hf y (List.mem_cons_of_mem _ hy) x (List.mem_cons_self ..) hy2]at hy
  exact h1 hy
theorem okL_len {a:List Int}{L:List (List Int)}(h:okL a L)(ha:a.length≤8):L.length<100000000:=by
 obtain⟨h1,h2⟩:=h
 have p:∀l∈L,l.length=a.length∧∀x∈l,0≤x∧x<8:=fun l hl=>⟨perm_len (h2 l hl),(perm_okO (h2 l hl) ha).2⟩
 have:=sub_len (L.map codL) (idO 16777216) (map_nodup L h1 fun x hx y hy e=>codL_inj x y (by rw[(p x hx).1,(p y hy).1]) (p x hx).2 (p y hy).2 e) fun c hc=>by
  obtain⟨l,hl,rfl⟩:=List.mem_map.1 hc
  have hb:=codL_bd l (p l hl).2
  have h8:(8:Int) ^ l.length≤16777216:=(by decide:∀n,n<9→(8:Int) ^ n≤16777216) _ (by have:=(p l hl).1;omega)
  exact idO_mem.2 (by omega)
 rw[List.length_map,idO_len]at this
 omega
/-! ### Sorted lists -/
theorem cmI_anti (x y:Int):cmI y x= -cmI x y:=by
 unfold cmI
 split<;>split<;>first|omega|rfl|(split<;>first|omega|rfl)|skip
theorem cmI_0 {x y:Int}(h:cmI x y=0):x=y:=by
 unfold cmI at h
 split at h
 ·cases h
 ·split at h
  ·cases h
  ·omega
theorem cmI_neg {x y:Int}:cmI x y<0↔x<y:=by
 unfold cmI
 split
 ·simp[*]
 ·split<;>(constructor<;>intro h<;>omega)
theorem cmpL_anti:∀(x y:List Int),cmpL y x= -cmpL x y
 |[],[]=>rfl
 |[],_::_=>rfl
 |_::_,[]=>rfl
 |a::r,b::s=>by
  unfold cmpL
  rw[cmI_anti a b,cmpL_anti r s]
  split<;>split<;>first|rfl|omega
theorem cmpL_0:∀(x y:List Int),cmpL x y=0→x=y
 |[],[],_=>rfl
 |[],_::_,h=>by cases h
 |_::_,[],h=>by cases h
 |a::r,b::s,h=>by
  unfold cmpL at h
  split at h
  ·rename_i h1
   rw[cmI_0 h1,cmpL_0 r s h]
  ·rename_i h1;exact absurd h h1
theorem cmpL_self (x:List Int):cmpL x x=0:=by
 have:=cmpL_anti x x
 omega
theorem cmI_self (x:Int):cmI x x=0:=by unfold cmI;simp
theorem cmpL_cons {a b:Int}{r s:List Int}:cmpL (a::r) (b::s)<0↔a<b∨(a=b∧cmpL r s<0):=by
 rw[cmpL]
 split
 ·rename_i h
  have:=cmI_0 h
  subst this
  simp
 ·rename_i h
  rw[cmI_neg]
  constructor
  ·exact .inl
  ·rintro(h1|⟨h1,_⟩)
   ·exact h1
   ·subst h1
    rw[cmI_self]at h;exact absurd rfl h
theorem cmpL_trans:∀(x y z:List Int),cmpL x y<0→cmpL y z<0→cmpL x z<0
 |[],[],z,h,_=>by rw[cmpL_self]at h;omega
 |[],_::_,[],_,h=>by unfold cmpL at h;omega
 |[],_::_,_::_,_,_=>by unfold cmpL;decide
 |_::_,[],z,h,_=>by unfold cmpL at h;omega
 |_::_,_::_,[],_,h=>by unfold cmpL at h;omega
 |a::r,b::s,c::t,h1,h2=>by
  rw[cmpL_cons]at*
  rcases h1 with h1|⟨h1,h3⟩
  ·rcases h2 with h2|⟨h2,h4⟩
   ·left;omega
   ·left;omega
  ·rcases h2 with h2|⟨h2,h4⟩
   ·left;omega
   ·exact .inr ⟨by omega,cmpL_trans r s t h3 h4⟩
theorem swoL:Go.Sort.SWO (Go.Proofs.ltOf cmpL) where
 irrefl x:=by simp only[Go.Proofs.ltOf,decide_eq_false_iff_not,cmpL_self];decide
 trans x y z h1 h2:=by
  simp only[Go.Proofs.ltOf,decide_eq_true_eq]at*
  exact cmpL_trans x y z h1 h2
 ntrans x y z h1 h2:=by
  simp only[Go.Proofs.ltOf,decide_eq_false_iff_not]at*
  intro h3
  have a1:=cmpL_anti x y
  have a2:=cmpL_anti y z
  have a3:=cmpL_anti x z
  by_cases e1:cmpL x y=0
  ·rw[cmpL_0 _ _ e1]at h3;exact h2 h3
  ·have:cmpL y x<0:=by omega
   exact h2 (cmpL_trans y x z this h3)
theorem insS_perm (x:List Int):∀(l:List (List Int)),(insS x l).Perm (x::l)
 |[]=>List.Perm.refl _
 |y::l=>by
  unfold insS
  cases ltb (cmpL x y) 0 with
  |true=>exact List.Perm.refl _
  |false=>exact(List.Perm.cons y (insS_perm x l)).trans (List.Perm.swap x y l)
theorem srtL_perm:∀(l:List (List Int)),(srtL l).Perm l
 |[]=>List.Perm.refl _
 |x::l=>(insS_perm x _).trans (List.Perm.cons x (srtL_perm l))
theorem insS_srt {x:List Int}:∀{l:List (List Int)},l.Pairwise (fun y z=>cmpL y z<0)→x∉l→(insS x l).Pairwise (fun y z=>cmpL y z<0)
 |[],_,_=>List.pairwise_singleton ..
 |y::l,h,hx=>by
  obtain⟨h1,h2⟩:=List.pairwise_cons.1 h
  unfold insS
  cases hc:ltb (cmpL x y) 0 with
  |true=>
   have hc:=ltb_iff.1 hc
   refine List.pairwise_cons.2 ⟨fun z hz=>?_,h⟩
   rcases List.mem_cons.1 hz with rfl|hz
   ·exact hc
   ·exact cmpL_trans _ _ _ hc (h1 z hz)
  |false=>
   have hc:=ltb_no.1 hc
   rw[cond_false]
   refine List.pairwise_cons.2 ⟨fun z hz=>?_,insS_srt h2 fun hm=>hx (List.mem_cons_of_mem _ hm)⟩
   rcases List.mem_cons.1 ((insS_perm x l).mem_iff.1 hz)with rfl|hz
   ·have:=cmpL_anti z y
    have:cmpL z y≠0:=fun e=>hx (by rw[cmpL_0 _ _ e];exact List.mem_cons_self ..)
    omega
   ·exact h1 z hz
theorem srtL_srt:∀{l:List (List Int)},l.Nodup→(srtL l).Pairwise (fun y z=>cmpL y z<0)
 |[],_=>List.Pairwise.nil
 |x::l,h=>by
  obtain⟨h1,h2⟩:=List.nodup_cons.1 h
  exact insS_srt (srtL_srt h2) fun hm=>h1 ((srtL_perm l).mem_iff.1 hm)
end Go.Proofs.YthiammkiobbclaaGreat.X
