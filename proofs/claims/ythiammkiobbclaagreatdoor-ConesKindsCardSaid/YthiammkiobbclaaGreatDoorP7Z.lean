/-
 Cones, plain: which orders are ways.
-/
import Derived.Test.YthiammkiobbclaaGreatDoorP4Z
import Derived.Test.YthiammkiobbclaaGreatDoorD9Z

set_option maxRecDepth 1000000
set_option linter.unusedVariables false
namespace Go.Proofs.YthiammkiobbclaaGreatDoor.X
open Go Go.Ab

/-! ### Sectors that overlap -/
theorem ovl_comm (r:List Int)(u v:Int):ovlB r u v=ovlB r v u:=by
 unfold ovlB
 have h1:∀x y:Int,mxI x y=mxI y x:=fun x y=>by unfold mxI;split<;>split<;>omega
 have h2:∀x y:Int,mnI x y=mnI y x:=fun x y=>by unfold mnI;split<;>split<;>omega
 rw[h1 (mnI (gR r u) (gR r (u+1))),h2 (mxI (gR r u) (gR r (u+1)))]
theorem ov_skip {r:List Int}{g:Bool}{y u v:Int}(h1:skG r g y u=false)(h2:skG r g y v=false):ovlB r u v=true:=by
 unfold skG at h1 h2
 unfold ovlB
 rw[ltb_iff]
 generalize mnI (gR r u) (gR r (u+1))=a at*
 generalize mxI (gR r u) (gR r (u+1))=b at*
 generalize mnI (gR r v) (gR r (v+1))=c at*
 generalize mxI (gR r v) (gR r (v+1))=d at*
 unfold mxI mnI
 cases g<;>simp[ltb_no,leb_no]at h1 h2<;>(split<;>split<;>omega)
/-- The sectors of one order lie as in the other one, as far as they overlap and are there. -/
structure Sub (n:Nat)(r rk' rk:List Int):Prop where
 all:∀u:Int,0≤u→u<n→0≤gR rk u
 rel:∀u v:Int,0≤u→u<n→0≤v→v<n→ovlB r u v=true→0≤gR rk' u→0≤gR rk' v→(gR rk' u<gR rk' v↔gR rk u<gR rk v)
theorem btw_iff {n c s:Int}{rk:List Int}:btwB n rk c s=true↔(0≤gR rk (bfI n c)∧0≤gR rk c)∧((gR rk (bfI n c)<gR rk s∧gR rk s<gR rk c)∨(gR rk c<gR rk s∧gR rk s<gR rk (bfI n c))):=by
 unfold btwB
 rw[Bool.and_eq_true,Bool.and_eq_true,leb_iff,ltb_iff,ltb_iff]
 unfold mnI mxI
 split<;>split<;>omega
section
variable {n:Nat}{r rk' rk:List Int}(A:Alt n r)(S:Sub n r rk' rk)
include A S
theorem Sub.btw {c s:Int}{g:Bool}(h0:0≤c)(h1:c<n)(s0:0≤s)(s1:s<n)(hg:sidB r c=g)(hs:skG r g (gR r c) s=false)(p1:0≤gR rk' (bfI n c))(p2:0≤gR rk' c)(p3:0≤gR rk' s):
  btwB n rk' c s=btwB n rk c s:=by
 obtain⟨b1,b2,_⟩:=A.bf h0 h1
 have e1:=(A.ev2 h0 h1 rfl hg (.inl rfl)).1
 have e2:=(A.ev2 h0 h1 rfl hg (.inr rfl)).1
 rw[Bool.eq_iff_iff,btw_iff,btw_iff]
 have r1:=S.rel _ _ b1 b2 s0 s1 (ov_skip e2 hs) p1 p3
 have r2:=S.rel _ _ s0 s1 h0 h1 (ov_skip hs e1) p3 p2
 have r3:=S.rel _ _ h0 h1 s0 s1 (ov_skip e1 hs) p2 p3
 have r4:=S.rel _ _ s0 s1 b1 b2 (ov_skip hs e2) p3 p1
 have a1:=S.all _ b1 b2
 have a2:=S.all _ h0 h1
 rw[r1,r2,r3,r4]
 constructor
 ·exact fun h=>⟨⟨a1,a2⟩,h.2⟩
 ·exact fun h=>⟨⟨p1,p2⟩,h.2⟩
theorem Sub.crs {i k:Int}(h0:0≤i)(h1:i<n)(k0:0≤k)(k1:k<n)(h:crs1 n r rk' i k=true):crs1 n r rk i k=true:=by
 unfold crs1 at h ⊢
 rw[Bool.or_eq_true]at h ⊢
 rcases h with h|h
 ·left
  rw[Bool.and_eq_true]at h ⊢
  refine⟨h.1,?_⟩
  have hb:=btw_iff.1 h.2
  rw[← S.btw A h0 h1 k0 k1 rfl ((A.skip k0 k1).2 (.inl h.1)) hb.1.1 hb.1.2 (by omega)]
  exact h.2
 ·right
  simp only[Bool.and_eq_true,bne_iff_ne,beq_iff_eq,ne_eq,leb_iff]at h ⊢
  obtain⟨c1,c2,c3,c4,c5⟩:=h
  obtain⟨b1,b2,_⟩:=A.bf k0 k1
  have c4':=mn_0.1 c4
  have e1:=(A.ev2 k0 k1 c2 c3 (.inl rfl)).1
  have e2:=(A.ev2 k0 k1 c2 c3 (.inr rfl)).1
  refine⟨c1,c2,c3,mn_0.2 ⟨S.all _ b1 b2,S.all _ k0 k1⟩,?_⟩
  have hp:0≤gR rk' (bfI n i)∧0≤gR rk' i:=by
   cases hb1:btwB n rk' i (bfI n k)with
   |true=>exact(btw_iff.1 hb1).1
   |false=>
    cases hb2:btwB n rk' i k with
    |true=>exact(btw_iff.1 hb2).1
    |false=>rw[hb1,hb2]at c5;exact absurd rfl c5
  rw[← S.btw A h0 h1 b1 b2 rfl e2 hp.1 hp.2 c4'.1,← S.btw A h0 h1 k0 k1 rfl e1 hp.1 hp.2 c4'.2]
  exact c5
theorem Sub.kd {i:Int}(h0:0≤i)(h1:i<n)(p1:0≤gR rk' (bfI n i))(p2:0≤gR rk' i):kdI n rk' i=kdI n rk i:=by
 obtain⟨b1,b2,_⟩:=A.bf h0 h1
 have e1:=(A.ev2 h0 h1 rfl rfl (.inl rfl)).1
 have e2:=(A.ev2 h0 h1 rfl rfl (.inr rfl)).1
 have r1:=S.rel _ _ b1 b2 h0 h1 (ov_skip e2 e1) p1 p2
 have r2:=S.rel _ _ h0 h1 b1 b2 (ov_skip e1 e2) p2 p1
 unfold kdI
 simp only[r1,r2]
theorem Sub.wrg {k:List Int}(hk:k.length=n){i:Int}(h0:0≤i)(h1:i<n)(h:wrg1 k rk' i=true):wrg1 k rk i=true:=by
 unfold wrg1 at h ⊢
 simp only[Bool.and_eq_true,bne_iff_ne,ne_eq,leb_iff,hk]at h ⊢
 obtain⟨c1,c2,c3⟩:=h
 obtain⟨b1,b2,_⟩:=A.bf h0 h1
 have c2':=mn_0.1 c2
 refine⟨c1,mn_0.2 ⟨S.all _ b1 b2,S.all _ h0 h1⟩,?_⟩
 rw[← S.kd A h0 h1 c2'.1 c2'.2];exact c3
end
theorem Sub.cw {n:Nat}{r k o' o:List Int}(A:Alt n r)(hk:k.length=n)(S:Sub n r (rkL o') (rkL o))(h:cwB n r k o=false):cwB n r k o'=false:=by
 rw[← Bool.not_eq_true]at h ⊢
 intro h'
 apply h
 rw[cwB_or]at h' ⊢
 rcases h' with h'|h'
 ·left
  unfold crsB at h' ⊢
  obtain⟨i,hi,h'⟩:=anyN_iff.1 h'
  obtain⟨j,hj,h'⟩:=anyN_iff.1 h'
  exact anyN_iff.2 ⟨i,hi,anyN_iff.2 ⟨j,hj,S.crs A (by omega) (by omega) (by omega) (by omega) h'⟩⟩
 ·right
  unfold wrgB at h' ⊢
  obtain⟨i,hi,h'⟩:=anyN_iff.1 h'
  rw[hk]at hi
  exact anyN_iff.2 ⟨i,by omega,S.wrg A hk (by omega) (by omega) h'⟩
/-! ### The first of the orders that are the same -/
theorem find_congr {α:Type}{p q:α→Bool}:∀(l:List α),(∀x∈l,p x=q x)→l.find? p=l.find? q
 |[],_=>rfl
 |x::l,h=>by
  rw[List.find?_cons,List.find?_cons,h x (List.mem_cons_self ..),find_congr l fun y hy=>h y (List.mem_cons_of_mem _ hy)]
theorem lst_take {r rk:List Int}{n:Nat}:∀(d m:Nat),(lstN r rk n (m+d)).take m=lstN r rk n m
 |0,m=>by rw[Nat.add_zero,List.take_of_length_le (by rw[lstN_len];exact Nat.le_refl _)]
 |d+1,m=>by
  have ih:=lst_take (r:=r) (rk:=rk) (n:=n) d m
  show(lstN r rk n (m+d)++_).take m=_
  rw[List.take_append_of_le_length (by rw[lstN_len];omega),ih]
theorem lst_at {r rk:List Int}{n m:Nat}(h:m<n):(lstN r rk n n)[m]? =some (fr1 r rk n (lstN r rk n m)):=by
 have e:=lst_take (r:=r) (rk:=rk) (n:=n) (n-(m+1)) (m+1)
 rw[show m+1+(n-(m+1))=n by omega]at e
 have:((lstN r rk n n).take (m+1))[m]? =(lstN r rk n n)[m]? :=by rw[List.getElem?_take_of_lt (by omega)]
 rw[← this,e]
 show(lstN r rk n m++[_])[m]? =_
 rw[List.getElem?_append_right (by rw[lstN_len];exact Nat.le_refl _),lstN_len]
 simp
theorem frC_iff {r rk out:List Int}{i k:Int}:frC r rk out i k=true↔k∈out∨gR rk i≤gR rk k∨ovlB r i k=false:=by
 unfold frC
 rw[Bool.or_eq_true,Bool.or_eq_true,memB_true,leb_iff,Bool.not_eq_true']
theorem frK_iff {r rk out:List Int}{i:Int}{n:Nat}:frK r rk out i n=true↔i∉out∧∀k:Nat,k<n→((k:Int)∈out∨gR rk i≤gR rk k∨ovlB r i k=false):=by
 unfold frK
 rw[Bool.and_eq_true,Bool.not_eq_true',memB_no,List.all_eq_true]
 simp only[List.mem_range,frC_iff]
/-- What overlaps stays in its order. -/
theorem least_rel {n:Nat}{r o:List Int}(hn:n≤8)(ho:o.Perm (idO n)){u v:Int}(u0:0≤u)(u1:u<n)(v0:0≤v)(v1:v<n)(hov:ovlB r u v=true)(h:gR (rkL o) u<gR (rkL o) v):
  gR (rkL (leastL r o)) u<gR (rkL (leastL r o)) v:=by
 have hl:=perm_len ho
 have hp:(leastL r o).Perm (idO n):=by rw[← hl];exact leastL_perm r o
 obtain⟨R1,R2⟩:=rk_facts hn hp
 obtain⟨m,hm,e1,e2⟩:=R2 v v0 v1
 have hmn:m<n:=by rw[perm_len hp]at hm;exact hm
 have e3:leastL r o=lstN r (rkF o) n n:=by unfold leastL;rw[hl]
 have e4:=lst_at (r:=r) (rk:=rkF o) hmn
 rw[← e3,List.getElem?_eq_getElem hm,e1]at e4
 obtain⟨m',h1,h2,h3⟩:=fr1_ok (r:=r) (rk:=rkF o) (out:=lstN r (rkF o) n m) (n:=n) (by rw[lstN_len];omega)
 rw[h2]at e4
 cases e4
 have h4:=(frK_iff.1 h3).2 u.toNat (by omega)
 rw[show((u.toNat:Nat):Int)=u by omega]at h4
 rw[rkL_eq o]at h
 rw[ovl_comm]at hov
 have h5:u∈lstN r (rkF o) n m:=by
  rcases h4 with h4|h4|h4
  ·exact h4
  ·omega
  ·rw[hov]at h4;cases h4
 have e5:=lst_take (r:=r) (rk:=rkF o) (n:=n) (n-m) m
 rw[show m+(n-m)=n by omega,← e3]at e5
 rw[← e5]at h5
 obtain⟨j,hj,hj2⟩:=List.getElem_of_mem h5
 rw[List.length_take]at hj
 rw[List.getElem_take]at hj2
 have:=(R1 j (by omega)).2.2
 rw[hj2]at this
 omega
theorem rk_tri {n:Nat}{o:List Int}(hn:n≤8)(ho:o.Perm (idO n)){u v:Int}(u0:0≤u)(u1:u<n)(v0:0≤v)(v1:v<n):gR (rkL o) u=gR (rkL o) v→u=v:=fun e=>by
 obtain⟨R1,R2⟩:=rk_facts hn ho
 obtain⟨m,hm,e1,e2⟩:=R2 u u0 u1
 obtain⟨m',hm',e3,e4⟩:=R2 v v0 v1
 have:m=m':=by omega
 subst this
 rw[← e1,← e3]
theorem rk_nn {n:Nat}{o:List Int}(hn:n≤8)(ho:o.Perm (idO n)){u:Int}(u0:0≤u)(u1:u<n):0≤gR (rkL o) u:=by
 obtain⟨m,hm,e1,e2⟩:=(rk_facts hn ho).2 u u0 u1
 omega
theorem least_iff {n:Nat}{r o:List Int}(hn:n≤8)(ho:o.Perm (idO n)){u v:Int}(u0:0≤u)(u1:u<n)(v0:0≤v)(v1:v<n)(hov:ovlB r u v=true):
  gR (rkL (leastL r o)) u<gR (rkL (leastL r o)) v↔gR (rkL o) u<gR (rkL o) v:=by
 constructor
 ·intro h
  rcases Int.lt_or_le (gR (rkL o) u) (gR (rkL o) v)with h1|h1
  ·exact h1
  ·by_cases e:gR (rkL o) v=gR (rkL o) u
   ·have:=rk_tri hn ho v0 v1 u0 u1 e
    subst this;omega
   ·have:=least_rel hn ho v0 v1 u0 u1 (by rw[ovl_comm];exact hov) (by omega:gR (rkL o) v<gR (rkL o) u)
    omega
 ·exact least_rel hn ho u0 u1 v0 v1 hov
theorem least_permN {n:Nat}{r o:List Int}(ho:o.Perm (idO n)):(leastL r o).Perm (idO n):=by
 have:=leastL_perm r o
 rwa [perm_len ho]at this
theorem least_sub {n:Nat}{r o:List Int}(hn:n≤8)(ho:o.Perm (idO n)):Sub n r (rkL (leastL r o)) (rkL o):=
 ⟨fun u a b=>rk_nn hn ho a b,fun u v a b c d e _ _=>least_iff hn ho a b c d e⟩
theorem lst_congr {r rk rk':List Int}{n:Nat}(h:∀u v:Int,0≤u→u<n→0≤v→v<n→ovlB r u v=true→(gR rk u<gR rk v↔gR rk' u<gR rk' v)):∀m,lstN r rk n m=lstN r rk' n m
 |0=>rfl
 |m+1=>by
  have ih:=lst_congr h m
  unfold lstN
  rw[ih]
  congr 2
  unfold fr1
  rw[find_congr _ fun i hi=>?_]
  have hi:=List.mem_range.1 hi
  rw[Bool.eq_iff_iff,frK_iff,frK_iff]
  have:∀k:Nat,k<n→(((k:Int)∈lstN r rk' n m∨gR rk i≤gR rk k∨ovlB r i k=false)↔((k:Int)∈lstN r rk' n m∨gR rk' i≤gR rk' k∨ovlB r i k=false)):=fun k hk=>by
   cases hov:ovlB r i k with
   |false=>simp
   |true=>
    have:=h k i (by omega) (by omega) (by omega) (by omega) (by rw[ovl_comm];exact hov)
    have e:gR rk i≤gR rk k↔gR rk' i≤gR rk' k:=by omega
    rw[e]
  constructor
  ·exact fun h=>⟨h.1,fun k hk=>(this k hk).1 (h.2 k hk)⟩
  ·exact fun h=>⟨h.1,fun k hk=>(this k hk).2 (h.2 k hk)⟩
theorem least_idem {n:Nat}{r o:List Int}(hn:n≤8)(ho:o.Perm (idO n)):leastL r (leastL r o)=leastL r o:=by
 have h1:=perm_len ho
 have h2:=leastL_len r o
 unfold leastL at h2 ⊢
 rw[h2,h1]
 rw[h1]at h2
 refine lst_congr (fun u v a b c d e=>?_) n
 have:=least_iff hn ho a b c d e
 rw[rkL_eq,rkL_eq]at this
 unfold leastL at this
 rw[h1]at this
 exact this
/-! ### Growing reaches all -/
theorem sub2_iff {o:List Int}(hN:o.Nodup)(hO:okO o){u v:Int}(hu:u∈o)(hv:v∈o):gR (rkF o) u<gR (rkF o) v↔u≠v∧[u,v].Sublist o:=by
 obtain⟨i,hi,e1⟩:=List.getElem_of_mem hu
 obtain⟨j,hj,e2⟩:=List.getElem_of_mem hv
 have r1:=rk_at hN hO hi
 have r2:=rk_at hN hO hj
 rw[e1]at r1
 rw[e2]at r2
 rw[r1,r2]
 constructor
 ·intro h
  refine⟨fun e=>?_,?_⟩
  ·rw[e]at r1;omega
  ·have:=List.map_getElem_sublist (l:=o) (is:=[⟨i,hi⟩,⟨j,hj⟩]) (by simp;omega)
   simpa[e1,e2]using this
 ·rintro⟨hne,h⟩
  obtain⟨is,e3,e4⟩:=List.sublist_eq_map_getElem h
  match is,e3,e4 with
  |[a,b],e3,e4=>
   simp only[List.map_cons,List.map_nil,List.cons.injEq,and_true]at e3
   have q1:=rk_at hN hO a.2
   have q2:=rk_at hN hO b.2
   have e5:o[a.1]=u:=e3.1.symm
   have e6:o[b.1]=v:=e3.2.symm
   rw[e5,r1]at q1
   rw[e6,r2]at q2
   have:a<b:=by simpa using e4
   have:a.1<b.1:=this
   omega
theorem filt_perm {n m:Nat}{o:List Int}(ho:o.Perm (idO n))(hm:m≤n):(o.filter fun x=>decide (x<(m:Int))).Perm (idO m):=by
 refine(ho.filter _).trans ?_
 have:(idO n).filter (fun x=>decide (x<(m:Int)))=idO m:=by
  unfold idO
  rw[List.filter_map]
  have e:List.range n=List.range m++(List.range (n-m)).map (m+·):=by
   rw[← List.range_add];congr 1;omega
  rw[e,List.filter_append]
  have e1:(List.range m).filter ((fun x:Int=>decide (x<(m:Int)))∘fun(i:Nat)=>(i:Int))=List.range m:=by
   rw[List.filter_eq_self]
   intro a ha
   have:=List.mem_range.1 ha
   simp only[Function.comp,decide_eq_true_eq];omega
  have e2:((List.range (n-m)).map (m+·)).filter ((fun x:Int=>decide (x<(m:Int)))∘fun(i:Nat)=>(i:Int))=[]:=by
   rw[List.filter_eq_nil_iff]
   intro a ha
   obtain⟨b,_,rfl⟩:=List.mem_map.1 ha
   simp only[Function.comp,decide_eq_true_eq];omega
  rw[e1,e2,List.append_nil]
 rw[this]
theorem filt_sub {n m:Nat}{r o:List Int}(hn:n≤8)(ho:o.Perm (idO n))(hm:m≤n):Sub n r (rkL (o.filter fun x=>decide (x<(m:Int)))) (rkL o):=by
 have hf:=filt_perm ho hm
 have N1:=perm_nodup ho
 have O1:=perm_okO ho hn
 have N2:=perm_nodup hf
 have O2:=perm_okO hf (by omega:m≤8)
 refine⟨fun u a b=>rk_nn hn ho a b,fun u v a b c d _ p1 p2=>?_⟩
 rw[rkL_eq]at p1 p2
 have pres:∀w:Int,0≤w→w<n→0≤gR (rkF (o.filter fun x=>decide (x<(m:Int)))) w→w∈o.filter fun x=>decide (x<(m:Int)):=fun w w0 w1 h=>by
  refine Classical.byContradiction fun hc=>?_
  rw[rk_no O2 w0 (by omega) hc]at h
  omega
 have hu:=pres u a b p1
 have hv:=pres v c d p2
 have hu':=List.mem_filter.1 hu
 have hv':=List.mem_filter.1 hv
 rw[rkL_eq,rkL_eq,sub2_iff N2 O2 hu hv,sub2_iff N1 O1 hu'.1 hv'.1]
 refine and_congr_right fun _=>⟨fun h=>h.trans List.filter_sublist,fun h=>?_⟩
 have:=h.filter fun x=>decide (x<(m:Int))
 have e:[u,v].filter (fun x:Int=>decide (x<(m:Int)))=[u,v]:=by
  rw[List.filter_eq_self]
  intro x hx
  simp only[List.mem_cons,List.not_mem_nil,or_false]at hx
  rcases hx with rfl|rfl
  ·exact hu'.2
  ·exact hv'.2
 rwa [e]at this
theorem filt_ins {n m:Nat}{o:List Int}(ho:o.Perm (idO n))(hm:m<n):∃i,i≤m∧insA (o.filter fun x=>decide (x<(m:Int))) i (m:Int)=o.filter fun x=>decide (x<((m+1:Nat):Int)):=by
 have hN:=perm_nodup ho
 have hmem:(m:Int)∈o:=ho.mem_iff.2 (idO_mem.2 (by omega))
 obtain⟨s,t,rfl⟩:=List.append_of_mem hmem
 have hl:=perm_len (filt_perm ho (by omega:m≤n))
 have hnot:∀x∈s++t,x≠(m:Int):=fun x hx e=>by
  subst e
  have:=List.perm_middle.nodup_iff.1 hN
  exact(List.nodup_cons.1 this).1 hx
 have e0:∀l:List Int,(∀x∈l,x≠(m:Int))→l.filter (fun x=>decide (x<((m+1:Nat):Int)))=l.filter fun x=>decide (x<(m:Int)):=fun l hl=>by
  refine List.filter_congr fun x hx=>?_
  have:=hl x hx
  rw[decide_eq_decide];omega
 have hs:=e0 s fun x hx=>hnot x (List.mem_append_left _ hx)
 have ht:=e0 t fun x hx=>hnot x (List.mem_append_right _ hx)
 rw[List.filter_append,List.filter_cons_of_neg (by simp)]at hl ⊢
 refine⟨(s.filter fun x=>decide (x<(m:Int))).length,?_,?_⟩
 ·rw[List.length_append]at hl;omega
 ·rw[List.filter_append,List.filter_cons_of_pos (by simp;omega),hs,ht]
  unfold insA
  rw[List.take_left,List.drop_left]
theorem grow_all {n:Nat}{r k o:List Int}(A:Alt n r)(hn:n≤8)(hk:k.length=n)(ho:o.Perm (idO n))(hc:cwB n r k o=false):∀(f m:Nat),m+f=n→leastL r o∈grwL n r k f (o.filter fun x=>decide (x<(m:Int)))
 |0,m,h=>by
  have:(o.filter fun x=>decide (x<(m:Int)))=o:=by
   rw[List.filter_eq_self]
   intro x hx
   have:=idO_mem.1 (ho.mem_iff.1 hx)
   rw[decide_eq_true_eq];omega
  rw[this]
  unfold grwL
  rw[hc,cond_false];simp
 |f+1,m,h=>by
  have hcm:=(filt_sub (r:=r) hn ho (by omega:m≤n)).cw A hk hc
  unfold grwL
  rw[hcm,cond_false,List.mem_flatMap]
  obtain⟨i,hi,e⟩:=filt_ins ho (by omega:m<n)
  have hl:=perm_len (filt_perm ho (by omega:m≤n))
  refine⟨i,List.mem_range.2 (by omega),?_⟩
  rw[hl,e]
  exact grow_all A hn hk ho hc f (m+1) (by omega)
theorem grow_from {n:Nat}{r k:List Int}:∀(f:Nat) (o:List Int),okG o→∀l∈grwL n r k f o,∃o',o'.Perm (idO (o.length+f))∧cwB n r k o'=false∧l=leastL r o'
 |0,o,hg,l,h=>by
  unfold grwL at h
  cases hc:cwB n r k o with
  |true=>rw[hc]at h;cases h
  |false=>
   rw[hc]at h
   exact⟨o,hg,hc,List.mem_singleton.1 h⟩
 |f+1,o,hg,l,h=>by
  unfold grwL at h
  cases hc:cwB n r k o with
  |true=>rw[hc]at h;cases h
  |false=>
   rw[hc,cond_false,List.mem_flatMap]at h
   obtain⟨i,_,h⟩:=h
   obtain⟨o',p1,p2,p3⟩:=grow_from f _ (insA_perm hg) l h
   rw[insA_len']at p1
   exact⟨o',by rwa [show o.length+(f+1)=o.length+1+f by omega],p2,p3⟩
theorem addU_mem {x:List Int}:∀(M L:List (List Int)),x∈M.foldl addU L↔x∈L∨x∈M
 |[],L=>by simp
 |y::M,L=>by
  rw[List.foldl_cons,addU_mem M]
  unfold addU
  cases hc:L.contains y with
  |true=>
   have:=List.contains_iff_mem.1 hc
   rw[cond_true,List.mem_cons]
   constructor
   ·rintro(h|h)
    ·exact .inl h
    ·exact .inr (.inr h)
   ·rintro(h|rfl|h)
    ·exact .inl h
    ·exact .inl this
    ·exact .inr h
  |false=>
   rw[cond_false,List.mem_append,List.mem_singleton,List.mem_cons,or_assoc]
theorem ways_mem {n:Nat}{r k l:List Int}(A:Alt n r)(hn:n≤8)(hk:k.length=n):l∈waysL n r k↔l.Perm (idO n)∧cwB n r k l=false∧leastL r l=l:=by
 unfold waysL grwO
 rw[(srtL_perm _).mem_iff,addU_mem]
 constructor
 ·rintro(h|h)
  ·cases h
  ·obtain⟨o,p1,p2,rfl⟩:=grow_from _ _ (List.Perm.refl _:okG []) l h
   rw[show([]:List Int).length+(n-([]:List Int).length)=n by simp]at p1
   exact⟨least_permN p1,(least_sub hn p1).cw A hk p2,least_idem hn p1⟩
 ·rintro⟨p1,p2,p3⟩
  right
  have:=grow_all A hn hk p1 p2 n 0 (by omega)
  rw[p3]at this
  have e:(l.filter fun x=>decide (x<((0:Nat):Int)))=[]:=by
   rw[List.filter_eq_nil_iff]
   intro x hx
   have:=idO_mem.1 (p1.mem_iff.1 hx)
   simp;omega
  rw[e]at this
  exact this
theorem ways_srt {n:Nat}{r k:List Int}:(waysL n r k).Pairwise fun y z=>cmpL y z<0:=by
 unfold waysL
 exact srtL_srt (addU_ok (n:=n) _ _ ⟨List.nodup_nil,fun l hl=>by cases hl⟩ fun l hl=>by
  have:=grwL_perm _ _ l hl
  simpa using this).1
theorem srt_unique:∀{x y:List (List Int)},x.Pairwise (fun a b=>cmpL a b<0)→y.Pairwise (fun a b=>cmpL a b<0)→(∀l,l∈x↔l∈y)→x=y
 |[],[],_,_,_=>rfl
 |[],b::y,_,_,h=>by have:=(h b).2 (List.mem_cons_self ..);cases this
 |a::x,[],_,_,h=>by have:=(h a).1 (List.mem_cons_self ..);cases this
 |a::x,b::y,hx,hy,h=>by
  obtain⟨x1,x2⟩:=List.pairwise_cons.1 hx
  obtain⟨y1,y2⟩:=List.pairwise_cons.1 hy
  have irr:∀l:List Int,¬ cmpL l l<0:=fun l=>by rw[cmpL_self];omega
  have e:a=b:=by
   rcases List.mem_cons.1 ((h a).1 (List.mem_cons_self ..))with e|ha
   ·exact e
   ·rcases List.mem_cons.1 ((h b).2 (List.mem_cons_self ..))with e|hb
    ·exact e.symm
    ·exact absurd (cmpL_trans _ _ _ (x1 b hb) (y1 a ha)) (irr a)
  subst e
  rw[srt_unique x2 y2 fun l=>⟨fun hl=>?_,fun hl=>?_⟩]
  ·rcases List.mem_cons.1 ((h l).1 (List.mem_cons_of_mem _ hl))with rfl|h'
   ·exact absurd (x1 l hl) (irr l)
   ·exact h'
  ·rcases List.mem_cons.1 ((h l).2 (List.mem_cons_of_mem _ hl))with rfl|h'
   ·exact absurd (y1 l hl) (irr l)
   ·exact h'
end Go.Proofs.YthiammkiobbclaaGreatDoor.X

/-
 Cones, plain: the kinds that the ways of the fans ask for (run by the kernel).
-/
set_option maxRecDepth 1000000
set_option linter.unusedVariables false
namespace Go.Proofs.YthiammkiobbclaaGreatDoor.X
open Go Go.Ab

/-- The kinds that the ways of a fan ask for, where all creases may bend in both ways. -/
def ksW (a:List Int):List (List Int):=(waysL a.length (raysL a) (List.replicate a.length 3)).map (kdL a)
def ks0:List (List Int):=[[2,2,1,2,1,2],[2,2,1,1,2,2],[2,2,2,1,1,2],[2,1,1,2,1,1],[2,1,1,1,2,1],[2,1,1,2,1,1],[2,1,2,2,1,2],[2,1,2,2,1,2],[1,2,2,2,1,2],[2,2,1,1,1,1],[2,1,2,1,1,1],[1,2,2,1,1,1],[2,1,1,2,2,2],[2,1,1,2,2,2],[2,2,1,1,2,2],[2,1,2,1,2,2],[1,2,2,1,2,2],[1,2,1,2,2,2],[1,2,2,1,2,2],[1,1,2,2,2,2],[1,2,1,2,1,1],[1,2,1,1,2,1],[1,2,2,1,1,1],[1,1,2,2,1,1],[1,1,2,2,1,1],[1,1,1,2,2,1],[1,2,1,1,2,1],[1,1,2,1,2,1]]
def ks1:List (List Int):=[[2,2,1,2,2,1],[2,2,1,2,2,1],[2,2,2,1,2,1],[2,1,1,2,1,1],[2,1,1,2,1,1],[1,1,1,2,1,2],[2,1,2,2,2,1],[1,1,2,2,2,2],[1,2,2,2,2,1],[2,2,1,1,1,1],[2,2,1,1,1,1],[2,1,2,1,1,1],[1,1,2,1,1,2],[1,2,2,1,1,1],[2,1,1,1,1,2],[1,2,1,1,1,2],[1,1,2,1,1,2],[2,1,1,2,2,2],[2,1,1,2,2,2],[2,2,1,1,2,2],[2,1,2,1,2,2],[1,2,2,1,2,2],[1,2,1,2,2,2],[1,2,2,1,2,2],[1,1,2,2,2,2],[1,2,1,2,1,1],[1,2,2,1,1,1],[1,1,2,2,1,1]]
def ks2:List (List Int):=[[2,2,1,2,1,2],[2,2,1,2,2,1],[2,2,1,1,2,2],[2,1,1,1,1,2],[2,1,1,2,1,1],[2,1,1,1,2,1],[2,1,2,2,1,2],[2,1,2,2,2,1],[1,2,2,2,1,2],[1,2,2,2,2,1],[1,2,1,1,1,2],[1,1,2,1,1,2],[2,1,2,1,2,2],[1,2,2,1,2,2],[1,2,1,2,1,1],[1,2,1,1,2,1],[1,1,2,2,1,1],[1,1,2,1,2,1]]
def ks3:List (List Int):=[[2,2,1,2,1,2],[2,2,1,2,2,1],[2,2,1,2,2,1],[2,1,1,1,1,2],[2,1,1,1,2,1],[1,1,1,1,2,2],[2,1,2,2,1,2],[2,1,2,2,2,1],[1,1,2,2,2,2],[2,2,2,2,1,1],[2,1,2,2,1,2],[1,2,2,2,1,2],[1,2,2,2,2,1],[1,2,2,2,2,1],[2,2,1,1,1,1],[2,2,1,1,1,1],[2,1,2,1,1,1],[1,1,2,1,1,2],[1,2,2,1,1,1],[2,1,1,1,1,2],[1,2,1,1,1,2],[1,1,2,1,1,2],[2,1,1,2,2,2],[1,2,1,2,2,2],[1,1,2,2,2,2],[1,2,1,1,2,1],[1,2,1,1,2,1],[1,1,2,1,2,1]]
def ks4:List (List Int):=[[2,2,1,2],[2,1,1,1],[2,1,2,2],[1,2,2,2],[1,2,1,1],[1,1,2,1]]
def ks5:List (List Int):=[[2,2,2,2,1,1],[2,2,1,2,2,1],[2,2,2,1,2,1],[2,1,1,2,1,1],[2,1,1,1,2,1],[1,1,1,2,1,2],[1,1,1,1,2,2],[2,1,2,2,1,2],[1,2,2,2,1,2],[2,1,2,1,1,1],[1,1,2,1,1,2],[1,2,2,1,1,1],[2,1,1,2,2,2],[2,1,2,1,2,2],[1,2,2,1,2,2],[1,2,1,2,2,2],[1,2,1,2,1,1],[1,2,1,1,2,1]]
def ks6:List (List Int):=[[2,2,2,1,1,2],[2,2,2,2,1,1],[2,2,2,1,2,1],[2,1,1,1,1,2],[2,1,1,2,1,1],[2,1,1,1,2,1],[2,1,1,2,1,1],[1,1,1,2,1,2],[1,1,1,2,2,1],[1,1,1,1,2,2],[1,1,1,1,2,2],[2,1,2,2,1,2],[2,1,2,2,2,1],[1,1,2,2,2,2],[2,2,2,2,1,1],[2,1,2,2,1,2],[1,2,2,2,1,2],[1,2,2,2,2,1],[1,2,2,2,2,1],[2,2,1,1,1,1],[2,1,1,1,1,2],[1,2,1,1,1,2],[2,1,2,1,2,2],[1,2,2,1,2,2],[1,2,2,1,2,2],[1,2,1,2,1,1],[1,2,1,1,2,1],[1,2,1,1,2,1]]
def ks7:List (List Int):=[[2,1,1,1],[2,1,2,2],[1,2,2,2],[1,2,1,1]]
def ks8:List (List Int):=[[2,2,2,1],[2,1,1,1],[1,1,1,2],[2,1,2,2],[1,2,2,2],[1,2,1,1]]
def ks9:List (List Int):=[[2,2,1,2,1,2],[2,2,1,2,2,1],[2,2,1,1,2,2],[2,2,2,1,1,2],[2,2,2,1,1,2],[2,2,2,2,1,1],[2,2,1,2,2,1],[2,2,2,1,2,1],[1,1,1,2,1,2],[1,1,1,2,2,1],[1,1,1,1,2,2],[2,1,2,2,1,2],[2,1,2,2,2,1],[2,1,2,2,1,2],[1,1,2,1,1,2],[1,2,1,1,1,2],[1,1,2,1,1,2],[2,1,1,2,2,2],[2,2,1,1,2,2],[2,1,2,1,2,2],[1,2,1,2,1,1],[1,2,1,1,2,1],[1,2,2,1,1,1],[1,1,2,2,1,1],[1,1,2,2,1,1],[1,1,1,2,2,1],[1,2,1,1,2,1],[1,1,2,1,2,1]]
def ks10:List (List Int):=[[2,2,1,2,1,2],[2,2,1,2,2,1],[2,2,2,1,1,2],[2,2,2,1,2,1],[2,1,1,2,1,1],[1,1,1,2,1,2],[1,1,1,2,2,1],[2,1,2,2,1,2],[2,1,2,2,2,1],[1,1,2,2,2,2],[2,2,1,1,1,1],[2,1,2,1,1,1],[1,1,2,1,1,2],[1,2,1,1,1,2],[1,2,1,2,2,2],[1,2,2,1,2,2],[1,2,1,1,2,1],[1,1,2,1,2,1]]
def ks11:List (List Int):=[[2,2,1,2],[2,1,2,2],[1,2,1,1],[1,1,2,1]]
def ks12:List (List Int):=[[2,2,1,2,1,2],[2,2,1,2,2,1],[2,2,1,1,2,2],[2,2,2,1,1,2],[2,2,2,1,1,2],[2,2,2,2,1,1],[2,2,1,2,2,1],[2,2,2,1,2,1],[2,1,1,1,1,2],[2,1,1,2,1,1],[2,1,1,1,2,1],[2,1,1,2,1,1],[1,1,1,2,1,2],[1,1,1,2,2,1],[1,1,1,1,2,2],[1,1,1,1,2,2],[2,2,2,2,1,1],[1,2,2,2,1,2],[1,2,2,2,2,1],[2,1,2,1,1,1],[1,1,2,1,1,2],[1,1,2,1,1,2],[1,2,2,1,2,2],[1,2,1,2,2,2],[1,2,2,1,2,2],[1,1,2,2,1,1],[1,1,1,2,2,1],[1,1,2,1,2,1]]
def ks13:List (List Int):=[[2,2,1,2],[2,2,2,1],[2,1,1,1],[1,1,1,2],[2,1,2,2],[1,2,2,2],[1,2,1,1],[1,1,2,1]]
def ks14:List (List Int):=[[2,2,2,1],[2,1,1,1],[1,1,1,2],[1,2,2,2]]
def ks15:List (List Int):=[[2,2,1,2],[2,2,2,1],[1,1,1,2],[2,1,2,2],[1,2,1,1],[1,1,2,1]]
def ks16:List (List Int):=[[2,2,1,2],[2,2,2,1],[1,1,1,2],[1,1,2,1]]
def ks17:List (List Int):=[[2,2,1,2],[2,2,2,1],[2,1,1,1],[1,1,1,2],[1,2,2,2],[1,1,2,1]]
def ks18:List (List Int):=[[2,2],[1,1]]
def ks19:List (List Int):=[[2,2,1,2,1,2],[2,2,1,2,2,1],[2,2,1,1,2,2],[2,2,2,1,1,2],[2,2,2,1,1,2],[2,2,2,2,1,1],[2,2,1,2,2,1],[2,2,2,1,2,1],[2,1,1,1,1,2],[2,1,1,2,1,1],[2,1,1,1,2,1],[2,1,1,2,1,1],[1,1,1,2,1,2],[1,1,1,2,2,1],[1,1,1,1,2,2],[1,1,1,1,2,2],[2,1,2,2,1,2],[2,1,2,2,2,1],[1,1,2,2,2,2],[2,2,2,2,1,1],[2,1,2,2,1,2],[1,2,2,2,1,2],[1,2,2,2,2,1],[1,2,2,2,2,1],[2,2,1,1,1,1],[2,2,1,1,1,1],[2,1,2,1,1,1],[1,1,2,1,1,2],[1,2,2,1,1,1],[2,1,1,1,1,2],[1,2,1,1,1,2],[1,1,2,1,1,2],[2,1,1,2,2,2],[2,1,1,2,2,2],[2,2,1,1,2,2],[2,1,2,1,2,2],[1,2,2,1,2,2],[1,2,1,2,2,2],[1,2,2,1,2,2],[1,1,2,2,2,2],[1,2,1,2,1,1],[1,2,1,1,2,1],[1,2,2,1,1,1],[1,1,2,2,1,1],[1,1,2,2,1,1],[1,1,1,2,2,1],[1,2,1,1,2,1],[1,1,2,1,2,1]]
def ks20:List (List Int):=[[2,2,1,2],[2,1,1,1],[2,1,2,2],[1,2,2,2],[1,2,1,1],[1,1,2,1]]
def ks21:List (List Int):=[[2,2,2,1],[2,1,1,1],[1,1,1,2],[2,1,2,2],[1,2,2,2],[1,2,1,1]]
def ks22:List (List Int):=[[2,2,1,2],[2,2,2,1],[1,1,1,2],[2,1,2,2],[1,2,1,1],[1,1,2,1]]
def ks23:List (List Int):=[[2,2,1,2],[2,2,2,1],[2,1,1,1],[1,1,1,2],[1,2,2,2],[1,1,2,1]]
def ks24:List (List Int):=[[2,2],[1,1]]
def ks25:List (List Int):=[[2,2,1,2],[2,2,2,1],[2,1,1,1],[1,1,1,2],[2,1,2,2],[1,2,2,2],[1,2,1,1],[1,1,2,1]]
def ks26:List (List Int):=[[2,2],[1,1]]
def ks27:List (List Int):=[[2,2],[1,1]]
def ks28:List (List Int):=[[]]
def ksT:List (List Int×List (List Int)):=[([1,1,1,1,2,2],ks0),([1,1,1,2,2,1],ks1),([1,1,2,1,1,2],ks2),([1,1,2,2,1,1],ks3),([1,1,3,3],ks4),([1,2,1,1,2,1],ks5),([1,2,2,1,1,1],ks6),([1,2,3,2],ks7),([1,3,3,1],ks8),([2,1,1,1,1,2],ks9),([2,1,1,2,1,1],ks10),([2,1,2,3],ks11),([2,2,1,1,1,1],ks12),([2,2,2,2],ks13),([2,3,2,1],ks14),([3,1,1,3],ks15),([3,2,1,2],ks16),([3,3,1,1],ks17),([4,4],ks18),([1,1,1,1,1,1],ks19),([1,1,2,2],ks20),([1,2,2,1],ks21),([2,1,1,2],ks22),([2,2,1,1],ks23),([3,3],ks24),([1,1,1,1],ks25),([2,2],ks26),([1,1],ks27),([],ks28)]
theorem ks0_ok:ksW [1,1,1,1,2,2]=ks0:=by decide +kernel
theorem ks1_ok:ksW [1,1,1,2,2,1]=ks1:=by decide +kernel
theorem ks2_ok:ksW [1,1,2,1,1,2]=ks2:=by decide +kernel
theorem ks3_ok:ksW [1,1,2,2,1,1]=ks3:=by decide +kernel
theorem ks4_ok:ksW [1,1,3,3]=ks4:=by decide +kernel
theorem ks5_ok:ksW [1,2,1,1,2,1]=ks5:=by decide +kernel
theorem ks6_ok:ksW [1,2,2,1,1,1]=ks6:=by decide +kernel
theorem ks7_ok:ksW [1,2,3,2]=ks7:=by decide +kernel
theorem ks8_ok:ksW [1,3,3,1]=ks8:=by decide +kernel
theorem ks9_ok:ksW [2,1,1,1,1,2]=ks9:=by decide +kernel
theorem ks10_ok:ksW [2,1,1,2,1,1]=ks10:=by decide +kernel
theorem ks11_ok:ksW [2,1,2,3]=ks11:=by decide +kernel
theorem ks12_ok:ksW [2,2,1,1,1,1]=ks12:=by decide +kernel
theorem ks13_ok:ksW [2,2,2,2]=ks13:=by decide +kernel
theorem ks14_ok:ksW [2,3,2,1]=ks14:=by decide +kernel
theorem ks15_ok:ksW [3,1,1,3]=ks15:=by decide +kernel
theorem ks16_ok:ksW [3,2,1,2]=ks16:=by decide +kernel
theorem ks17_ok:ksW [3,3,1,1]=ks17:=by decide +kernel
theorem ks18_ok:ksW [4,4]=ks18:=by decide +kernel
theorem ks19_ok:ksW [1,1,1,1,1,1]=ks19:=by decide +kernel
theorem ks20_ok:ksW [1,1,2,2]=ks20:=by decide +kernel
theorem ks21_ok:ksW [1,2,2,1]=ks21:=by decide +kernel
theorem ks22_ok:ksW [2,1,1,2]=ks22:=by decide +kernel
theorem ks23_ok:ksW [2,2,1,1]=ks23:=by decide +kernel
theorem ks24_ok:ksW [3,3]=ks24:=by decide +kernel
theorem ks25_ok:ksW [1,1,1,1]=ks25:=by decide +kernel
theorem ks26_ok:ksW [2,2]=ks26:=by decide +kernel
theorem ks27_ok:ksW [1,1]=ks27:=by decide +kernel
theorem ks28_ok:ksW []=ks28:=by decide +kernel
end Go.Proofs.YthiammkiobbclaaGreatDoor.X
