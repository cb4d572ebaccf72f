/-
 Cones, plain: which orders are ways.
-/
import Derived.Test.YthiammkiobbclaaD21Z
import Derived.Test.YthiammkiobbclaaD36Z
import Derived.Test.YthiammkiobbclaaP20Z
import Derived.Test.YthiammkiobbclaaC24Z
set_option maxRecDepth 1000000
set_option linter.unusedVariables false
namespace Go.Proofs.Ythiammkiobbclaa.X
open Go Go.Ab

/-! ### Sectors that overlap -/
theorem ovl_comm (r:List Int)(u v:Int):ovlB r u v=ovlB r v u:=by
 unfold ovlB
 have h1:∀x y:Int,mxI x y=mxI y x:=fun x y=>by unfold mxI;split<;>split<;>omega
 have h2:∀x y:Int,mnI x y=mnI y x:=fun x y=>by unfold mnI;split<;>split<;>omega
 rw[h1 (mnI (gR r u) (gR r (u+1))),h2 (mxI (gR r u) (gR r (u+1)))]
theorem ov_skip {r:List Int}{g:Bool}{y u v:Int}(h1:skG r g y u=false)(h2:skG r g y v=false):ovlB r u v=true:=by
 unfold skG at h1 h2
 unfold ovlB
 rw[ltb_iff]
 generalize mnI (gR r u) (gR r (u+1))=a at*
 generalize mxI (gR r u) (gR r (u+1))=b at*
 generalize mnI (gR r v) (gR r (v+1))=c at*
 generalize mxI (gR r v) (gR r (v+1))=d at*
 unfold mxI mnI
 cases g<;>simp[ltb_no,leb_no]at h1 h2<;>(split<;>split<;>omega)
/-- The sectors of one order lie as in the other one, as far as they overlap and are there. -/
structure Sub (n:Nat)(r rk' rk:List Int):Prop where
 all:∀u:Int,0≤u→u<n→0≤gR rk u
 rel:∀u v:Int,0≤u→u<n→0≤v→v<n→ovlB r u v=true→0≤gR rk' u→0≤gR rk' v→(gR rk' u<gR rk' v↔gR rk u<gR rk v)
theorem btw_iff {n c s:Int}{rk:List Int}:btwB n rk c s=true↔(0≤gR rk (bfI n c)∧0≤gR rk c)∧((gR rk (bfI n c)<gR rk s∧gR rk s<gR rk c)∨(gR rk c<gR rk s∧gR rk s<gR rk (bfI n c))):=by
 unfold btwB
 rw[Bool.and_eq_true,Bool.and_eq_true,leb_iff,ltb_iff,ltb_iff]
 unfold mnI mxI
 split<;>split<;>omega
section
variable {n:Nat}{r rk' rk:List Int}(A:Alt n r)(S:Sub n r rk' rk)
include A S
theorem Sub.btw {c s:Int}{g:Bool}(h0:0≤c)(h1:c<n)(s0:0≤s)(s1:s<n)(hg:sidB r c=g)(hs:skG r g (gR r c) s=false)(p1:0≤gR rk' (bfI n c))(p2:0≤gR rk' c)(p3:0≤gR rk' s):
  btwB n rk' c s=btwB n rk c s:=by
 obtain⟨b1,b2,_⟩:=A.bf h0 h1
 have e1:=(A.ev2 h0 h1 rfl hg (.inl rfl)).1
 have e2:=(A.ev2 h0 h1 rfl hg (.inr rfl)).1
 rw[Bool.eq_iff_iff,btw_iff,btw_iff]
 have r1:=S.rel _ _ b1 b2 s0 s1 (ov_skip e2 hs) p1 p3
 have r2:=S.rel _ _ s0 s1 h0 h1 (ov_skip hs e1) p3 p2
 have r3:=S.rel _ _ h0 h1 s0 s1 (ov_skip e1 hs) p2 p3
 have r4:=S.rel _ _ s0 s1 b1 b2 (ov_skip hs e2) p3 p1
 have a1:=S.all _ b1 b2
 have a2:=S.all _ h0 h1
 rw[r1,r2,r3,r4]
 constructor
 ·exact fun h=>⟨⟨a1,a2⟩,h.2⟩
 ·exact fun h=>⟨⟨p1,p2⟩,h.2⟩
theorem Sub.crs {i k:Int}(h0:0≤i)(h1:i<n)(k0:0≤k)(k1:k<n)(h:crs1 n r rk' i k=true):crs1 n r rk i k=true:=by
 unfold crs1 at h ⊢
 rw[Bool.or_eq_true]at h ⊢
 rcases h with h|h
 ·left
  rw[Bool.and_eq_true]at h ⊢
  refine⟨h.1,?_⟩
  have hb:=btw_iff.1 h.2
  rw[← S.btw A h0 h1 k0 k1 rfl ((A.skip k0 k1).2 (.inl h.1)) hb.1.1 hb.1.2 (by omega)]
  exact h.2
 ·right
  simp only[Bool.and_eq_true,bne_iff_ne,beq_iff_eq,ne_eq,leb_iff]at h ⊢
  obtain⟨c1,c2,c3,c4,c5⟩:=h
  obtain⟨b1,b2,_⟩:=A.bf k0 k1
  have c4':=mn_0.1 c4
  have e1:=(A.ev2 k0 k1 c2 c3 (.inl rfl)).1
  have e2:=(A.ev2 k0 k1 c2 c3 (.inr rfl)).1
  refine⟨c1,c2,c3,mn_0.2 ⟨S.all _ b1 b2,S.all _ k0 k1⟩,?_⟩
  have hp:0≤gR rk' (bfI n i)∧0≤gR rk' i:=by
   cases hb1:btwB n rk' i (bfI n k)with
   |true=>exact(btw_iff.1 hb1).1
   |false=>
    cases hb2:btwB n rk' i k with
    |true=>exact(btw_iff.1 hb2).1
    |false=>rw[hb1,hb2]at c5;exact absurd rfl c5
  rw[← S.btw A h0 h1 b1 b2 rfl e2 hp.1 hp.2 c4'.1,← S.btw A h0 h1 k0 k1 rfl e1 hp.1 hp.2 c4'.2]
  exact c5
theorem Sub.kd {i:Int}(h0:0≤i)(h1:i<n)(p1:0≤gR rk' (bfI n i))(p2:0≤gR rk' i):kdI n rk' i=kdI n rk i:=by
 obtain⟨b1,b2,_⟩:=A.bf h0 h1
 have e1:=(A.ev2 h0 h1 rfl rfl (.inl rfl)).1
 have e2:=(A.ev2 h0 h1 rfl rfl (.inr rfl)).1
 have r1:=S.rel _ _ b1 b2 h0 h1 (ov_skip e2 e1) p1 p2
 have r2:=S.rel _ _ h0 h1 b1 b2 (ov_skip e1 e2) p2 p1
 unfold kdI
 simp only[r1,r2]
theorem Sub.wrg {k:List Int}(hk:k.length=n){i:Int}(h0:0≤i)(h1:i<n)(h:wrg1 k rk' i=true):wrg1 k rk i=true:=by
 unfold wrg1 at h ⊢
 simp only[Bool.and_eq_true,bne_iff_ne,ne_eq,leb_iff,hk]at h ⊢
 obtain⟨c1,c2,c3⟩:=h
 obtain⟨b1,b2,_⟩:=A.bf h0 h1
 have c2':=mn_0.1 c2
 refine⟨c1,mn_0.2 ⟨S.all _ b1 b2,S.all _ h0 h1⟩,?_⟩
 rw[← S.kd A h0 h1 c2'.1 c2'.2];exact c3
end
theorem Sub.cw {n:Nat}{r k o' o:List Int}(A:Alt n r)(hk:k.length=n)(S:Sub n r (rkL o') (rkL o))(h:cwB n r k o=false):cwB n r k o'=false:=by
 rw[← Bool.not_eq_true]at h ⊢
 intro h'
 apply h
 rw[cwB_or]at h' ⊢
 rcases h' with h'|h'
 ·left
  unfold crsB at h' ⊢
  obtain⟨i,hi,h'⟩:=anyN_iff.1 h'
  obtain⟨j,hj,h'⟩:=anyN_iff.1 h'
  exact anyN_iff.2 ⟨i,hi,anyN_iff.2 ⟨j,hj,S.crs A (by omega) (by omega) (by omega) (by omega) h'⟩⟩
 ·right
  unfold wrgB at h' ⊢
  obtain⟨i,hi,h'⟩:=anyN_iff.1 h'
  rw[hk]at hi
  exact anyN_iff.2 ⟨i,by omega,S.wrg A hk (by omega) (by omega) h'⟩
/-! ### The first of the orders that are the same -/
theorem find_congr {α:Type}{p q:α→Bool}:∀(l:List α),(∀x∈l,p x=q x)→l.find? p=l.find? q
 |[],_=>rfl
 |x::l,h=>by
  rw[List.find?_cons,List.find?_cons,h x (List.mem_cons_self ..),find_congr l fun y hy=>h y (List.mem_cons_of_mem _ hy)]
theorem lst_take {r rk:List Int}{n:Nat}:∀(d m:Nat),(lstN r rk n (m+d)).take m=lstN r rk n m
 |0,m=>by rw[Nat.add_zero,List.take_of_length_le (by rw[lstN_len];exact Nat.le_refl _)]
 |d+1,m=>by
  have ih:=lst_take (r:=r) (rk:=rk) (n:=n) d m
  show(lstN r rk n (m+d)++_).take m=_
  rw[List.take_append_of_le_length (by rw[lstN_len];omega),ih]
theorem lst_at {r rk:List Int}{n m:Nat}(h:m<n):(lstN r rk n n)[m]? =some (fr1 r rk n (lstN r rk n m)):=by
 have e:=lst_take (r:=r) (rk:=rk) (n:=n) (n-(m+1)) (m+1)
 rw[show m+1+(n-(m+1))=n by omega]at e
 have:((lstN r rk n n).take (m+1))[m]? =(lstN r rk n n)[m]? :=by rw[List.getElem?_take_of_lt (by omega)]
 rw[← this,e]
 show(lstN r rk n m++[_])[m]? =_
 rw[List.getElem?_append_right (by rw[lstN_len];exact Nat.le_refl _),lstN_len]
 simp
theorem frC_iff {r rk out:List Int}{i k:Int}:frC r rk out i k=true↔k∈out∨gR rk i≤gR rk k∨ovlB r i k=false:=by
 unfold frC
 rw[Bool.or_eq_true,Bool.or_eq_true,memB_true,leb_iff,Bool.not_eq_true']
theorem frK_iff {r rk out:List Int}{i:Int}{n:Nat}:frK r rk out i n=true↔i∉out∧∀k:Nat,k<n→((k:Int)∈out∨gR rk i≤gR rk k∨ovlB r i k=false):=by
 unfold frK
 rw[Bool.and_eq_true,Bool.not_eq_true',memB_no,List.all_eq_true]
 simp only[List.mem_range,frC_iff]
/-- What overlaps stays in its order. -/
theorem least_rel {n:Nat}{r o:List Int}(hn:n≤8)(ho:o.Perm (idO n)){u v:Int}(u0:0≤u)(u1:u<n)(v0:0≤v)(v1:v<n)(hov:ovlB r u v=true)(h:gR (rkL o) u<gR (rkL o) v):
  gR (rkL (leastL r o)) u<gR (rkL (leastL r o)) v:=by
 have hl:=perm_len ho
 have hp:(leastL r o).Perm (idO n):=by rw[← hl];exact leastL_perm r o
 obtain⟨R1,R2⟩:=rk_facts hn hp
 obtain⟨m,hm,e1,e2⟩:=R2 v v0 v1
 have hmn:m<n:=by rw[perm_len hp]at hm;exact hm
 have e3:leastL r o=lstN r (rkF o) n n:=by unfold leastL;rw[hl]
 have e4:=lst_at (r:=r) (rk:=rkF o) hmn
 rw[← e3,List.getElem?_eq_getElem hm,e1]at e4
 obtain⟨m',h1,h2,h3⟩:=fr1_ok (r:=r) (rk:=rkF o) (out:=lstN r (rkF o) n m) (n:=n) (by rw[lstN_len];omega)
 rw[h2]at e4
 cases e4
 have h4:=(frK_iff.1 h3).2 u.toNat (by omega)
 rw[show((u.toNat:Nat):Int)=u by omega]at h4
 rw[rkL_eq o]at h
 rw[ovl_comm]at hov
 have h5:u∈lstN r (rkF o) n m:=by
  rcases h4 with h4|h4|h4
  ·exact h4
  ·omega
  ·rw[hov]at h4;cases h4
 have e5:=lst_take (r:=r) (rk:=rkF o) (n:=n) (n-m) m
 rw[show m+(n-m)=n by omega,← e3]at e5
 rw[← e5]at h5
 obtain⟨j,hj,hj2⟩:=List.getElem_of_mem h5
 rw[List.length_take]at hj
 rw[List.getElem_take]at hj2
 have:=(R1 j (by omega)).2.2
 rw[hj2]at this
 omega
theorem rk_tri {n:Nat}{o:List Int}(hn:n≤8)(ho:o.Perm (idO n)){u v:Int}(u0:0≤u)(u1:u<n)(v0:0≤v)(v1:v<n):gR (rkL o) u=gR (rkL o) v→u=v:=fun e=>by
 obtain⟨R1,R2⟩:=rk_facts hn ho
 obtain⟨m,hm,e1,e2⟩:=R2 u u0 u1
 obtain⟨m',hm',e3,e4⟩:=R2 v v0 v1
 have:m=m':=by omega
 subst this
 rw[← e1,← e3]
theorem rk_nn {n:Nat}{o:List Int}(hn:n≤8)(ho:o.Perm (idO n)){u:Int}(u0:0≤u)(u1:u<n):0≤gR (rkL o) u:=by
 obtain⟨m,hm,e1,e2⟩:=(rk_facts hn ho).2 u u0 u1
 omega
theorem least_iff {n:Nat}{r o:List Int}(hn:n≤8)(ho:o.Perm (idO n)){u v:Int}(u0:0≤u)(u1:u<n)(v0:0≤v)(v1:v<n)(hov:ovlB r u v=true):
  gR (rkL (leastL r o)) u<gR (rkL (leastL r o)) v↔gR (rkL o) u<gR (rkL o) v:=by
 constructor
 ·intro h
  rcases Int.lt_or_le (gR (rkL o) u) (gR (rkL o) v)with h1|h1
  ·exact h1
  ·by_cases e:gR (rkL o) v=gR (rkL o) u
   ·have:=rk_tri hn ho v0 v1 u0 u1 e
    subst this;omega
   ·have:=least_rel hn ho v0 v1 u0 u1 (by rw[ovl_comm];exact hov) (by omega:gR (rkL o) v<gR (rkL o) u)
    omega
 ·exact least_rel hn ho u0 u1 v0 v1 hov
theorem least_permN {n:Nat}{r o:List Int}(ho:o.Perm (idO n)):(leastL r o).Perm (idO n):=by
 have:=leastL_perm r o
 rwa [perm_len ho]at this
theorem least_sub {n:Nat}{r o:List Int}(hn:n≤8)(ho:o.Perm (idO n)):Sub n r (rkL (leastL r o)) (rkL o):=
 ⟨fun u a b=>rk_nn hn ho a b,fun u v a b c d e _ _=>least_iff hn ho a b c d e⟩
theorem lst_congr {r rk rk':List Int}{n:Nat}(h:∀u v:Int,0≤u→u<n→0≤v→v<n→ovlB r u v=true→(gR rk u<gR rk v↔gR rk' u<gR rk' v)):∀m,lstN r rk n m=lstN r rk' n m
 |0=>rfl
 |m+1=>by
  have ih:=lst_congr h m
  unfold lstN
  rw[ih]
  congr 2
  unfold fr1
  rw[find_congr _ fun i hi=>?_]
  have hi:=List.mem_range.1 hi
  rw[Bool.eq_iff_iff,frK_iff,frK_iff]
  have:∀k:Nat,k<n→(((k:Int)∈lstN r rk' n m∨gR rk i≤gR rk k∨ovlB r i k=false)↔((k:Int)∈lstN r rk' n m∨gR rk' i≤gR rk' k∨ovlB r i k=false)):=fun k hk=>by
   cases hov:ovlB r i k with
   |false=>simp
   |true=>
    have:=h k i (by omega) (by omega) (by omega) (by omega) (by rw[ovl_comm];exact hov)
    have e:gR rk i≤gR rk k↔gR rk' i≤gR rk' k:=by omega
    rw[e]
  constructor
  ·exact fun h=>⟨h.1,fun k hk=>(this k hk).1 (h.2 k hk)⟩
  ·exact fun h=>⟨h.1,fun k hk=>(this k hk).2 (h.2 k hk)⟩
theorem least_idem {n:Nat}{r o:List Int}(hn:n≤8)(ho:o.Perm (idO n)):leastL r (leastL r o)=leastL r o:=by
 have h1:=perm_len ho
 have h2:=leastL_len r o
 unfold leastL at h2 ⊢
 rw[h2,h1]
 rw[h1]at h2
 refine lst_congr (fun u v a b c d e=>?_) n
 have:=least_iff hn ho a b c d e
 rw[rkL_eq,rkL_eq]at this
 unfold leastL at this
 rw[h1]at this
 exact this
/-! ### Growing reaches all -/
theorem sub2_iff {o:List Int}(hN:o.Nodup)(hO:okO o){u v:Int}(hu:u∈o)(hv:v∈o):gR (rkF o) u<gR (rkF o) v↔u≠v∧[u,v].Sublist o:=by
 obtain⟨i,hi,e1⟩:=List.getElem_of_mem hu
 obtain⟨j,hj,e2⟩:=List.getElem_of_mem hv
 have r1:=rk_at hN hO hi
 have r2:=rk_at hN hO hj
 rw[e1]at r1
 rw[e2]at r2
 rw[r1,r2]
 constructor
 ·intro h
  refine⟨fun e=>?_,?_⟩
  ·rw[e]at r1;omega
  ·have:=List.map_getElem_sublist (l:=o) (is:=[⟨i,hi⟩,⟨j,hj⟩]) (by simp;omega)
   simpa[e1,e2]using this
 ·rintro⟨hne,h⟩
  obtain⟨is,e3,e4⟩:=List.sublist_eq_map_getElem h
  match is,e3,e4 with
  |[a,b],e3,e4=>
   simp only[List.map_cons,List.map_nil,List.cons.injEq,and_true]at e3
   have q1:=rk_at hN hO a.2
   have q2:=rk_at hN hO b.2
   have e5:o[a.1]=u:=e3.1.symm
   have e6:o[b.1]=v:=e3.2.symm
   rw[e5,r1]at q1
   rw[e6,r2]at q2
   have:a<b:=by simpa using e4
   have:a.1<b.1:=this
   omega
theorem filt_perm {n m:Nat}{o:List Int}(ho:o.Perm (idO n))(hm:m≤n):(o.filter fun x=>decide (x<(m:Int))).Perm (idO m):=by
 refine(ho.filter _).trans ?_
 have:(idO n).filter (fun x=>decide (x<(m:Int)))=idO m:=by
  unfold idO
  rw[List.filter_map]
  have e:List.range n=List.range m++(List.range (n-m)).map (m+·):=by
   rw[← List.range_add];congr 1;omega
  rw[e,List.filter_append]
  have e1:(List.range m).filter ((fun x:Int=>decide (x<(m:Int)))∘fun(i:Nat)=>(i:Int))=List.range m:=by
   rw[List.filter_eq_self]
   intro a ha
   have:=List.mem_range.1 ha
   simp only[Function.comp,decide_eq_true_eq];omega
  have e2:((List.range (n-m)).map (m+·)).filter ((fun x:Int=>decide (x<(m:Int)))∘fun(i:Nat)=>(i:Int))=[]:=by
   rw[List.filter_eq_nil_iff]
   intro a ha
   obtain⟨b,_,rfl⟩:=List.mem_map.1 ha
   simp only[Function.comp,decide_eq_true_eq];omega
  rw[e1,e2,List.append_nil]
 rw[this]
theorem filt_sub {n m:Nat}{r o:List Int}(hn:n≤8)(ho:o.Perm (idO n))(hm:m≤n):Sub n r (rkL (o.filter fun x=>decide (x<(m:Int)))) (rkL o):=by
 have hf:=filt_perm ho hm
 have N1:=perm_nodup ho
 have O1:=perm_okO ho hn
 have N2:=perm_nodup hf
 have O2:=perm_okO hf (by omega:m≤8)
 refine⟨fun u a b=>rk_nn hn ho a b,fun u v a b c d _ p1 p2=>?_⟩
 rw[rkL_eq]at p1 p2
 have pres:∀w:Int,0≤w→w<n→0≤gR (rkF (o.filter fun x=>decide (x<(m:Int)))) w→w∈o.filter fun x=>decide (x<(m:Int)):=fun w w0 w1 h=>by
  refine Classical.byContradiction fun hc=>?_
  rw[rk_no O2 w0 (by omega) hc]at h
  omega
 have hu:=pres u a b p1
 have hv:=pres v c d p2
 have hu':=List.mem_filter.1 hu
 have hv':=List.mem_filter.1 hv
 rw[rkL_eq,rkL_eq,sub2_iff N2 O2 hu hv,sub2_iff N1 O1 hu'.1 hv'.1]
 refine and_congr_right fun _=>⟨fun h=>h.trans List.filter_sublist,fun h=>?_⟩
 have:=h.filter fun x=>decide (x<(m:Int))
 have e:[u,v].filter (fun x:Int=>decide (x<(m:Int)))=[u,v]:=by
  rw[List.filter_eq_self]
  intro x hx
  simp only[List.mem_cons,List.not_mem_nil,or_false]at hx
  rcases hx with rfl|rfl
  ·exact hu'.2
  ·exact hv'.2
 rwa [e]at this
theorem filt_ins {n m:Nat}{o:List Int}(ho:o.Perm (idO n))(hm:m<n):∃i,i≤m∧insA (o.filter fun x=>decide (x<(m:Int))) i (m:Int)=o.filter fun x=>decide (x<((m+1:Nat):Int)):=by
 have hN:=perm_nodup ho
 have hmem:(m:Int)∈o:=ho.mem_iff.2 (idO_mem.2 (by omega))
 obtain⟨s,t,rfl⟩:=List.append_of_mem hmem
 have hl:=perm_len (filt_perm ho (by omega:m≤n))
 have hnot:∀x∈s++t,x≠(m:Int):=fun x hx e=>by
  subst e
  have:=List.perm_middle.nodup_iff.1 hN
  exact(List.nodup_cons.1 this).1 hx
 have e0:∀l:List Int,(∀x∈l,x≠(m:Int))→l.filter (fun x=>decide (x<((m+1:Nat):Int)))=l.filter fun x=>decide (x<(m:Int)):=fun l hl=>by
  refine List.filter_congr fun x hx=>?_
  have:=hl x hx
  rw[decide_eq_decide];omega
 have hs:=e0 s fun x hx=>hnot x (List.mem_append_left _ hx)
 have ht:=e0 t fun x hx=>hnot x (List.mem_append_right _ hx)
 rw[List.filter_append,List.filter_cons_of_neg (by simp)]at hl ⊢
 refine⟨(s.filter fun x=>decide (x<(m:Int))).length,?_,?_⟩
 ·rw[List.length_append]at hl;omega
 ·rw[List.filter_append,List.filter_cons_of_pos (by simp;omega),hs,ht]
  unfold insA
  rw[List.take_left,List.drop_left]
theorem grow_all {n:Nat}{r k o:List Int}(A:Alt n r)(hn:n≤8)(hk:k.length=n)(ho:o.Perm (idO n))(hc:cwB n r k o=false):∀(f m:Nat),m+f=n→leastL r o∈grwL n r k f (o.filter fun x=>decide (x<(m:Int)))
 |0,m,h=>by
  have:(o.filter fun x=>decide (x<(m:Int)))=o:=by
   rw[List.filter_eq_self]
   intro x hx
   have:=idO_mem.1 (ho.mem_iff.1 hx)
   rw[decide_eq_true_eq];omega
  rw[this]
  unfold grwL
  rw[hc,cond_false];simp
 |f+1,m,h=>by
  have hcm:=(filt_sub (r:=r) hn ho (by omega:m≤n)).cw A hk hc
  unfold grwL
  rw[hcm,cond_false,List.mem_flatMap]
  obtain⟨i,hi,e⟩:=filt_ins ho (by omega:m<n)
  have hl:=perm_len (filt_perm ho (by omega:m≤n))
  refine⟨i,List.mem_range.2 (by omega),?_⟩
  rw[hl,e]
  exact grow_all A hn hk ho hc f (m+1) (by omega)
theorem grow_from {n:Nat}{r k:List Int}:∀(f:Nat) (o:List Int),okG o→∀l∈grwL n r k f o,∃o',o'.Perm (idO (o.length+f))∧cwB n r k o'=false∧l=leastL r o'
 |0,o,hg,l,h=>by
  unfold grwL at h
  cases hc:cwB n r k o with
  |true=>rw[hc]at h;cases h
  |false=>
   rw[hc]at h
   exact⟨o,hg,hc,List.mem_singleton.1 h⟩
 |f+1,o,hg,l,h=>by
  unfold grwL at h
  cases hc:cwB n r k o with
  |true=>rw[hc]at h;cases h
  |false=>
   rw[hc,cond_false,List.mem_flatMap]at h
   obtain⟨i,_,h⟩:=h
   obtain⟨o',p1,p2,p3⟩:=grow_from f _ (insA_perm hg) l h
   rw[insA_len']at p1
   exact⟨o',by rwa [show o.length+(f+1)=o.length+1+f by omega],p2,p3⟩
theorem addU_mem {x:List Int}:∀(M L:List (List Int)),x∈M.foldl addU L↔x∈L∨x∈M
 |[],L=>by simp
 |y::M,L=>by
  rw[List.foldl_cons,addU_mem M]
  unfold addU
  cases hc:L.contains y with
  |true=>
   have:=List.contains_iff_mem.1 hc
   rw[cond_true,List.mem_cons]
   constructor
   ·rintro(h|h)
    ·exact .inl h
    ·exact .inr (.inr h)
   ·rintro(h|rfl|h)
    ·exact .inl h
    ·exact .inl this
    ·exact .inr h
  |false=>
   rw[cond_false,List.mem_append,List.mem_singleton,List.mem_cons,or_assoc]
theorem ways_mem {n:Nat}{r k l:List Int}(A:Alt n r)(hn:n≤8)(hk:k.length=n):l∈waysL n r k↔l.Perm (idO n)∧cwB n r k l=false∧leastL r l=l:=by
 unfold waysL grwO
 rw[(srtL_perm _).mem_iff,addU_mem]
 constructor
 ·rintro(h|h)
  ·cases h
  ·obtain⟨o,p1,p2,rfl⟩:=grow_from _ _ (List.Perm.refl _:okG []) l h
   rw[show([]:List Int).length+(n-([]:List Int).length)=n by simp]at p1
   exact⟨least_permN p1,(least_sub hn p1).cw A hk p2,least_idem hn p1⟩
 ·rintro⟨p1,p2,p3⟩
  right
  have:=grow_all A hn hk p1 p2 n 0 (by omega)
  rw[p3]at this
  have e:(l.filter fun x=>decide (x<((0:Nat):Int)))=[]:=by
   rw[List.filter_eq_nil_iff]
   intro x hx
   have:=idO_mem.1 (p1.mem_iff.1 hx)
   simp;omega
  rw[e]at this
  exact this
theorem ways_srt {n:Nat}{r k:List Int}:(waysL n r k).Pairwise fun y z=>cmpL y z<0:=by
 unfold waysL
 exact srtL_srt (addU_ok (n:=n) _ _ ⟨List.nodup_nil,fun l hl=>by cases hl⟩ fun l hl=>by
  have:=grwL_perm _ _ l hl
  simpa using this).1
end Go.Proofs.Ythiammkiobbclaa.X

/-
 Rings and strips, plain: a ring's ways are ways of the strip.
-/
set_option maxRecDepth 1000000
set_option linter.unusedVariables false
namespace Go.Proofs.Ythiammkiobbclaa.X
open Go Go.Ab

/-- The ranks of what is in a pile. -/
theorem rkA_some:∀(o l m:List Int) (i u:Int),0≤u→u∈o→gR (rkA l i o) u=gR (rkA m i o) u∨¬ (u.toNat<l.length)∨¬ (u.toNat<m.length)∨∃x∈o,x<0
 |[],l,m,i,u,h0,h=>by cases h
 |x::o,l,m,i,u,h0,h=>by
  by_cases hx:x<0
  ·exact .inr (.inr (.inr ⟨x,List.mem_cons_self ..,hx⟩))
  by_cases hl:u.toNat<l.length
  ·by_cases hm:u.toNat<m.length
   ·by_cases ho:u∈o
    ·rcases rkA_some o (l.set x.toNat i) (m.set x.toNat i) (i+1) u h0 ho with h1|h1|h1|⟨y,h1,h2⟩
     ·exact .inl h1
     ·rw[List.length_set]at h1;exact absurd hl h1
     ·rw[List.length_set]at h1;exact absurd hm h1
     ·exact .inr (.inr (.inr ⟨y,List.mem_cons_of_mem _ h1,h2⟩))
    ·have hux:u=x:=by
      rcases List.mem_cons.1 h with e|e
      ·exact e
      ·exact absurd e ho
     subst hux
     by_cases hn:∃y∈o,y<0
     ·obtain⟨y,h1,h2⟩:=hn
      exact .inr (.inr (.inr ⟨y,List.mem_cons_of_mem _ h1,h2⟩))
     left
     have key:∀(o l:List Int) (j:Int),u∉o→(∀y∈o,0≤y)→gR (rkA l j o) u=gR l u:=by
      intro o
      induction o with
      |nil=>intro l j _ _;rfl
      |cons y o ih=>
       intro l j hn h
       rw[rkA,ih _ _ (fun e=>hn (List.mem_cons_of_mem _ e)) fun z hz=>h z (List.mem_cons_of_mem _ hz)]
       have hy:=h y (List.mem_cons_self ..)
       have hne:y≠u:=fun e=>hn (by rw[e];exact List.mem_cons_self ..)
       unfold gR
       rw[List.getElem?_set_ne (by omega)]
     have hpos:∀y∈o,0≤y:=fun y hy=>by
      rcases Int.lt_or_le y 0 with h1|h1
      ·exact absurd ⟨y,hy,h1⟩ hn
      ·exact h1
     rw[rkA,rkA,key _ _ _ ho hpos,key _ _ _ ho hpos]
     unfold gR
     rw[List.getElem?_set_self hl,List.getElem?_set_self hm]
   ·exact .inr (.inr (.inl hm))
  ·exact .inr (.inl hl)
theorem rz_rk {o:List Int}{m:Nat}(ho:o.Perm (idO m))(hm:m≤8){u:Int}(h0:0≤u)(h1:u<m):gR (rzF o) u=gR (rkF o) u:=by
 have hO:=perm_okO ho hm
 rcases rkA_some o (List.replicate 8 0) (List.replicate 8 (-1)) 0 u h0 (ho.mem_iff.2 (idO_mem.2 ⟨h0,h1⟩))with h|h|h|⟨x,h,h2⟩
 ·exact h
 ·rw[List.length_replicate]at h;omega
 ·rw[List.length_replicate]at h;omega
 ·have:=(hO.2 x h).1;omega
theorem btS_btw {n m:Nat}{o:List Int}(ho:o.Perm (idO m))(hm:m≤8)(hn:m≤n){i x:Int}(i0:0≤i)(i1:i+1<m)(x0:0≤x)(x1:x<m):
  btwB n (rkF o) (bhI n i) x=btS (rzF o) i (gR (rzF o) x):=by
 have e:=bhI_eq (n:=n) (c:=i) i0 (by omega)
 unfold btwB btS
 rw[bf_bh i0 (by omega:i<(n:Int)),e]
 rw[rz_rk ho hm i0 (by omega),rz_rk ho hm (u:=i+1) (by omega) (by omega),rz_rk ho hm x0 x1]
 have p1:0≤gR (rkF o) i:=by rw[← rkL_eq];exact rk_nn hm ho i0 (by omega)
 have p2:0≤gR (rkF o) (i+1):=by rw[← rkL_eq];exact rk_nn hm ho (by omega) (by omega)
 by_cases hl:i+1=(n:Int)
 ·omega
 rw[if_neg hl]
 have:leb 0 (mnI (gR (rkF o) i) (gR (rkF o) (i+1)))=true:=by
  rw[leb_iff];unfold mnI;split<;>omega
 rw[this,Bool.true_and]
/-- What crosses in a strip's part crosses in the ring. -/
theorem crS_crR {n m:Nat}{r o:List Int}(ho:o.Perm (idO m))(hm:m≤8)(hn:m≤n)(h:crS (m-1) m r (rzF o)=true):crR n r (rkF o)=true:=by
 unfold crS at h
 obtain⟨i,hi,h⟩:=anyN_if.1 h
 refine anyN_if.2 ⟨i,by omega,?_⟩
 rw[Bool.or_eq_true]at h ⊢
 rcases h with h|h
 ·obtain⟨x,hx,h⟩:=anyN_if.1 h
  left
  refine anyN_if.2 ⟨x,by omega,?_⟩
  unfold c1B
  rw[btS_btw ho hm hn (by omega) (by omega) (by omega) (by omega)]
  exact h
 ·obtain⟨x,hx,h⟩:=anyN_if.1 h
  right
  refine anyN_if.2 ⟨x,by omega,?_⟩
  rw[Bool.and_eq_true]at h ⊢
  obtain⟨h1,h2⟩:=h
  unfold s2B at h2
  unfold lopB at h1
  rw[Bool.and_eq_true]at h1 h2
  have e:=bhI_eq (n:=n) (c:=x) (by omega) (by omega)
  rw[if_neg (by omega)]at e
  refine⟨?_,?_⟩
  ·unfold besB
   rw[h2.1,h1.1,h1.2];rfl
  ·unfold c2B
   rw[e,btS_btw ho hm hn (by omega) (by omega) (by omega) (by omega),btS_btw ho hm hn (by omega) (by omega) (by omega) (by omega),h2.2,Bool.and_true,leb_iff]
   have p1:0≤gR (rkF o) x:=by rw[← rkL_eq];exact rk_nn hm ho (by omega) (by omega)
   have p2:0≤gR (rkF o) (x+1):=by rw[← rkL_eq];exact rk_nn hm ho (by omega) (by omega)
   unfold mnI;split<;>omega
theorem kd_kd {n m:Nat}{o:List Int}(ho:o.Perm (idO m))(hm:m≤8)(hn:m≤n){i:Int}(i0:0≤i)(i1:i+1<m):kdI n (rkF o) (bhI n i)=kdS (rzF o) i:=by
 have e:=bhI_eq (n:=n) (c:=i) i0 (by omega)
 rw[if_neg (by omega)]at e
 unfold kdI kdS evI odI
 rw[bf_bh i0 (by omega:i<(n:Int)),e,Int.tmod_eq_emod_of_nonneg i0]
 have e1:=rz_rk ho hm i0 (by omega)
 have e2:=rz_rk ho hm (u:=i+1) (by omega) (by omega)
 rcases Int.emod_two_eq i with h|h
 ·rw[h,if_pos rfl,Int.sub_zero,show 2*i+1-(i+1)=i by omega,e1,e2]
 ·rw[h,if_neg (by omega),show i+1-1=i by omega,show 2*i+1-i=i+1 by omega,e1,e2]
theorem wrS_wrg {n m:Nat}{k o:List Int}(hk:k.length=n)(ho:o.Perm (idO m))(hm:m≤8)(hn:m≤n)(h:wrS (k.take (m-1)) (rzF o)=true):wrgB (rotR k) (rkF o)=true:=by
 unfold wrS at h
 obtain⟨i,hi,h⟩:=anyN_if.1 h
 rw[List.length_take]at hi
 have e:=bhI_eq (n:=n) (c:=i) (by omega) (by omega)
 rw[if_neg (by omega)]at e
 unfold wrgB
 rw[rotR_len]
 refine anyN_if.2 ⟨i+1,by omega,?_⟩
 unfold wr1 at h
 rw[Bool.and_eq_true]at h
 have hg:gR (k.take (m-1)) i=gR k i:=by
  unfold gR
  rw[List.getElem?_take_of_lt (by omega)]
 rw[hg]at h
 have hr:=rotR_get (k:=k) (c:=i) (by omega) (by omega)
 have hb:=bf_bh (n:=k.length) (c:=i) (by omega) (by omega)
 have hkd:=kd_kd (n:=n) ho hm hn (i:=i) (by omega) (by omega)
 rw[hk]at hr hb
 rw[e]at hr hb hkd
 unfold wrg1
 rw[rotR_len,hk]
 rw[show(((i+1:Nat):Int))=(i:Int)+1 by omega,hr,hb,hkd,h.1,h.2,Bool.true_and,Bool.and_true,leb_iff]
 have p1:0≤gR (rkF o) i:=by rw[← rkL_eq];exact rk_nn hm ho (by omega) (by omega)
 have p2:0≤gR (rkF o) ((i:Int)+1):=by rw[← rkL_eq];exact rk_nn hm ho (by omega) (by omega)
 unfold mnI;split<;>omega
theorem okPt_of {a k o:List Int}{m:Nat}(A:Alt k.length (raysL a))(ho:o.Perm (idO m))(hm:m≤8)(hn:m≤k.length)(hc:cwB k.length (raysL a) (rotR k) o=false)(hk:k.length≤8):okPt a k o=true:=by
 have hl:=perm_len ho
 rw[← Bool.not_eq_true,cwB_or]at hc
 unfold okPt
 rw[hl,Bool.and_eq_true,Bool.not_eq_true',Bool.not_eq_true',← Bool.not_eq_true,← Bool.not_eq_true]
 refine⟨fun h=>hc (.inl ?_),fun h=>hc (.inr ?_)⟩
 ·rw[← crR_eq A,rkL_eq]
  exact crS_crR ho hm hn h
 ·rw[rkL_eq]
  exact wrS_wrg rfl ho hm hn h
/-- A pile that is valid in the ring is visited in the strip. -/
theorem strip_all {a k l:List Int}{n:Nat}(hkn:k.length=n)(A:Alt n (raysL a))(hn:n≤8)(ho:l.Perm (idO n))(hc:cwB n (raysL a) (rotR k) l=false):∀(f m:Nat),m+f=n→l∈grS a k f (l.filter fun x=>decide (x<(m:Int)))
 |0,m,h=>by
  have:(l.filter fun x=>decide (x<(m:Int)))=l:=by
   rw[List.filter_eq_self]
   intro x hx
   have:=idO_mem.1 (ho.mem_iff.1 hx)
   rw[decide_eq_true_eq];omega
  rw[this]
  exact List.mem_singleton.2 rfl
 |f+1,m,h=>by
  have ih:=strip_all hkn A hn ho hc f (m+1) (by omega)
  obtain⟨i,hi,e⟩:=filt_ins ho (by omega:m<n)
  have hl:=perm_len (filt_perm ho (by omega:m≤n))
  unfold grS
  refine List.mem_flatMap.2 ⟨i,List.mem_range.2 (by omega),?_⟩
  rw[hl,e]
  have hp:=filt_perm ho (by omega:m+1≤n)
  have hs:=Sub.cw A (by rw[rotR_len,hkn]) (filt_sub (r:=raysL a) (m:=m+1) hn ho (by omega)) hc
  subst hkn
  rw[okPt_of A hp (by omega) (by omega) hs hn]
  exact ih
theorem addS_mem {a x:List Int}:∀(M L:List (List Int)),x∈M.foldl (addS a) L↔x∈L∨∃o∈M,x=leastL (raysL a) o
 |[],L=>by simp
 |y::M,L=>by
  rw[List.foldl_cons,addS_mem M]
  have:x∈addS a L y↔x∈L∨x=leastL (raysL a) y:=by
   have:=addU_mem (x:=x) [leastL (raysL a) y] L
   simpa[addS]using this
  rw[this]
  constructor
  ·rintro((h|h)|⟨o,h1,h2⟩)
   ·exact .inl h
   ·exact .inr ⟨y,List.mem_cons_self ..,h⟩
   ·exact .inr ⟨o,List.mem_cons_of_mem _ h1,h2⟩
  ·rintro(h|⟨o,h1,h2⟩)
   ·exact .inl (.inl h)
   ·rcases List.mem_cons.1 h1 with rfl|h1
    ·exact .inl (.inr h2)
    ·exact .inr ⟨o,h1,h2⟩
/-- The law: a ring has at most as many ways as its strip. -/
theorem ring_le {a k:List Int}(A:Alt a.length (raysL a))(hn:a.length≤8)(hk:k.length=a.length):(rwL a k).length≤(swL a k).length:=by
 have hs:(swL a k).length=((grS a k a.length []).foldl (addS a) []).length:=(srtL_perm _).length_eq
 have hnd:(rwL a k).Nodup:=(ways_srt (n:=a.length) (r:=raysL a) (k:=rotR k)).imp fun{x y} h e=>by
  subst e;rw[cmpL_self]at h;omega
 rw[hs]
 have sub:∀(l o:List (List Int)),l.Nodup→(∀x∈l,x∈o)→l.length≤o.length:=by
  intro l
  induction l with
  |nil=>intro o _ _;exact Nat.zero_le _
  |cons x l ih=>
   intro o hN hS
   obtain⟨h1,h2⟩:=List.nodup_cons.1 hN
   have:=ih (o.erase x) h2 fun y hy=>by
    have hne:y≠x:=fun e=>h1 (e▸hy)
    exact(List.mem_erase_of_ne hne).2 (hS y (List.mem_cons_of_mem _ hy))
   have hx:=hS x (List.mem_cons_self ..)
   have e:=List.length_erase_of_mem hx
   have hp:0<o.length:=List.length_pos_of_mem hx
   rw[List.length_cons];omega
 refine sub _ _ hnd fun l hl=>?_
 have hw:=(ways_mem A hn (by rw[rotR_len,hk])).1 hl
 obtain⟨h1,h2,h3⟩:=hw
 refine(addS_mem _ _).2 (.inr ⟨l,?_,h3.symm⟩)
 have:=strip_all hk A hn h1 h2 a.length 0 (by omega)
 rwa [show(l.filter fun x=>decide (x<((0:Nat):Int)))=[]from List.filter_eq_nil_iff.2 fun x hx=>by
  have:=idO_mem.1 (h1.mem_iff.1 hx)
  rw[decide_eq_true_eq];omega]at this
end Go.Proofs.Ythiammkiobbclaa.X
/-
 Strips, plain: parts of a strip; what grows.
-/
set_option maxRecDepth 1000000
set_option linter.unusedVariables false
namespace Go.Proofs.Ythiammkiobbclaa.X
open Go Go.Ab

theorem rayL_take:∀(a:List Int) (x:Int) (p:Bool) (m:Nat),m≤a.length→rayL x p (a.take m)=(rayL x p a).take (m+1)
 |[],x,p,m,h=>by
  have:m=0:=by simpa using h
  subst this;rfl
 |y::a,x,p,0,h=>rfl
 |y::a,x,p,m+1,h=>by
  rw[List.take_succ_cons,rayL,rayL,List.take_succ_cons,rayL_take a _ _ m (by simpa using h)]
theorem rays_take {a:List Int}{m:Nat}(h:m≤a.length):raysL (a.take m)=(raysL a).take (m+1):=rayL_take a 0 true m h
theorem gR_take {r:List Int}{m:Nat}{i:Int}(h0:0≤i)(h:i<m):gR (r.take m) i=gR r i:=by
 unfold gR
 rw[List.getElem?_take_of_lt (by omega)]
theorem anyN_congr {n:Nat}{f g:Int→Bool}(h:∀i:Nat,i<n→f i=g i):anyN n f=anyN n g:=by
 rw[Bool.eq_iff_iff,anyN_if,anyN_if]
 exact⟨fun⟨j,hj,e⟩=>⟨j,hj,(h j hj)▸e⟩,fun⟨j,hj,e⟩=>⟨j,hj,(h j hj).symm▸e⟩⟩
theorem crS_take {r rk:List Int}{m q:Nat}(hq:q+1≤m):crS q m (r.take (m+1)) rk=crS q m r rk:=by
 unfold crS
 refine anyN_congr fun i hi=>?_
 have e1:gR (r.take (m+1)) ((i:Int)+1)=gR r ((i:Int)+1):=gR_take (by omega) (by omega)
 have e2:gR (r.take (m+1)) (i:Int)=gR r (i:Int):=gR_take (by omega) (by omega)
 congr 1
 ·unfold cs1
  refine anyN_congr fun x hx=>?_
  unfold s1B insB
  rw[e1,gR_take (i:=(x:Int)) (by omega) (by omega),gR_take (i:=(x:Int)+1) (by omega) (by omega)]
 ·unfold cs2
  refine anyN_congr fun x hx=>?_
  unfold lopB
  rw[e1,e2,gR_take (i:=(x:Int)) (by omega) (by omega),gR_take (i:=(x:Int)+1) (by omega) (by omega)]
theorem chk_part {a k o:List Int}{m:Nat}(hm:m+1≤a.length)(hk:m≤k.length)(hl:o.length=m+1):(chkP (a.take (m+1)) (k.take m) o==0)=okPt a k o:=by
 unfold chkP okPt
 have e1:(k.take m).length=m:=by rw[List.length_take];omega
 have e2:(a.take (m+1)).length=m+1:=by rw[List.length_take];omega
 rw[e1,e2,rays_take hm,crS_take (by omega),hl,Nat.add_sub_cancel]
 cases crS m (m+1) (raysL a) (rzF o)<;>cases wrS (k.take m) (rzF o)<;>rfl
theorem okStrip_take {a k:List Int}(h:okStrip a k){m:Nat}(hm:m+1≤a.length):okStrip (a.take (m+1)) (k.take m):=by
 obtain⟨h1,h2,h3,h4⟩:=h
 refine⟨fun x hx=>h1 x (List.mem_of_mem_take hx),?_,?_,fun x hx=>h4 x (List.mem_of_mem_take hx)⟩
 ·rw[List.length_take];omega
 ·rw[List.length_take,List.length_take];omega
theorem ovS_ov {r:List Int}{i k:Int}(hi:gR r i≠gR r (i+1))(hk:gR r k≠gR r (k+1)):ovS r i k=ovlB r i k:=by
 unfold ovS ovlB
 have h1:mnI (gR r i) (gR r (i+1))<mxI (gR r i) (gR r (i+1)):=by unfold mnI mxI;split<;>split<;>omega
 have h2:mnI (gR r k) (gR r (k+1))<mxI (gR r k) (gR r (k+1)):=by unfold mnI mxI;split<;>split<;>omega
 generalize mnI (gR r i) (gR r (i+1))=a at*
 generalize mxI (gR r i) (gR r (i+1))=b at*
 generalize mnI (gR r k) (gR r (k+1))=c at*
 generalize mxI (gR r k) (gR r (k+1))=d at*
 rw[Bool.eq_iff_iff,Bool.and_eq_true,ltb_iff,ltb_iff,ltb_iff]
 unfold mnI mxI
 split<;>split<;>omega
theorem strip_wide {a k:List Int}(h:okStrip a k):wideR (raysL a) a.length:=fun c hc=>by
 have h1:=rays_next hc
 have h2:=ang_get h.1 hc
 have ht:(c:Int).tmod 2=0∨(c:Int).tmod 2=1:=by rw[Int.tmod_eq_emod_of_nonneg (by omega)];omega
 rcases ht with ht|ht<;>rw[ht]at h1<;>omega
/-! ### Growing -/
theorem grO_leaf {a k o:List Int}{L:List (List Int)}(h:a.length≤o.length):grO a k L o=addS a L o:=by
 unfold grO
 rw[show a.length-o.length=0 by omega]
 rfl
theorem grO_node {a k o:List Int}{L:List (List Int)}(h:o.length<a.length):grO a k L o=grM a k L o (o.length+1):=by
 unfold grO grM
 rw[show a.length-o.length=(a.length-(o.length+1))+1 by omega]
 rfl
theorem grM_y {a k o:List Int}{L:List (List Int)}{m:Nat}(h:okPt a k (insA o m (o.length:Int))=true):grM a k L o (m+1)=grO a k (grM a k L o m) (insA o m (o.length:Int)):=by
 unfold grO grM
 rw[List.range_succ,List.flatMap_append,List.foldl_append,insA_len']
 simp[h]
theorem grM_n {a k o:List Int}{L:List (List Int)}{m:Nat}(h:okPt a k (insA o m (o.length:Int))=false):grM a k L o (m+1)=grM a k L o m:=by
 unfold grM
 rw[List.range_succ,List.flatMap_append,List.foldl_append]
 simp[h]
theorem grS_perm {a k:List Int}:∀(f:Nat) (o:List Int),okG o→∀l∈grS a k f o,l.Perm (idO (o.length+f))
 |0,o,hg,l,h=>by
  have:l=o:=List.mem_singleton.1 h
  subst this
  exact hg
 |f+1,o,hg,l,h=>by
  unfold grS at h
  obtain⟨i,hi,h⟩:=List.mem_flatMap.1 h
  cases hc:okPt a k (insA o i (o.length:Int))with
  |false=>rw[hc]at h;cases h
  |true=>
   rw[hc]at h
   have:=grS_perm f _ (insA_perm hg) l h
   rw[insA_len']at this
   rwa [show o.length+(f+1)=o.length+1+f by omega]
theorem addS_ok {a:List Int}{L:List (List Int)}{o:List Int}(h:okL a L)(ho:o.Perm (idO a.length)):okL a (addS a L o):=by
 have hl:=perm_len ho
 have:=addU_ok (n:=a.length) [leastL (raysL a) o] L h fun l hm=>by
  rw[List.mem_singleton.1 hm]
  have:=leastL_perm (raysL a) o
  rwa [hl]at this
 exact this
theorem foldS_ok {a:List Int}:∀(M L:List (List Int)),okL a L→(∀o∈M,o.Perm (idO a.length))→okL a (M.foldl (addS a) L)
 |[],L,h,_=>h
 |o::M,L,h,hM=>foldS_ok M _ (addS_ok h (hM o (List.mem_cons_self ..))) fun p hp=>hM p (List.mem_cons_of_mem _ hp)
theorem grO_ok {a k o:List Int}{L:List (List Int)}(hL:okL a L)(hg:okG o)(ho:o.length≤a.length):okL a (grO a k L o):=
 foldS_ok _ _ hL fun l hl=>by
  have:=grS_perm _ _ hg l hl
  rwa [show o.length+(a.length-o.length)=a.length by omega]at this
theorem okPt_0 {a k:List Int}:okPt a k [0]=true:=by
 have:okPt a k [0]=okPt [0] [] [0]:=by
  unfold okPt
  simp[crS,anyN,wrS]
 rw[this];rfl
theorem grO_0 {a k:List Int}{L:List (List Int)}(h:0<a.length):grO a k L []=grO a k L [0]:=by
 rw[grO_node (by simpa using h)]
 have e:=grM_y (a:=a) (k:=k) (o:=[]) (L:=L) (m:=0) okPt_0
 rw[show([]:List Int).length+1=0+1 from rfl,e]
 rfl
/-- Kinds that no part asks for do not matter. -/
theorem grS_kinds {a k:List Int}{n:Nat}:∀(f:Nat) (o:List Int),o.length+f≤n→grS a (k.take (n-1)) f o=grS a k f o
 |0,o,h=>rfl
 |f+1,o,h=>by
  unfold grS
  congr 1
  funext i
  have e:okPt a (k.take (n-1)) (insA o i (o.length:Int))=okPt a k (insA o i (o.length:Int)):=by
   unfold okPt
   rw[insA_len',List.take_take,Nat.min_eq_left (by omega)]
  rw[e,grS_kinds f _ (by rw[insA_len'];omega)]
theorem swL_kinds {a k:List Int}:swL a (k.take (a.length-1))=swL a k:=by
 unfold swL
 rw[grS_kinds a.length [] (by simp)]
end Go.Proofs.Ythiammkiobbclaa.X
