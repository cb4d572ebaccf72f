/-
 Cones, plain: all orders; the first of those that are the same.
-/
import Derived.Test.YthiammkiobbclaaGreatDoorP5Z
import Derived.Test.YthiammkiobbclaaGreatDoorD18Z
set_option maxRecDepth 1000000
set_option linter.unusedVariables false
namespace Go.Proofs.YthiammkiobbclaaGreatDoor.X
open Go Go.Ab

/-! ### All orders -/
theorem upI_mono {f x y:Int}:upI f x<upI f y↔x<y:=by
 unfold upI
 split<;>split<;>omega
theorem upI_ne (f x:Int):upI f x≠f:=by unfold upI;split<;>omega
theorem cmpL_up {f:Int}:∀(x y:List Int),cmpL (x.map (upI f)) (y.map (upI f))<0↔cmpL x y<0
 |[],[]=>Iff.rfl
 |[],_::_=>by simp[cmpL]
 |_::_,[]=>by simp[cmpL]
 |a::x,b::y=>by
  rw[List.map_cons,List.map_cons,cmpL_cons,cmpL_cons,cmpL_up x y,upI_mono]
  have:upI f a=upI f b↔a=b:=by unfold upI;split<;>split<;>omega
  rw[this]
theorem dnI_up {f x:Int}:dnI f (upI f x)=x:=by unfold dnI upI;split<;>split<;>omega
theorem upI_dn {f x:Int}(h:x≠f):upI f (dnI f x)=x:=by unfold dnI upI;split<;>split<;>omega
theorem ordL_srt:∀n:Nat,(ordL n).Pairwise fun y z=>cmpL y z<0
 |0=>List.pairwise_singleton ..
 |n+1=>by
  have ih:=ordL_srt n
  unfold ordL
  rw[List.pairwise_flatMap]
  refine⟨fun f _=>?_,?_⟩
  ·unfold ordR
   rw[List.pairwise_map]
   refine ih.imp fun{x y} h=>?_
   rw[cmpL_cons]
   exact .inr ⟨rfl,(cmpL_up x y).2 h⟩
  ·refine List.pairwise_lt_range.imp fun{f g} h x hx y hy=>?_
   unfold ordR at hx hy
   obtain⟨x',_,rfl⟩:=List.mem_map.1 hx
   obtain⟨y',_,rfl⟩:=List.mem_map.1 hy
   rw[cmpL_cons]
   left;omega
theorem idO_perm_of {n:Nat}{l:List Int}(hN:l.Nodup)(hm:∀x∈l,0≤x∧x<n)(hl:l.length=n):l.Perm (idO n):=by
 have:=perm_sub l (idO n) hN (fun x hx=>idO_mem.2 (hm x hx)) (by rw[idO_len,hl])
 exact this.symm
theorem nodup_map_inj {f:Int→Int}:∀(l:List Int),l.Nodup→(∀x∈l,∀y∈l,f x=f y→x=y)→(l.map f).Nodup
 |[],_,_=>List.nodup_nil
 |x::L,h,hf=>by
  obtain⟨h1,h2⟩:=List.nodup_cons.1 h
  rw[List.map_cons]
  refine List.nodup_cons.2 ⟨fun hm=>?_,nodup_map_inj L h2 fun y hy z hz=>hf y (List.mem_cons_of_mem _ hy) z (List.mem_cons_of_mem _ hz)⟩
  obtain⟨y,hy,hy2⟩:=List.mem_map.1 hm
  rw[hf y (List.mem_cons_of_mem _ hy) x (List.mem_cons_self ..) hy2]at hy
  exact h1 hy
theorem ordL_mem:∀(n:Nat) (l:List Int),l∈ordL n↔l.Perm (idO n)
 |0,l=>by
  unfold ordL
  rw[List.mem_singleton]
  constructor
  ·rintro rfl;exact List.Perm.refl _
  ·intro h;exact List.length_eq_zero_iff.1 (perm_len h)
 |n+1,l=>by
  unfold ordL
  rw[List.mem_flatMap]
  constructor
  ·rintro⟨f,hf,hl⟩
   have hf:=List.mem_range.1 hf
   unfold ordR at hl
   obtain⟨o,ho,rfl⟩:=List.mem_map.1 hl
   have hp:=(ordL_mem n o).1 ho
   refine idO_perm_of (List.nodup_cons.2 ⟨fun h=>?_,nodup_map_inj _ (perm_nodup hp) fun x _ y _ e=>?_⟩) (fun x hx=>?_) (by rw[List.length_cons,List.length_map,perm_len hp])
   ·obtain⟨y,_,e⟩:=List.mem_map.1 h
    exact upI_ne _ _ e
   ·have:=congrArg (dnI (f:Int)) e
    rwa [dnI_up,dnI_up]at this
   ·rcases List.mem_cons.1 hx with rfl|hx
    ·omega
    ·obtain⟨y,hy,rfl⟩:=List.mem_map.1 hx
     have:=idO_mem.1 (hp.mem_iff.1 hy)
     unfold upI
     split<;>omega
  ·intro h
   match l,h with
   |[],h=>have:=perm_len h;simp at this
   |x::o,h=>
    have hN:=perm_nodup h
    obtain⟨n1,n2⟩:=List.nodup_cons.1 hN
    have hm:∀y∈x::o,0≤y∧y<((n+1:Nat):Int):=fun y hy=>idO_mem.1 (h.mem_iff.1 hy)
    have hx:=hm x (List.mem_cons_self ..)
    refine⟨x.toNat,List.mem_range.2 (by omega),?_⟩
    unfold ordR
    rw[show((x.toNat:Nat):Int)=x by omega]
    have hne:∀y∈o,y≠x:=fun y hy e=>n1 (by rw[← e];exact hy)
    refine List.mem_map.2 ⟨o.map (dnI x),(ordL_mem n _).2 (idO_perm_of (nodup_map_inj _ n2 fun y hy z hz e=>?_) (fun y hy=>?_) ?_),?_⟩
    ·have:=congrArg (upI x) e
     rwa [upI_dn (hne y hy),upI_dn (hne z hz)]at this
    ·obtain⟨z,hz,rfl⟩:=List.mem_map.1 hy
     have h1:=hm z (List.mem_cons_of_mem _ hz)
     have h2:=hne z hz
     unfold dnI
     split<;>omega
    ·have:=perm_len h
     rw[List.length_map];simpa using this
    ·rw[List.map_map]
     congr 1
     conv=>rhs;rw[← List.map_id o]
     exact List.map_congr_left fun y hy=>upI_dn (hne y hy)
/-! ### The first of the orders that are the same -/
theorem lov_eq {n:Nat}{r:List Int}(A:Alt n r){u v:Int}(u0:0≤u)(u1:u<n)(v0:0≤v)(v1:v<n):lovB r u v=ovlB r u v:=by
 have hu:=A.rise u0 u1
 have hv:=A.rise v0 v1
 rw[Bool.eq_iff_iff]
 unfold lovB ovlB
 rw[Bool.and_eq_true,ltb_iff,ltb_iff,ltb_iff]
 have h1:mnI (gR r u) (gR r (u+1))<mxI (gR r u) (gR r (u+1)):=mnx _ _ (by omega)
 have h2:mnI (gR r v) (gR r (v+1))<mxI (gR r v) (gR r (v+1)):=mnx _ _ (by omega)
 generalize mnI (gR r u) (gR r (u+1))=a at*
 generalize mxI (gR r u) (gR r (u+1))=b at*
 generalize mnI (gR r v) (gR r (v+1))=c at*
 generalize mxI (gR r v) (gR r (v+1))=d at*
 unfold mxI mnI
 split<;>split<;>omega
theorem frO_iff {r:List Int}{i:Int}:∀(l:List Int),frO r i l=false↔∃s x t,l=s++x::t∧i∉s++[x]∧lovB r x i=true
 |[]=>by
  unfold frO
  constructor
  ·intro h;cases h
  ·rintro⟨s,x,t,h,_⟩
   cases s<;>cases h
 |y::l=>by
  have ih:=frO_iff (r:=r) (i:=i) l
  unfold frO
  cases hy:y==i with
  |true=>
   have hy:=beq_iff_eq.1 hy
   rw[cond_true]
   constructor
   ·intro h;cases h
   ·rintro⟨s,x,t,h,h2,_⟩
    cases s with
    |nil=>cases h;exact absurd (by simp[hy]) h2
    |cons z s=>cases h;exact absurd (by simp[hy]) h2
  |false=>
   have hy:=beq_eq_false_iff_ne.1 hy
   rw[cond_false,Bool.and_eq_false_iff,Bool.not_eq_false',ih]
   constructor
   ·rintro(h|⟨s,x,t,rfl,h2,h3⟩)
    ·exact⟨[],y,l,rfl,by simpa using Ne.symm hy,h⟩
    ·exact⟨y::s,x,t,rfl,by simpa using⟨Ne.symm hy,by simpa using h2⟩,h3⟩
   ·rintro⟨s,x,t,h,h2,h3⟩
    cases s with
    |nil=>cases h;exact .inl h3
    |cons z s=>
     cases h
     exact .inr ⟨s,x,t,rfl,fun h=>h2 (List.mem_cons_of_mem _ h),h3⟩
/-- Something that overlaps lies before it. -/
theorem frO_rk {n m:Nat}{r o:List Int}{i:Int}(A:Alt n r)(hn:n≤8)(ho:o.Perm (idO n))(i0:0≤i)(i1:i<n)(hi:i∉o.take m):
  frO r i (o.drop m)=false↔∃k:Nat,k<n∧¬ ((k:Int)∈o.take m∨gR (rkF o) i≤gR (rkF o) k∨ovlB r i k=false):=by
 obtain⟨R1,R2⟩:=rk_facts hn ho
 rw[rkL_eq]at R1 R2
 have hN:=perm_nodup ho
 have hl:=perm_len ho
 obtain⟨p,hp,e1,e2⟩:=R2 i i0 i1
 rw[frO_iff]
 constructor
 ·rintro⟨s,x,t,h,h2,h3⟩
  have hlen:m+s.length<o.length:=by
   have:=congrArg List.length h
   simp at this;omega
  have hx:o[m+s.length]=x:=by
   have:(o.drop m)[s.length]? =some x:=by rw[h,List.getElem?_append_right (Nat.le_refl _)];simp
   rw[List.getElem?_drop,List.getElem?_eq_getElem hlen]at this
   exact Option.some.inj this
  obtain⟨x0,x1,x2⟩:=R1 _ hlen
  rw[hx]at x0 x1 x2
  refine⟨x.toNat,by omega,?_⟩
  rw[show((x.toNat:Nat):Int)=x by omega]
  rintro(h4|h4|h4)
  ·obtain⟨j,hj,hj2⟩:=List.getElem_of_mem h4
   rw[List.length_take]at hj
   rw[List.getElem_take]at hj2
   have:=(R1 j (by omega)).2.2
   rw[hj2]at this;omega
  ·-- i lies before x
   have hpm:m≤p:=Nat.le_of_not_lt fun h5=>hi (by
    rw[← e1]
    exact List.mem_take_iff_getElem.2 ⟨p,by omega,rfl⟩)
   have hps:p≤m+s.length:=by omega
   apply h2
   have:(o.drop m)[p-m]? =some i:=by
    rw[List.getElem?_drop,show m+(p-m)=p by omega,List.getElem?_eq_getElem hp,e1]
   rw[h]at this
   rcases Nat.lt_or_ge (p-m) s.length with h5|h5
   ·rw[List.getElem?_append_left h5]at this
    exact List.mem_append_left _ (List.mem_of_getElem? this)
   ·have h6:p-m=s.length:=by omega
    rw[h6,List.getElem?_append_right (Nat.le_refl _)]at this
    simp at this
    rw[this];simp
  ·rw[lov_eq A x0 x1 i0 i1,ovl_comm,h4]at h3;cases h3
 ·rintro⟨k,hk,h⟩
  have h1:(k:Int)∉o.take m:=fun h'=>h (.inl h')
  have h2:gR (rkF o) k<gR (rkF o) i:=Int.lt_of_not_ge fun h'=>h (.inr (.inl h'))
  have h3:ovlB r i k=true:=by
   cases hv:ovlB r i k with
   |true=>rfl
   |false=>exact absurd (.inr (.inr hv)) h
  obtain⟨j,hj,e3,e4⟩:=R2 (k:Int) (by omega) (by omega)
  have hmj:m≤j:=Nat.le_of_not_lt fun h5=>h1 (by
   rw[← e3]
   exact List.mem_take_iff_getElem.2 ⟨j,by omega,rfl⟩)
  have hjp:j<p:=by omega
  refine⟨(o.drop m).take (j-m),k,(o.drop m).drop (j-m+1),?_,?_,by rw[lov_eq A (by omega) (by omega) i0 i1,ovl_comm];exact h3⟩
  ·have hlt:j-m<(o.drop m).length:=by rw[List.length_drop];omega
   have e5:(o.drop m)[j-m]=(k:Int):=by
    rw[List.getElem_drop]
    have:o[m+(j-m)]'(by omega)=o[j]:=by congr 1;omega
    rw[this,e3]
   rw[← e5,← List.drop_eq_getElem_cons hlt,List.take_append_drop]
  ·intro h5
   have:i∈(o.drop m).take (j-m+1):=by
    have hlt:j-m<(o.drop m).length:=by rw[List.length_drop];omega
    rw[List.take_add_one,List.getElem?_eq_getElem hlt]
    have e5:(o.drop m)[j-m]=(k:Int):=by
     rw[List.getElem_drop]
     have:o[m+(j-m)]'(by omega)=o[j]:=by congr 1;omega
     rw[this,e3]
    rw[e5];exact h5
   obtain⟨q,hq,hq2⟩:=List.getElem_of_mem this
   rw[List.length_take]at hq
   rw[List.getElem_take,List.getElem_drop]at hq2
   have:=(R1 (m+q) (by rw[List.length_drop]at hq;omega)).2.2
   rw[hq2]at this
   omega
theorem fr1_min {r rk out:List Int}{n:Nat}(hl:out.length<n){j:Nat}(h:(j:Int)<fr1 r rk n out):frK r rk out j n=false:=by
 obtain⟨m,h1,h2,h3⟩:=fr1_ok (r:=r) (rk:=rk) (out:=out) hl
 unfold fr1 at h
 cases hf:(List.range n).find? (fun(i:Nat)=>frK r rk out (i:Int) n)with
 |none=>rw[hf]at h;simp at h;omega
 |some q=>
  rw[hf]at h
  obtain⟨_,_,h6⟩:=List.find?_range_eq_some.1 hf
  have:j<q:=by simpa using h
  have:=h6 j this
  simpa using this
theorem fst_iff {n:Nat}{r o:List Int}(A:Alt n r)(hn:n≤8)(ho:o.Perm (idO n)):
  (∀at_:Nat,at_<n→∀i:Nat,(i:Int)<gR o at_→memB (o.take at_) i=true∨frO r i (o.drop at_)=false)↔leastL r o=o:=by
 obtain⟨R1,R2⟩:=rk_facts hn ho
 rw[rkL_eq]at R1 R2
 have hN:=perm_nodup ho
 have hl:=perm_len ho
 have e0:leastL r o=lstN r (rkF o) n n:=by unfold leastL;rw[hl]
 have bad:∀(m:Nat),m<n→∀i:Nat,i<n→(frK r (rkF o) (o.take m) i n=false↔memB (o.take m) i=true∨frO r i (o.drop m)=false):=fun m hm i hi=>by
  cases hb:memB (o.take m) i with
  |true=>
   unfold frK;rw[hb];simp
  |false=>
   rw[frO_rk A hn ho (by omega) (by omega) (memB_no.1 hb),← Bool.not_eq_true,frK_iff]
   constructor
   ·intro h
    right
    refine Classical.byContradiction fun hc=>h ⟨memB_no.1 hb,fun k hk=>Classical.byContradiction fun hk2=>hc ⟨k,hk,hk2⟩⟩
   ·rintro(h|⟨k,hk,h⟩) h'
    ·cases h
    ·exact h (h'.2 k hk)
 constructor
 ·intro h
  suffices ∀m,m≤n→lstN r (rkF o) n m=o.take m by rw[e0,this n (Nat.le_refl _),List.take_of_length_le (by omega)]
  intro m
  induction m with
  |zero=>intro _;rfl
  |succ m ih=>
   intro hm
   have hmo:m<o.length:=by omega
   obtain⟨g0,g1,g2⟩:=R1 m hmo
   rw[lstN,ih (by omega),List.take_add_one,List.getElem?_eq_getElem hmo]
   have hfr:fr1 r (rkF o) n (o.take m)=((o[m].toNat:Nat):Int):=by
    refine fr1_of (by omega) (frK_iff.2 ?_) fun j hj=>?_
    ·rw[show((o[m].toNat:Nat):Int)=o[m]by omega]
     refine⟨fun hmem=>?_,fun k hk=>?_⟩
     ·obtain⟨q,hq,hq2⟩:=List.getElem_of_mem hmem
      rw[List.length_take]at hq
      rw[List.getElem_take]at hq2
      have:=(R1 q (by omega)).2.2
      rw[hq2]at this;omega
     ·obtain⟨q,hq,e1,e2⟩:=R2 (k:Int) (by omega) (by omega)
      rcases Nat.lt_or_ge q m with h5|h5
      ·left
       rw[← e1]
       exact List.mem_take_iff_getElem.2 ⟨q,by omega,rfl⟩
      ·right;left;omega
    ·refine(bad m (by omega) j (by omega)).2 (h m (by omega) j ?_)
     unfold gR
     rw[Int.toNat_natCast,List.getElem?_eq_getElem hmo]
     simp only[Option.getD_some];omega
   rw[hfr,show((o[m].toNat:Nat):Int)=o[m]by omega]
   rfl
 ·intro h at_ hat i hi
  have hmo:at_<o.length:=by omega
  have e1:=lst_take (r:=r) (rk:=rkF o) (n:=n) (n-at_) at_
  rw[show at_+(n-at_)=n by omega,← e0,h]at e1
  have e2:=lst_at (r:=r) (rk:=rkF o) hat
  rw[← e0,h,List.getElem?_eq_getElem hmo,← e1]at e2
  have e3:=Option.some.inj e2
  have hg:gR o (at_:Int)=o[at_]:=by
   unfold gR
   rw[Int.toNat_natCast,List.getElem?_eq_getElem hmo];rfl
  rw[hg]at hi
  obtain⟨g0,g1,g2⟩:=R1 at_ hmo
  exact(bad at_ hat i (by omega)).1 (fr1_min (by rw[List.length_take];omega) (by rw[← e3];exact hi))
end Go.Proofs.YthiammkiobbclaaGreatDoor.X
