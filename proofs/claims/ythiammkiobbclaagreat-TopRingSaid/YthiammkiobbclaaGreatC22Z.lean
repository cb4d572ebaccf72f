/-
 Rings: the first of the piles that are the same.
-/
import Derived.Test.YthiammkiobbclaaGreatO22Z
import Derived.Test.YthiammkiobbclaaGreatC21Z
import Derived.Test.YthiammkiobbclaaGreatP20Z
set_option maxRecDepth 1000000
set_option linter.unusedVariables false
set_option linter.unusedSimpArgs false
namespace Go.Proofs.YthiammkiobbclaaGreat.X
open Go Go.Ab

theorem tk32_len (o:List Int):(tk32 o).length=32:=by unfold tk32;rw[List.length_map,List.length_range]
theorem tk32_get {o:List Int}{i:Nat}(h:i<32):(tk32 o)[i]?.getD false=memB o (i:Int):=by
 unfold tk32
 rw[List.getElem?_map,List.getElem?_range h];rfl
theorem tk32_set {o:List Int}{i:Nat}(h:i<32):(tk32 o).set i true=tk32 (o++[(i:Int)]):=by
 refine List.ext_getElem? fun j=>?_
 rw[List.getElem?_set,tk32_len]
 by_cases hj:j<32
 ·have e:(tk32 (o++[(i:Int)]))[j]? =some (memB (o++[(i:Int)]) (j:Int)):=by
   unfold tk32
   rw[List.getElem?_map,List.getElem?_range hj];rfl
  have e2:(tk32 o)[j]? =some (memB o (j:Int)):=by
   unfold tk32
   rw[List.getElem?_map,List.getElem?_range hj];rfl
  rw[e,e2]
  split
  ·rename_i hij
   subst hij
   rw[memB_true.2 (by simp)]
  ·rename_i hij
   congr 1
   rw[Bool.eq_iff_iff,memB_true,memB_true,List.mem_append]
   refine⟨.inl,fun hm=>hm.resolve_right fun hm=>hij ?_⟩
   have:=List.mem_singleton.1 hm
   omega
 ·have e:(tk32 (o++[(i:Int)]))[j]? =none:=List.getElem?_eq_none (by rw[tk32_len];omega)
  rw[e,if_neg (by omega)]
  exact List.getElem?_eq_none (by rw[tk32_len];omega)
theorem rkG_get {o:List Int}(h:okO o){j:Nat}(hj:j<8):(rkG o)[j]?.getD 0=(rkF o)[j]?.getD 0:=rkG_lo h hj
theorem rkG_len (o:List Int):(rkG o).length=32:=by unfold rkG;rw[rkA_len];rfl
theorem rkG_list {o:List Int}(h:okO o):[rkO o 0,rkO o 1,rkO o 2,rkO o 3,rkO o 4,rkO o 5,rkO o 6,rkO o 7,-1,-1,-1,-1,-1,-1,-1,-1,-1,-1,-1,-1,-1,-1,-1,-1,-1,-1,-1,-1,-1,-1,-1,-1]=rkG o:=by
 rw[rkG_eq h]
 have e8:[rkO o 0,rkO o 1,rkO o 2,rkO o 3,rkO o 4,rkO o 5,rkO o 6,rkO o 7]=rkF o:=rkL_eq o
 rw[← e8];rfl
/-- Overlapping, by ends. -/
theorem ovl_ends {r:List Int}{i k:Int}(hi:gR r i≠gR r (i+1))(hk:gR r k≠gR r (k+1)):
  (!ovlB r i k)=(leb (mxI (gR r i) (gR r (i+1))) (mnI (gR r k) (gR r (k+1)))||leb (mxI (gR r k) (gR r (k+1))) (mnI (gR r i) (gR r (i+1)))):=by
 unfold ovlB
 have h1:mnI (gR r i) (gR r (i+1))<mxI (gR r i) (gR r (i+1)):=by unfold mnI mxI;split<;>split<;>omega
 have h2:mnI (gR r k) (gR r (k+1))<mxI (gR r k) (gR r (k+1)):=by unfold mnI mxI;split<;>split<;>omega
 generalize mnI (gR r i) (gR r (i+1))=a at*
 generalize mxI (gR r i) (gR r (i+1))=b at*
 generalize mnI (gR r k) (gR r (k+1))=c at*
 generalize mxI (gR r k) (gR r (k+1))=d at*
 rw[Bool.eq_iff_iff,Bool.or_eq_true,leb_iff,leb_iff,Bool.not_eq_true',ltb_no]
 unfold mnI mxI
 split<;>split<;>omega
theorem TR42ok:TabOk Tryz.prog G TR42:=tabL_ok noCh_ok ⟨rgt39,rgt59,rgt60,trivial⟩
theorem rgt42:CtOk Tryz.prog G 42 rg42:=by
 intro args r h hp
 unfold rg42 at h
 split at h<;>cases h
 rename_i a n _ k m _ r p _ o q _
 obtain⟨⟨rfl,rfl,rfl⟩,rfl,ho,h1,h2,hw⟩:=hp
 have key:SpecP Tryz.prog G 42 [conV a k r,immN .i64 o] (immL .i64 (leastL r o)) []:=by
  refine fnP_spec hcm hmx TR42ok ok42 rfl (ob_g42 a k r o) ?_
  dsimp -failIfUnchanged -proj -eta -iota -zeta only[rd,rdw,qs,ql,qx]
  have hol:=ho.1
  have hc:=cok_self a k r
  have e32:=rkG_list ho
  have hR:=rkG_len o
  simp only[e32,inR_i64,and_true,true_and,leb_iff,leb_no,ltb_iff,ltb_no,ltn_iff,len'_iff,iI,size_ints,size_bools,List.length_drop,List.length_append,List.length_cons,List.length_nil,List.getD_eq_getElem?_getD,List.getElem?_drop,Nat.add_zero,Int.toNat_natCast,beq_iff_eq,beq_eq_false_iff_ne,ne_eq,forall_const,true_imp_iff,Bool.not_not,Bool.not_eq_true',Bool.not_eq_false']
  refine⟨ho,by omega,⟨0,by omega,rfl⟩,?_⟩
  rintro⟨out,t⟩ ⟨m,hm,hout,ht⟩
  simp only at hout ht ⊢
  subst hout
  have ht:t=tk32 (lstN r (rkF o) o.length m):=ht
  have htl:t.length=32:=by rw[ht,tk32_len]
  have htg:∀j:Nat,j<8→t[j]?.getD false=memB (lstN r (rkF o) o.length m) j:=fun j hj=>by rw[ht,tk32_get (by omega)]
  have hlen:=lstN_len r (rkF o) o.length m
  simp only[hlen]
  refine⟨fun hlt=>⟨⟨0,rfl,by omega,fun j hj=>by omega⟩,?_⟩,fun hge=>?_⟩
  rotate_left
  ·have:m=o.length:=by omega
   subst this
   exact⟨rfl,(leastL_len r o).symm,(leastL_len r o).symm⟩
  rintro⟨i⟩ ⟨p,hi,hp,hf⟩
  simp only at hi ⊢
  subst hi
  simp only[Int.toNat_natCast]
  refine⟨fun hi=>⟨by omega,by omega,by omega,⟨0,rfl,by omega,?_⟩,?_⟩,fun hi=>?_⟩
  ·rw[htg p (by omega)];unfold frK;simp
  ·rintro⟨c,f⟩ ⟨u,hc1,hu,hf2⟩
   simp only at hc1 hf2 ⊢
   subst hc1
   simp only[Int.toNat_natCast]
   have hp7:p<8:=by omega
   have e0:=frK_succ (r:=r) (rk:=rkF o) (out:=lstN r (rkF o) o.length m) (i:=(p:Int)) (m:=u)
   rw[← hf2]at e0
   have ec:frC r (rkF o) (lstN r (rkF o) o.length m) p u=(memB (lstN r (rkF o) o.length m) u||(leb (gR (rkF o) p) (gR (rkF o) u)|| !ovlB r p u)):=rfl
   have gp:(rkG o)[p]?.getD 0=gR (rkF o) p:=by rw[rkG_get ho hp7];rfl
   refine⟨fun hk=>?_,fun hk=>?_⟩
   ·have hu7:u<8:=by omega
    have gu:(rkG o)[u]?.getD 0=gR (rkF o) u:=by rw[rkG_get ho hu7];rfl
    have tu:=htg u hu7
    have eo:=ovl_ends (r:=r) (i:=(p:Int)) (k:=(u:Int)) (hw p (by omega)) (hw u (by omega))
    rw[gp,gu,tu,htl,hR]
    have hex:∀v:Bool,v=frK r (rkF o) (lstN r (rkF o) o.length m) p (u+1)→∃m_1:Nat,(u:Int)+1=m_1∧m_1≤o.length∧v=frK r (rkF o) (lstN r (rkF o) o.length m) p m_1:=fun v h=>⟨u+1,by omega,by omega,h⟩
    clear ht
    generalize lstN r (rkF o) o.length m=out at*
    refine⟨fun h=>⟨fun hb=>?_,fun hb=>⟨fun hle=>?_,fun hle=>⟨fun h3=>?_,fun h3=>?_⟩⟩⟩,fun h=>?_⟩
    ·have hv:=hex true (by rw[e0,ec,h,hb];rfl)
     repeat' apply And.intro
     all_goals first|omega|exact h|exact hb|exact hv
    ·have hv:=hex true (by rw[e0,ec,h,hb,leb_iff.2 hle];rfl)
     repeat' apply And.intro
     all_goals first|omega|exact h|exact hb|exact hle|exact hv
    ·have hv:=hex true (by rw[e0,ec,h,hb,leb_no.2 hle,eo,leb_iff.2 h3];rfl)
     repeat' apply And.intro
     all_goals first|omega|exact h|exact hb|exact hle|exact hc|exact h3|exact hv
    ·have hv:=hex (leb (mxI (gR r u) (gR r (u+1))) (mnI (gR r p) (gR r (p+1)))) (by rw[e0,ec,h,hb,leb_no.2 hle,eo,leb_no.2 h3];simp)
     repeat' apply And.intro
     all_goals first|omega|exact h|exact hb|exact hle|exact hc|exact h3|exact hv
    ·have hv:=hex false (by rw[e0,h];rfl)
     repeat' apply And.intro
     all_goals first|omega|exact h|exact hv
   ·have:u=o.length:=by omega
    subst this
    refine⟨fun h=>?_,fun h=>?_⟩
    ·have e1:=fr1_of (r:=r) (rk:=rkF o) (out:=lstN r (rkF o) o.length m) (n:=o.length) (m:=p) (by omega) (by rw[← hf2,h]) hf
     have hex:∃m_1:Nat,m_1≤o.length∧lstN r (rkF o) o.length m++[(p:Int)]=lstN r (rkF o) o.length m_1∧t.set p true=tk32 (lstN r (rkF o) o.length m++[(p:Int)]):=by
      refine⟨m+1,by omega,?_,by rw[ht,tk32_set (by omega)]⟩
      show _=lstN r (rkF o) o.length m++[fr1 r (rkF o) o.length (lstN r (rkF o) o.length m)]
      rw[e1]
     repeat' apply And.intro
     all_goals first|omega|exact hex
    ·refine⟨by omega,⟨p+1,by omega,by omega,fun j hj=>?_⟩,by omega⟩
     by_cases hj':j<p
     ·exact hf j hj'
     ·rw[show j=p by omega,← hf2,h]
  ·obtain⟨j,hj,hj2⟩:=frK_ex (r:=r) (rk:=rkF o) (out:=lstN r (rkF o) o.length m) (n:=o.length) (by rw[hlen];omega)
   rw[hf j (by omega)]at hj2
   cases hj2
 have key2:SpecP Tryz.prog G 42 (.agg [.imm (.ints .i64 a) a.length none,.imm (.ints .u8 k) k.length none,.imm (.ints .i64 r) r.length none]::[.imm (.ints .i64 o) o.length none]) (immL .i64 (leastL r o)) []:=key
 exact con_caps (key2.args fun w F xs h=>by
  cases h with
  |cons _ _ _ _ h1 h2=>
   cases h2 with
   |cons _ _ _ _ h3 h4=>exact .cons _ _ _ _ h1 (.cons _ _ _ _ h3.caps h4))
theorem rgt42z:CtOk Tryz.prog G 42 rg42z:=by
 intro args r h hp
 unfold rg42z at h
 split at h<;>cases h
 rename_i a n _ k m _ r p _
 obtain⟨rfl,rfl,rfl⟩:=hp
 refine con_caps (fnP_spec hcm hmx (tabL_ok noCh_ok ⟨rgt39z,trivial⟩:TabOk Tryz.prog G TR42z) ok42 rfl (ob_g42z a k r) ?_)
 simp
/-! ### Keys -/
theorem list8d:∀(l:List Int),l.length=8→[l.getD 0 0,l.getD 1 0,l.getD 2 0,l.getD 3 0,l.getD 4 0,l.getD 5 0,l.getD 6 0,l.getD 7 0]=l
 |[_,_,_,_,_,_,_,_],_=>rfl
theorem padK_len {l:List Int}(h:l.length≤8):(padK l).length=8:=by
 unfold padK
 rw[List.length_append,List.length_drop]
 show l.length+(8-l.length)=8
 omega
theorem pad8_eq {l:List Int}(h:l.length≤8):pad8 l=padK l:=list8d _ (padK_len h)
theorem pad_inj {l x:List Int}(hl:l.length≤8)(he:l.length=x.length)(h:pad8 l=pad8 x):l=x:=by
 rw[pad8_eq hl,pad8_eq (by omega)]at h
 unfold padK at h
 exact(List.append_inj h he).1
theorem fndP_snoc (L:List (List Int))(l:List Int):fndP (L++[l])=(mput (fpE L) (pad8 l) [1] (fpK L),mck (fpE L) (pad8 l) (fpK L)):=by
 unfold fndP fpE fpK fndP
 rw[List.foldl_append];rfl
theorem fpE_snoc (L:List (List Int))(l:List Int):fpE (L++[l])=mput (fpE L) (pad8 l) [1] (fpK L):=by
 show(fndP (L++[l])).1=_
 rw[fndP_snoc]
theorem fpK_snoc (L:List (List Int))(l:List Int):fpK (L++[l])=mck (fpE L) (pad8 l) (fpK L):=by
 show(fndP (L++[l])).2=_
 rw[fndP_snoc]
theorem fpE_get {n:Nat}(hn:n≤8){l:List Int}(hl:l.Perm (idO n)):∀(L:List (List Int)),(∀x∈L,x.Perm (idO n))→(mget (fpE L) (pad8 l))=if l∈L then some [1]else none:=by
 refine snocRec (fun _=>rfl) fun L x ih h=>?_
 rw[fpE_snoc,mget_put]
 have hx:=h x (by simp)
 have ih:=ih fun y hy=>h y (List.mem_append_left _ hy)
 have e1:=perm_len hl
 have e2:=perm_len hx
 by_cases e:l=x
 ·subst e
  rw[if_pos rfl,if_pos (by simp)]
 ·rw[if_neg fun e3=>e (pad_inj (by omega) (by omega) e3),ih]
  simp[e]
end Go.Proofs.YthiammkiobbclaaGreat.X
