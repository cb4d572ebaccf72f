/-
 Rings: the first of the piles that are the same.
-/
import Derived.Test.YthiammkiobbclaaO22Z
import Derived.Test.YthiammkiobbclaaC21Z
import Derived.Test.YthiammkiobbclaaP20Z

set_option maxRecDepth 1000000
set_option linter.unusedVariables false
set_option linter.unusedSimpArgs false
namespace Go.Proofs.Ythiammkiobbclaa.X
open Go Go.Ab

theorem tk32_len (o:List Int):(tk32 o).length=32:=by unfold tk32;rw[List.length_map,List.length_range]
theorem tk32_get {o:List Int}{i:Nat}(h:i<32):(tk32 o)[i]?.getD false=memB o (i:Int):=by
 unfold tk32
 rw[List.getElem?_map,List.getElem?_range h];rfl
theorem tk32_set {o:List Int}{i:Nat}(h:i<32):(tk32 o).set i true=tk32 (o++[(i:Int)]):=by
 refine List.ext_getElem? fun j=>?_
 rw[List.getElem?_set,tk32_len]
 by_cases hj:j<32
 ·have e:(tk32 (o++[(i:Int)]))[j]? =some (memB (o++[(i:Int)]) (j:Int)):=by
   unfold tk32
   rw[List.getElem?_map,List.getElem?_range hj];rfl
  have e2:(tk32 o)[j]? =some (memB o (j:Int)):=by
   unfold tk32
   rw[List.getElem?_map,List.getElem?_range hj];rfl
  rw[e,e2]
  split
  ·rename_i hij
   subst hij
   rw[memB_true.2 (by simp)]
  ·rename_i hij
   congr 1
   rw[Bool.eq_iff_iff,memB_true,memB_true,List.mem_append]
   refine⟨.inl,fun hm=>hm.resolve_right fun hm=>hij ?_⟩
   have:=List.mem_singleton.1 hm
   omega
 ·have e:(tk32 (o++[(i:Int)]))[j]? =none:=List.getElem?_eq_none (by rw[tk32_len];omega)
  rw[e,if_neg (by omega)]
  exact List.getElem?_eq_none (by rw[tk32_len];omega)
theorem rkG_get {o:List Int}(h:okO o){j:Nat}(hj:j<8):(rkG o)[j]?.getD 0=(rkF o)[j]?.getD 0:=rkG_lo h hj
theorem rkG_len (o:List Int):(rkG o).length=32:=by unfold rkG;rw[rkA_len];rfl
theorem rkG_list {o:List Int}(h:okO o):[rkO o 0,rkO o 1,rkO o 2,rkO o 3,rkO o 4,rkO o 5,rkO o 6,rkO o 7,-1,-1,-1,-1,-1,-1,-1,-1,-1,-1,-1,-1,-1,-1,-1,-1,-1,-1,-1,-1,-1,-1,-1,-1]=rkG o:=by
 rw[rkG_eq h]
 have e8:[rkO o 0,rkO o 1,rkO o 2,rkO o 3,rkO o 4,rkO o 5,rkO o 6,rkO o 7]=rkF o:=rkL_eq o
 rw[← e8];rfl
/-- Overlapping, by ends. -/
theorem ovl_ends {r:List Int}{i k:Int}(hi:gR r i≠gR r (i+1))(hk:gR r k≠gR r (k+1)):
  (!ovlB r i k)=(leb (mxI (gR r i) (gR r (i+1))) (mnI (gR r k) (gR r (k+1)))||leb (mxI (gR r k) (gR r (k+1))) (mnI (gR r i) (gR r (i+1)))):=by
 unfold ovlB
 have h1:mnI (gR r i) (gR r (i+1))<mxI (gR r i) (gR r (i+1)):=by unfold mnI mxI;split<;>split<;>omega
 have h2:mnI (gR r k) (gR r (k+1))<mxI (gR r k) (gR r (k+1)):=by unfold mnI mxI;split<;>split<;>omega
 generalize mnI (gR r i) (gR r (i+1))=a at*
 generalize mxI (gR r i) (gR r (i+1))=b at*
 generalize mnI (gR r k) (gR r (k+1))=c at*
 generalize mxI (gR r k) (gR r (k+1))=d at*
 rw[Bool.eq_iff_iff,Bool.or_eq_true,leb_iff,leb_iff,Bool.not_eq_true',ltb_no]
 unfold mnI mxI
 split<;>split<;>omega
theorem TR42ok:TabOk Try.prog G TR42:=tabL_ok noCh_ok ⟨rgt39,rgt59,rgt60,trivial⟩
theorem rgt42:CtOk Try.prog G 30 rg42:=by
 intro args r h hp
 unfold rg42 at h
 split at h<;>cases h
 rename_i a n _ k m _ r p _ o q _
 obtain⟨⟨rfl,rfl,rfl⟩,rfl,ho,h1,h2,hw⟩:=hp
 have key:SpecP Try.prog G 30 [conV a k r,immN .i64 o] (immL .i64 (leastL r o)) []:=by
  refine fnP_spec hcm hmx TR42ok ok30 rfl (ob_g42 a k r o) ?_
  dsimp -failIfUnchanged -proj -eta -iota -zeta only[rd,rdw,qs,ql,qx]
  have hol:=ho.1
  have hc:=cok_self a k r
  have e32:=rkG_list ho
  have hR:=rkG_len o
  simp only[e32,inR_i64,and_true,true_and,leb_iff,leb_no,ltb_iff,ltb_no,ltn_iff,len'_iff,iI,size_ints,size_bools,List.length_drop,List.length_append,List.length_cons,List.length_nil,List.getD_eq_getElem?_getD,List.getElem?_drop,Nat.add_zero,Int.toNat_natCast,beq_iff_eq,beq_eq_false_iff_ne,ne_eq,forall_const,true_imp_iff,Bool.not_not,Bool.not_eq_true',Bool.not_eq_false']
  refine⟨ho,by omega,⟨0,by omega,rfl⟩,?_⟩
  rintro⟨out,t⟩ ⟨m,hm,hout,ht⟩
  simp only at hout ht ⊢
  subst hout
  have ht:t=tk32 (lstN r (rkF o) o.length m):=ht
  have htl:t.length=32:=by rw[ht,tk32_len]
  have htg:∀j:Nat,j<8→t[j]?.getD false=memB (lstN r (rkF o) o.length m) j:=fun j hj=>by rw[ht,tk32_get (by omega)]
  have hlen:=lstN_len r (rkF o) o.length m
  simp only[hlen]
  refine⟨fun hlt=>⟨⟨0,rfl,by omega,fun j hj=>by omega⟩,?_⟩,fun hge=>?_⟩
  rotate_left
  ·have:m=o.length:=by omega
   subst this
   exact⟨rfl,(leastL_len r o).symm,(leastL_len r o).symm⟩
  rintro⟨i⟩ ⟨p,hi,hp,hf⟩
  simp only at hi ⊢
  subst hi
  simp only[Int.toNat_natCast]
  refine⟨fun hi=>⟨by omega,by omega,by omega,⟨0,rfl,by omega,?_⟩,?_⟩,fun hi=>?_⟩
  ·rw[htg p (by omega)];unfold frK;simp
  ·rintro⟨c,f⟩ ⟨u,hc1,hu,hf2⟩
   simp only at hc1 hf2 ⊢
   subst hc1
   simp only[Int.toNat_natCast]
   have hp7:p<8:=by omega
   have e0:=frK_succ (r:=r) (rk:=rkF o) (out:=lstN r (rkF o) o.length m) (i:=(p:Int)) (m:=u)
   rw[← hf2]at e0
   have ec:frC r (rkF o) (lstN r (rkF o) o.length m) p u=(memB (lstN r (rkF o) o.length m) u||(leb (gR (rkF o) p) (gR (rkF o) u)|| !ovlB r p u)):=rfl
   have gp:(rkG o)[p]?.getD 0=gR (rkF o) p:=by rw[rkG_get ho hp7];rfl
   refine⟨fun hk=>?_,fun hk=>?_⟩
   ·have hu7:u<8:=by omega
    have gu:(rkG o)[u]?.getD 0=gR (rkF o) u:=by rw[rkG_get ho hu7];rfl
    have tu:=htg u hu7
    have eo:=ovl_ends (r:=r) (i:=(p:Int)) (k:=(u:Int)) (hw p (by omega)) (hw u (by omega))
    rw[gp,gu,tu,htl,hR]
    have hex:∀v:Bool,v=frK r (rkF o) (lstN r (rkF o) o.length m) p (u+1)→∃m_1:Nat,(u:Int)+1=m_1∧m_1≤o.length∧v=frK r (rkF o) (lstN r (rkF o) o.length m) p m_1:=fun v h=>⟨u+1,by omega,by omega,h⟩
    clear ht
    generalize lstN r (rkF o) o.length m=out at*
    refine⟨fun h=>⟨fun hb=>?_,fun hb=>⟨fun hle=>?_,fun hle=>⟨fun h3=>?_,fun h3=>?_⟩⟩⟩,fun h=>?_⟩
    ·have hv:=hex true (by rw[e0,ec,h,hb];rfl)
     repeat' apply And.intro
     all_goals first|omega|exact h|exact hb|exact hv
    ·have hv:=hex true (by rw[e0,ec,h,hb,leb_iff.2 hle];rfl)
     repeat' apply And.intro
     all_goals first|omega|exact h|exact hb|exact hle|exact hv
    ·have hv:=hex true (by rw[e0,ec,h,hb,leb_no.2 hle,eo,leb_iff.2 h3];rfl)
     repeat' apply And.intro
     all_goals first|omega|exact h|exact hb|exact hle|exact hc|exact h3|exact hv
    ·have hv:=hex (leb (mxI (gR r u) (gR r (u+1))) (mnI (gR r p) (gR r (p+1)))) (by rw[e0,ec,h,hb,leb_no.2 hle,eo,leb_no.2 h3];simp)
     repeat' apply And.intro
     all_goals first|omega|exact h|exact hb|exact hle|exact hc|exact h3|exact hv
    ·have hv:=hex false (by rw[e0,h];rfl)
     repeat' apply And.intro
     all_goals first|omega|exact h|exact hv
   ·have:u=o.length:=by omega
    subst this
    refine⟨fun h=>?_,fun h=>?_⟩
    ·have e1:=fr1_of (r:=r) (rk:=rkF o) (out:=lstN r (rkF o) o.length m) (n:=o.length) (m:=p) (by omega) (by rw[← hf2,h]) hf
     have hex:∃m_1:Nat,m_1≤o.length∧lstN r (rkF o) o.length m++[(p:Int)]=lstN r (rkF o) o.length m_1∧t.set p true=tk32 (lstN r (rkF o) o.length m++[(p:Int)]):=by
      refine⟨m+1,by omega,?_,by rw[ht,tk32_set (by omega)]⟩
      show _=lstN r (rkF o) o.length m++[fr1 r (rkF o) o.length (lstN r (rkF o) o.length m)]
      rw[e1]
     repeat' apply And.intro
     all_goals first|omega|exact hex
    ·refine⟨by omega,⟨p+1,by omega,by omega,fun j hj=>?_⟩,by omega⟩
     by_cases hj':j<p
     ·exact hf j hj'
     ·rw[show j=p by omega,← hf2,h]
  ·obtain⟨j,hj,hj2⟩:=frK_ex (r:=r) (rk:=rkF o) (out:=lstN r (rkF o) o.length m) (n:=o.length) (by rw[hlen];omega)
   rw[hf j (by omega)]at hj2
   cases hj2
 have key2:SpecP Try.prog G 30 (.agg [.imm (.ints .i64 a) a.length none,.imm (.ints .u8 k) k.length none,.imm (.ints .i64 r) r.length none]::[.imm (.ints .i64 o) o.length none]) (immL .i64 (leastL r o)) []:=key
 exact con_caps (key2.args fun w F xs h=>by
  cases h with
  |cons _ _ _ _ h1 h2=>
   cases h2 with
   |cons _ _ _ _ h3 h4=>exact .cons _ _ _ _ h1 (.cons _ _ _ _ h3.caps h4))
theorem rgt42z:CtOk Try.prog G 30 rg42z:=by
 intro args r h hp
 unfold rg42z at h
 split at h<;>cases h
 rename_i a n _ k m _ r p _
 obtain⟨rfl,rfl,rfl⟩:=hp
 refine con_caps (fnP_spec hcm hmx (tabL_ok noCh_ok ⟨rgt39z,trivial⟩:TabOk Try.prog G TR42z) ok30 rfl (ob_g42z a k r) ?_)
 simp
/-! ### Keys -/
theorem list8d:∀(l:List Int),l.length=8→[l.getD 0 0,l.getD 1 0,l.getD 2 0,l.getD 3 0,l.getD 4 0,l.getD 5 0,l.getD 6 0,l.getD 7 0]=l
 |[_,_,_,_,_,_,_,_],_=>rfl
theorem padK_len {l:List Int}(h:l.length≤8):(padK l).length=8:=by
 unfold padK
 rw[List.length_append,List.length_drop]
 show l.length+(8-l.length)=8
 omega
theorem pad8_eq {l:List Int}(h:l.length≤8):pad8 l=padK l:=list8d _ (padK_len h)
theorem pad_inj {l x:List Int}(hl:l.length≤8)(he:l.length=x.length)(h:pad8 l=pad8 x):l=x:=by
 rw[pad8_eq hl,pad8_eq (by omega)]at h
 unfold padK at h
 exact(List.append_inj h he).1
theorem fndP_snoc (L:List (List Int))(l:List Int):fndP (L++[l])=(mput (fpE L) (pad8 l) [1] (fpK L),mck (fpE L) (pad8 l) (fpK L)):=by
 unfold fndP fpE fpK fndP
 rw[List.foldl_append];rfl
theorem fpE_snoc (L:List (List Int))(l:List Int):fpE (L++[l])=mput (fpE L) (pad8 l) [1] (fpK L):=by
 show(fndP (L++[l])).1=_
 rw[fndP_snoc]
theorem fpK_snoc (L:List (List Int))(l:List Int):fpK (L++[l])=mck (fpE L) (pad8 l) (fpK L):=by
 show(fndP (L++[l])).2=_
 rw[fndP_snoc]
theorem fpE_get {n:Nat}(hn:n≤8){l:List Int}(hl:l.Perm (idO n)):∀(L:List (List Int)),(∀x∈L,x.Perm (idO n))→(mget (fpE L) (pad8 l))=if l∈L then some [1]else none:=by
 refine snocRec (fun _=>rfl) fun L x ih h=>?_
 rw[fpE_snoc,mget_put]
 have hx:=h x (by simp)
 have ih:=ih fun y hy=>h y (List.mem_append_left _ hy)
 have e1:=perm_len hl
 have e2:=perm_len hx
 by_cases e:l=x
 ·subst e
  rw[if_pos rfl,if_pos (by simp)]
 ·rw[if_neg fun e3=>e (pad_inj (by omega) (by omega) e3),ih]
  simp[e]
end Go.Proofs.Ythiammkiobbclaa.X

/-
 Rings: the contracts of growing, of all ways, Count and First.
-/
set_option maxRecDepth 1000000
set_option linter.unusedVariables false
set_option linter.unusedSimpArgs false
namespace Go.Proofs.Ythiammkiobbclaa.X
open Go Go.Ab

theorem rgt40c:CtOk Try.prog G 26 rg40c:=by
 intro args r h hp
 unfold rg40c at h
 split at h
 ·rename_i a n c1 k m c2 r p c3 x0 x1 x2 x3 x4 x5 x6 x7 tl
  cases hM:isM 24 tl with
  |false=>rw[hM,cond_false]at h;cases h
  |true=>
  rw[hM,cond_true]at h
  cases h
  obtain⟨hc,A,h1,h2,h3,h4⟩:=hp
  obtain⟨rfl,rfl,rfl⟩:=hc
  have:=rgt40 [.agg [.imm (.ints .i64 a) a.length c1,.imm (.ints .u8 k) k.length c2,.imm (.ints .i64 r) r.length c3],.agg (.int .i64 x0:: .int .i64 x1:: .int .i64 x2:: .int .i64 x3:: .int .i64 x4:: .int .i64 x5:: .int .i64 x6:: .int .i64 x7::tl)]
   ⟨.bool (crR a.length r [x0,x1,x2,x3,x4,x5,x6,x7]),[],some (cok a k r a.length k.length r.length∧0<a.length∧a.length≤8∧r.length=a.length+1)⟩ (by show cond (isM 24 tl) _ _=_;rw[hM];rfl) ⟨cok_self ..,h3,h4,h1⟩
  rw[crR_eq A]at this
  exact this
 ·cases h
theorem tGrok:CtsOk Try.prog G tGr:=⟨rgt39,rgt40c,rgt41,rgt42,ct67,trivial⟩
theorem rgt39b:CtOk Try.prog G 25 rg39b:=by
 intro args r h hp
 unfold rg39b at h
 split at h
 ·exact rgt39z _ r h hp
 ·exact rgt39 _ r h hp
theorem tGrnok:CtsOk Try.prog G tGrn:=⟨rgt39b,rgt40c,rgt41,rgt42z,ct41n,trivial⟩
/-! ### Growing -/
def S38 (a k r o:List Int)(L:List (List Int)):Prop:=
 SpecD Try.prog G (.fn 24 [] []) [immN .i64 o,.ptr 9130 0,.ptr 64 0,.ptr 320 0,.ptr 193 0,.ptr 256 0] (hrG a k r L) (.tup []) (wrG (grwO a.length r (rotR k) L o)) []
theorem chGr_ok {a k r:List Int}{q:Nat}(hS:q≤a.length→0<q→∀o L,o.length=q→okG o→okL a L→S38 a k r o L):
  ∀h cv args e,chGr a k r q h cv args=some e→optP e.p→SpecD Try.prog G cv args h e.v e.ws []:=by
 intro h cv args e he hp
 unfold chGr at he
 split at he
 ·split at he
  ·rename_i f i n p j m _ _ _ o _ _ _ _ _ _ _ x _ _ _ _ _ _ h1 h2
   rw[cond_eq_ite]at he
   split at he
   ·rename_i hk
    cases he
    simp only[Bool.and_eq_true]at hk
    have e1:=Nat.eq_of_beq_eq_true hk.1
    have e2:=Nat.eq_of_beq_eq_true hk.2.1
    have e3:=Nat.eq_of_beq_eq_true hk.2.2
    subst e1 e2 e3
    obtain⟨rfl,rfl,rfl,h0,hz,hp0,hp1⟩:=hp
    have:=sp59 (x:=x) (cv:=some 1) (i:=p.toNat) (o:=o) (by omega) h0 hz
    rwa [show((p.toNat:Nat):Int)=p by omega]at this
   ·cases he
  ·cases he
 ·split at he
  ·rename_i f p j m _ x _ _ _ _ _ _ h1
   rw[cond_eq_ite]at he
   split at he
   ·rename_i hk
    cases he
    simp only[Bool.and_eq_true]at hk
    have e1:=Nat.eq_of_beq_eq_true hk.1
    have e2:=Nat.eq_of_beq_eq_true hk.2
    subst e1 e2
    obtain⟨rfl,rfl,rfl⟩:=hp
    exact sp59n
   ·cases he
  ·cases he
 ·split at he
  ·rename_i f o m _ c d g u v _ vs _ _ _ _ _ _ h1
   rw[cond_eq_ite]at he
   split at he
   ·rename_i hk
    cases he
    simp only[Bool.and_eq_true]at hk
    have e1:=Nat.eq_of_beq_eq_true hk.1
    have e2:=Nat.eq_of_beq_eq_true hk.2.1
    have e3:=Nat.eq_of_beq_eq_true hk.2.2.1
    have e4:=Nat.eq_of_beq_eq_true hk.2.2.2.1
    have e5:=Nat.eq_of_beq_eq_true hk.2.2.2.2.1
    have e6:=Nat.eq_of_beq_eq_true hk.2.2.2.2.2
    subst e1 e2 e3 e4 e5 e6
    obtain⟨rfl,rfl,hq,hq1,hq2,hg,hl⟩:=hp
    have:=hS hq1 hq2 o (unO vs) hq hg hl
    unfold S38 at this
    intro F ρ w xs hm hv
    obtain⟨vl⟩:=xs
    refine this F ρ w ⟨vl⟩ hm ?_
    cases hv with
    |cons _ _ x1 r1 hx1 hv=>
     cases hx1 with
     |imm _ _ hi=>exact .cons _ _ _ _ (.imm _ _ hi.caps) hv
   ·cases he
  ·cases he
 ·cases he
theorem alt_wide {n:Nat}{r:List Int}(A:Alt n r):wideR r n:=fun c hc=>by
 rcases Nat.mod_two_eq_zero_or_one c with h|h
 ·have:=A.up c hc h;omega
 ·have:=A.dn c hc h;omega
theorem sp38_step {a k r o:List Int}{L:List (List Int)}(hN:okR a k r)(hT:TabOk Try.prog G (TGr a k r (o.length+1)))(h0:0<o.length)(hq:o.length≤a.length)(ho:okG o)(hL:okL a L):S38 a k r o L:=by
 have hN':=hN
 obtain⟨A,n3,n2,n0,n1⟩:=hN
 unfold S38
 refine fnD_spec hcm hmx hT ok24 rfl (ob_d_38 a k r o L) ?_
 dsimp -failIfUnchanged -proj -eta -iota -zeta only[rd,rdw,qs,ql,qx]
 have hc:=cok_self a k r
 have hO:=perm_okO ho (by omega:o.length≤8)
 have hlp:=leastL_perm r o
 have hlO:=perm_okO hlp (by omega:o.length≤8)
 have hll:=leastL_len r o
 have hLl:=okL_len hL n1
 have hev:=A.ev
 have hw:wideR r o.length:=fun c hc=>alt_wide A c (by omega)
 have hpk:=padK_len (l:=leastL r o) (by omega)
 simp only[outV_un,inR_i64,and_true,true_and,leb_iff,leb_no,ltb_iff,ltb_no,ltn_iff,len'_iff,iI,insA_len',Int.toNat_natCast,forall_const,true_imp_iff,size_ints,hpk]
 refine⟨hO,⟨hc,hN'⟩,fun h1=>?_,fun h1=>⟨⟨hc,n0,hev,n1,n2⟩,fun h2=>?_,fun h2=>⟨fun h3=>⟨by omega,⟨0,by omega,by omega,?_,hL⟩,?_⟩,fun h3=>⟨⟨hc,hO,by omega,by omega,hw⟩,Nat.ble_eq_true_of_le (by omega),by omega,fun h4=>?_,fun h4=>?_⟩⟩⟩⟩
 ·rw[grwO_stop (cwB_or.2 (.inl h1))];exact⟨rfl,rfl,rfl,rfl,rfl⟩
 ·rw[grwO_stop (cwB_or.2 (.inr h2))];exact⟨rfl,rfl,rfl,rfl,rfl⟩
 ·rfl
 ·rintro⟨i,M⟩ ⟨m,hi,hm,hM,hok⟩
  simp only at hi hM hok ⊢
  subst hi
  subst hM
  simp only[Int.toNat_natCast]
  have hcn:=cwB_no h1 h2
  refine⟨fun h5=>⟨⟨h0,by omega⟩,⟨h0,by omega,by omega,by omega⟩,⟨by omega,by omega,insA_perm ho,hok⟩,by omega,⟨m+1,by omega,by omega,grwM_step.symm,grwO_ok hok (by rw[insA_len'];omega)⟩,by omega⟩,fun h5=>?_⟩
  have:m=o.length+1:=by omega
  subst this
  rw[grwO_node hcn (by omega)]
  exact⟨rfl,rfl,rfl,rfl,rfl⟩
 all_goals
  have hlen:o.length=a.length:=by omega
  have hcn:=cwB_no h1 h2
  rw[grwO_leaf hcn (by omega)]
  rw[hlen]at hlp
  rw[fpE_get n1 hlp L hL.2]at h4
  unfold addU
 ·have hm:leastL r o∉L:=fun hm=>by rw[if_pos hm]at h4;cases h4
  have hcb:L.contains (leastL r o)=false:=by
   rw[← Bool.not_eq_true]
   exact fun h=>hm (List.contains_iff_mem.1 h)
  rw[hcb,cond_false,fpE_snoc,fpK_snoc,List.length_append]
  refine⟨by omega,by omega,rfl,?_,rfl,rfl,rfl⟩
  unfold outV
  rw[List.map_append];rfl
 ·have hm:leastL r o∈L:=Classical.byContradiction fun hm=>by rw[if_neg hm]at h4;cases h4
  rw[List.contains_iff_mem.2 hm]
  exact⟨rfl,rfl,rfl,rfl,rfl⟩
/-- Growing, whatever the pile's length. -/
theorem sp38 {a k r:List Int}(hN:okR a k r):∀(d q:Nat),q+d=a.length→0<q→∀o L,o.length=q→okG o→okL a L→S38 a k r o L
 |0,q,hd,h0,o,L,hl,ho,hL=>by
  subst hl
  exact sp38_step hN (tabL_ok (chGr_ok fun h _=>by omega) tGrok) h0 (by omega) ho hL
 |d+1,q,hd,h0,o,L,hl,ho,hL=>by
  subst hl
  exact sp38_step hN (tabL_ok (chGr_ok fun h h'=>sp38 hN d (o.length+1) (by omega) h') tGrok) h0 (by omega) ho hL
theorem TGrok {a k r:List Int}(hN:okR a k r)(q:Nat):∀h cv args e,chGr a k r q h cv args=some e→optP e.p→SpecD Try.prog G cv args h e.v e.ws []:=
 chGr_ok fun h h0=>sp38 hN (a.length-q) q (by omega) h0
theorem sp38n {a k r:List Int}(hN:okR a k r):SpecD Try.prog G (.fn 24 [] []) [.nils,.ptr 9130 0,.ptr 64 0,.ptr 320 0,.ptr 193 0,.ptr 256 0] (hrG a k r []) (.tup []) (wrG (grwO a.length r (rotR k) [] [])) []:=by
 refine fnD_spec hcm hmx (tabL_ok (TGrok hN 1) tGrnok) ok24 rfl (ob_d_38n a k r) ?_
 dsimp -failIfUnchanged -proj -eta -iota -zeta only[rd,rdw,qs,ql,qx]
 have hN':=hN
 obtain⟨A,n3,n2,n0,n1⟩:=hN
 have hc:=cok_self a k r
 have hev:=A.ev
 have hrk:rkL []=[-1,-1,-1,-1,-1,-1,-1,-1]:=rfl
 simp only[outV_un,inR_i64,and_true,true_and,leb_iff,leb_no,ltb_iff,ltb_no,ltn_iff,len'_iff,iI,insA_len',Int.toNat_natCast,forall_const,true_imp_iff,← hrk]
 refine⟨⟨hc,hN'⟩,fun h1=>?_,fun h1=>⟨⟨hc,n0,hev,n1,n2⟩,fun h2=>?_,fun h2=>⟨fun h3=>⟨⟨by omega,by omega,List.Perm.refl _,List.nodup_nil,fun l hl=>by cases hl⟩,?_⟩,fun h3=>by omega⟩⟩⟩
 ·rw[grwO_stop (cwB_or.2 (.inl h1))];exact⟨rfl,rfl,rfl,rfl,rfl⟩
 ·rw[grwO_stop (cwB_or.2 (.inr h2))];exact⟨rfl,rfl,rfl,rfl,rfl⟩
 ·have e:grwO a.length r (rotR k) [] []=grwO a.length r (rotR k) [] [0]:=by
   rw[grwO_node (cwB_no h1 h2) (by simpa using h3)];exact grwM_step
  rw[e];exact⟨rfl,rfl,rfl,rfl,rfl⟩
theorem chWr_ok {a k r:List Int}(hN:okR a k r):∀h cv args e,chWr a k r h cv args=some e→optP e.p→SpecD Try.prog G cv args h e.v e.ws []:=by
 intro h cv args e he hp
 unfold chWr at he
 split at he
 ·rename_i f c d g u v vs _ _ _ _ _ _ h1
  rw[cond_eq_ite]at he
  split at he
  ·rename_i hk
   cases he
   simp only[Bool.and_eq_true]at hk
   have e1:=Nat.eq_of_beq_eq_true hk.1
   have e2:=Nat.eq_of_beq_eq_true hk.2.1
   have e3:=Nat.eq_of_beq_eq_true hk.2.2.1
   have e4:=Nat.eq_of_beq_eq_true hk.2.2.2.1
   have e5:=Nat.eq_of_beq_eq_true hk.2.2.2.2.1
   have e6:=Nat.eq_of_beq_eq_true hk.2.2.2.2.2
   subst e1 e2 e3 e4 e5 e6
   obtain⟨rfl,_⟩:=hp
   exact sp38n hN
  ·cases he
 ·rename_i f i n g vs _ _ _ _ _ _ h1
  rw[cond_eq_ite]at he
  split at he
  ·rename_i hk
   cases he
   simp only[Bool.and_eq_true]at hk
   have e1:=Nat.eq_of_beq_eq_true hk.1
   have e2:=Nat.eq_of_beq_eq_true hk.2.1
   have e3:=Nat.eq_of_beq_eq_true hk.2.2
   subst e1 e2 e3
   obtain⟨rfl,rfl,hl⟩:=hp
   exact sp61c hl hN.2.2.2.2
  ·cases he
 ·cases he
/-! ### A valid ring -/
theorem rays_next {a:List Int}{m:Nat}(h:m<a.length):gR (raysL a) ((m:Int)+1)=gR (raysL a) m+a[m]?.getD 0*(1-2*(m:Int).tmod 2):=by
 have:=rayL_get a 0 true m h
 unfold gR
 rw[show((m:Int)+1).toNat=m+1 by omega,Int.toNat_natCast]
 show(rayL 0 true a)[m+1]?.getD 0=(rayL 0 true a)[m]?.getD 0+_
 rw[this]
 show _+_*(1*sgI m)=_
 unfold sgI
 rw[Int.one_mul]
theorem ang_get {a:List Int}{p q:Int}(hA:∀x∈a,p≤x∧x≤q){m:Nat}(g:m<a.length):p≤a[m]?.getD 0∧a[m]?.getD 0≤q:=by
 rw[List.getElem?_eq_getElem g]
 exact hA _ (List.getElem_mem g)
theorem rays_0 (a:List Int):gR (raysL a) 0=0:=by
 show gR (rayL 0 true a) 0=0
 cases a<;>rfl
theorem ring_ok {a k:List Int}(h:okRing a k):okR a k (raysL a):=by
 obtain⟨hA,h8,h0,hk,hev,hkk,hz⟩:=h
 refine⟨⟨hev,fun m hm he=>?_,fun m hm he=>?_,by rw[hz,rays_0]⟩,raysL_len a,hk,h0,h8⟩
 ·have h1:=rays_next hm
  have h2:=ang_get hA hm
  have h3:(m:Int).tmod 2=0:=by rw[Int.tmod_eq_emod_of_nonneg (by omega)];omega
  rw[h3]at h1
  omega
 ·have h1:=rays_next hm
  have h2:=ang_get hA hm
  have h3:(m:Int).tmod 2=1:=by rw[Int.tmod_eq_emod_of_nonneg (by omega)];omega
  rw[h3]at h1
  omega
theorem sum_le {q:Int}:∀(a:List Int),(∀x∈a,x≤q)→a.sum≤q*a.length
 |[],_=>by simp
 |x::a,h=>by
  have h1:=h x (List.mem_cons_self ..)
  have h2:=sum_le a fun y hy=>h y (List.mem_cons_of_mem _ hy)
  rw[List.sum_cons,List.length_cons,Int.natCast_succ,Int.mul_add]
  omega
theorem rays_bd2 {a:List Int}(hA:∀x∈a,1≤x∧x≤64)(h8:a.length≤8):∀y∈raysL a,-512≤y∧y≤512:=fun y hy=>by
 have h1:=rayL_bd a 0 true (fun x hx=>(hA x hx).1) y hy
 have h2:=sum_le a (q:=64) fun x hx=>(hA x hx).2
 omega
end Go.Proofs.Ythiammkiobbclaa.X
/-
 Rings: the contracts of checking, of all ways, Count and First.
-/
set_option maxRecDepth 1000000
set_option linter.unusedVariables false
set_option linter.unusedSimpArgs false
namespace Go.Proofs.Ythiammkiobbclaa.X
open Go Go.Ab

theorem rgt37:CtOk Try.prog G 11 rg37:=by
 intro args r h hp
 unfold rg37 at h
 split at h<;>cases h
 rename_i a n _ k m _
 obtain⟨rfl,rfl,hr⟩:=hp
 refine fan_caps (fnP_spec hcm hmx T0ok ok11 rfl (ob_g37 a k) ?_)
 dsimp -failIfUnchanged -proj -eta -iota -zeta only[rd,rdw,qs,ql,qx]
 obtain⟨hA,hl,h0,hk,hev,hkk,hz⟩:=id hr
 have hrb:=rays_bd2 hA hl
 have hrl:=raysL_len a
 simp only[inR_i64,and_true,true_and,leb_iff,ltb_iff,ltb_no,ltn_iff,len'_iff,iI,iL,size_ints,List.length_drop,List.length_append,List.length_cons,List.length_nil,List.getD_eq_getElem?_getD,List.getElem?_drop,Nat.add_zero,Nat.zero_add]
 refine⟨⟨0,rfl,by omega,?_⟩,?_⟩
 ·show[0]=(rayL 0 true a).take 1
  cases a<;>rfl
 rintro⟨i,r⟩ ⟨m,hi,hm,hr⟩
 simp only at hi hr ⊢
 subst hi hr
 simp only[Int.toNat_natCast]
 refine⟨fun hlt=>?_,fun hge=>?_⟩
 ·have g:m<a.length:=by omega
  have hst:=rays_step g
  have htl:((raysL a).take (m+1)).length=m+1:=by rw[List.length_take];omega
  have ha:=ang_get hA g
  have hy: -512≤((raysL a).take (m+1))[m]?.getD 0∧((raysL a).take (m+1))[m]?.getD 0≤512:=by
   have hm1:m<((raysL a).take (m+1)).length:=by omega
   rw[List.getElem?_eq_getElem hm1]
   exact hrb _ (List.mem_of_mem_take (List.getElem_mem hm1))
  have ht:(m:Int).tmod 2=0∨(m:Int).tmod 2=1:=by rw[Int.tmod_eq_emod_of_nonneg (by omega)];omega
  have hex:∃m_1:Nat,(m:Int)+1=m_1∧m_1≤a.length∧(raysL a).take (m+2)=(raysL a).take (m_1+1):=⟨m+1,by omega,by omega,rfl⟩
  rw[← hst]
  rcases ht with ht|ht
  ·rw[ht]at hst ⊢
   repeat' apply And.intro
   all_goals first|omega|exact hex
  ·rw[ht]at hst ⊢
   repeat' apply And.intro
   all_goals first|omega|exact hex
 ·rw[List.take_of_length_le (by omega)]
  exact⟨rfl,rfl⟩
theorem rgt36:CtOk Try.prog G 10 rg36:=by
 intro args r h hp
 unfold rg36 at h
 split at h<;>cases h
 rename_i a n _ k m _
 obtain⟨rfl,rfl,hr⟩:=hp
 refine fan_caps (fnP_spec hcm hmx T0ok ok10 rfl (ob_g36 a k) ?_)
 dsimp -failIfUnchanged -proj -eta -iota -zeta only[rd,rdw,qs,ql,qx]
 obtain⟨hA,hl,h0,hk,hev,hkk,hz⟩:=id hr
 have hrb:=rays_bd2 hA hl
 have hrl:=raysL_len a
 have ht2:((a.length:Nat):Int).tmod 2=0:=by rw[Int.tmod_eq_emod_of_nonneg (by omega)];omega
 simp only[inR_i64,and_true,true_and,leb_iff,ltb_iff,ltb_no,ltn_iff,len'_iff,iI,iL,size_ints,List.length_drop,List.length_append,List.length_cons,List.length_nil,List.getD_eq_getElem?_getD,List.getElem?_drop,Nat.add_zero,Nat.zero_add,beq_iff_eq,beq_eq_false_iff_ne,ne_eq,bne_iff_ne,bne_eq_false_iff_eq]
 refine⟨by omega,by omega,fun h=>by omega,fun h=>⟨by omega,⟨0,rfl,by omega,?_⟩,?_⟩⟩
 ·show(0:Int)=gR (rayL 0 true a) 0
  cases a<;>rfl
 rintro⟨i,s⟩ ⟨m,hi,hm,hs⟩
 simp only at hi hs ⊢
 subst hi hs
 simp only[Int.toNat_natCast]
 refine⟨fun hlt=>?_,fun hge=>?_⟩
 ·have g:m<a.length:=by omega
  have ha:=ang_get hA g
  have hkm:1≤k[m]?.getD 0∧k[m]?.getD 0≤3:=by
   rw[List.getElem?_eq_getElem (by omega)]
   exact hkk _ (List.getElem_mem _)
  have hn:=rays_next g
  have hy: -512≤gR (raysL a) m∧gR (raysL a) m≤512:=by
   unfold gR
   rw[Int.toNat_natCast,List.getElem?_eq_getElem (by omega)]
   exact hrb _ (List.getElem_mem _)
  have hex:∃m_1:Nat,(m:Int)+1=m_1∧m_1≤a.length∧gR (raysL a) m+a[m]?.getD 0*(1-2*(m:Int).tmod 2)=gR (raysL a) m_1:=⟨m+1,by omega,by omega,hn.symm⟩
  have ht:(m:Int).tmod 2=0∨(m:Int).tmod 2=1:=by rw[Int.tmod_eq_emod_of_nonneg (by omega)];omega
  have hb: -512≤a[m]?.getD 0*(1-2*(m:Int).tmod 2)∧a[m]?.getD 0*(1-2*(m:Int).tmod 2)≤512:=by
   rcases ht with ht|ht<;>rw[ht]<;>omega
  clear hn
  generalize a[m]?.getD 0*(1-2*(m:Int).tmod 2)=y at*
  refine⟨by omega,by omega,by omega,by omega,fun h=>by omega,fun _=>⟨fun h=>by omega,fun _=>⟨by omega,by omega,by omega,by omega,fun h=>by omega,fun _=>?_⟩⟩⟩
  repeat' apply And.intro
  all_goals first|omega|exact hex
 ·rw[show m=a.length by omega]
  exact hz
theorem rgt18:CtOk Try.prog G 16 rg36:=by
 intro args r h hp
 unfold rg36 at h
 split at h<;>cases h
 rename_i a n _ k m _
 obtain⟨rfl,rfl,hr⟩:=hp
 refine fan_caps (fnP_spec hcm hmx (tabL_ok noCh_ok ⟨rgt36,trivial⟩:TabOk Try.prog G TR18) ok16 rfl (ob_g18 a k) ?_)
 obtain⟨hA,hl,h0,hk,hev,hkk,hz⟩:=id hr
 simp only[ltb_no,and_true,true_and,iI]
 exact⟨hr,by omega⟩
theorem rgt19:CtOk Try.prog G 17 rg19:=by
 intro args r h hp
 unfold rg19 at h
 split at h<;>cases h
 rename_i a n _ k m _
 obtain⟨rfl,rfl,hr⟩:=hp
 have hR:=ring_ok hr
 refine fan_caps (fnP_spec hcm hmx (tabL_ok (chWr_ok hR) ⟨rgt37,trivial⟩:TabOk Try.prog G (TWr a k)) ok17 rfl (ob_g19 a k) ?_)
 dsimp -failIfUnchanged -proj -eta -iota -zeta only[rd,rdw,qs,ql,qx]
 simp only[outV_un,and_true,true_and,forall_const,true_imp_iff]
 have hp:=(srtL_perm (grwO a.length (raysL a) (rotR k) [] [])).length_eq
 exact⟨hr,hR,grw_okL,rfl,hp.symm⟩
theorem TR8ok:TabOk Try.prog G TR8:=tabL_ok noCh_ok ⟨rgt18,rgt19,trivial⟩
theorem rgt8:CtOk Try.prog G 6 rg8:=by
 intro args r h hp
 unfold rg8 at h
 split at h<;>cases h
 rename_i a n _ k m _
 obtain⟨rfl,rfl,hr⟩:=hp
 refine fan_caps (fnP_spec hcm hmx TR8ok ok6 rfl (ob_g8 a k) ?_)
 simp only[and_true,true_and,iI]
 exact⟨hr,hr⟩
end Go.Proofs.Ythiammkiobbclaa.X
