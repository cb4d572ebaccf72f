/-
 Strips: the contracts of Check and Least.
-/
import Derived.Test.YthiammkiobbclaaO36Z
import Derived.Test.YthiammkiobbclaaC35Z
import Derived.Test.YthiammkiobbclaaP36Z
set_option maxRecDepth 1000000
set_option linter.unusedVariables false
set_option linter.unusedSimpArgs false
namespace Go.Proofs.Ythiammkiobbclaa.X
open Go Go.Ab

theorem rzF_len (o:List Int):(rzF o).length=8:=by unfold rzF;rw[rkA_len];rfl
theorem rzL_eq (o:List Int):[rzO o 0,rzO o 1,rzO o 2,rzO o 3,rzO o 4,rzO o 5,rzO o 6,rzO o 7]=rzF o:=list8 _ (rzF_len o)
theorem U52ok:TabOk Try.prog G U52:=tabL_ok noCh_ok ⟨st53,st54,st70,st71,trivial⟩
theorem st52:CtOk Try.prog G 52 s52:=by
 intro args r h hp
 unfold s52 at h
 split at h<;>cases h
 rename_i a n _ k m _ o q _
 obtain⟨rfl,rfl,rfl,hs,ho⟩:=hp
 refine strip_caps (fnP_spec hcm hmx U52ok ok52 rfl (ob_s52 a k o) ?_)
 dsimp -failIfUnchanged -proj -eta -iota -zeta only[rd,rdw,qs,ql,qx]
 have hO:=perm_okO ho hs.2.1
 have hc:=cok_self a k (raysL a)
 have hs':=hs
 obtain⟨_,h8,hk,_⟩:=hs'
 have hl:=raysL_len a
 simp only[rzL_eq,gR0,inR_i64,and_true,true_and,leb_iff,ltb_iff,ltb_no,ltn_iff,iI,size_ints,List.length_drop,eq_self_iff_true,implies_true]
 refine⟨⟨hs,ho⟩,hO,⟨hc,hk,h8,hl⟩,fun e1=>by unfold chkP;rw[e1];rfl,fun e1=>⟨⟨0,rfl,by omega,fun j hj=>by omega⟩,?_⟩⟩
 rintro⟨i⟩ ⟨m,hi,hm,hf⟩
 simp only at hi ⊢
 subst hi
 simp only[Int.toNat_natCast]
 have hst:wr1 k (rzF o) m=false→m<k.length→∃m_1:Nat,(m:Int)+1=m_1∧m_1≤k.length∧∀(j:Nat),j<m_1→wr1 k (rzF o) j=false:=fun e hlt=>⟨m+1,by omega,by omega,fun j hj=>by
  by_cases hj':j<m
  ·exact hf j hj'
  ·rw[show j=m by omega];exact e⟩
 have hw:wr1 k (rzF o) m=((gR k m !=3)&&(gR k m !=kdS (rzF o) m)):=rfl
 refine⟨fun hlt=>⟨by omega,by omega,by omega,by omega,fun e2=>⟨⟨by omega,by omega⟩,fun e3=>?_,fun e3=>?_⟩,fun e2=>?_⟩,fun hge=>?_⟩
 ·have:wrS k (rzF o)=true:=anyN_yes (j:=m) (by omega) (by rw[hw,e2,e3];rfl)
  unfold chkP;rw[e1,this];rfl
 ·exact⟨by omega,hst (by rw[hw,e3,Bool.and_false]) (by omega),by omega⟩
 ·exact⟨by omega,hst (by rw[hw,e2,Bool.false_and]) (by omega),by omega⟩
 ·have:wrS k (rzF o)=false:=anyN_noI.2 fun j hj=>hf j (by omega)
  unfold chkP;rw[e1,this];rfl
/-! ### Least -/
theorem rzG_len (o:List Int):(rzG o).length=32:=by unfold rzG;rw[rkA_len];rfl
theorem rzG_list {o:List Int}(h:okO o):[rzO o 0,rzO o 1,rzO o 2,rzO o 3,rzO o 4,rzO o 5,rzO o 6,rzO o 7,0,0,0,0,0,0,0,0,0,0,0,0,0,0,0,0,0,0,0,0,0,0,0,0]=rzG o:=by
 rw[rzG_eq h,← rzL_eq o];rfl
theorem rzG_get {o:List Int}{n:Nat}(ho:o.Perm (idO n))(hn:n≤8){j:Nat}(hj:j<n):(rzG o)[j]?.getD 0=gR (rkF o) j:=by
 rw[rzG_lo (perm_okO ho hn) (by omega)]
 exact rz_rk ho hn (by omega) (by omega)
theorem U35ok:TabOk Try.prog G U35:=tabL_ok noCh_ok ⟨st53,st54,st55,trivial⟩
theorem st35:CtOk Try.prog G 35 s35:=by
 intro args r h hp
 unfold s35 at h
 split at h<;>cases h
 rename_i a n _ k m _ o q _
 obtain⟨rfl,rfl,rfl,hs,ho⟩:=hp
 refine strip_caps (fnP_spec hcm hmx U35ok ok35 rfl (ob_s35 a k o) ?_)
 dsimp -failIfUnchanged -proj -eta -iota -zeta only[rd,rdw,qs,ql,qx]
 have hol:=perm_len ho
 have hO:=perm_okO ho hs.2.1
 have hc:=cok_self a k (raysL a)
 have h8:=hs.2.1
 have hrl:=raysL_len a
 have e32:=rzG_list hO
 have hR:=rzG_len o
 have hw:=strip_wide hs
 simp only[e32,inR_i64,and_true,true_and,leb_iff,leb_no,ltb_iff,ltb_no,ltn_iff,len'_iff,iI,iL,size_ints,size_bools,List.length_drop,List.length_append,List.length_cons,List.length_nil,List.getD_eq_getElem?_getD,List.getElem?_drop,Nat.add_zero,Int.toNat_natCast,beq_iff_eq,beq_eq_false_iff_ne,ne_eq,forall_const,true_imp_iff,Bool.not_not,Bool.not_eq_true',Bool.not_eq_false',eq_self_iff_true]
 refine⟨⟨hs,ho⟩,hO,by omega,⟨0,by omega,rfl⟩,?_⟩
 rintro⟨out,t⟩ ⟨m,hm,hout,ht⟩
 simp only at hout ht ⊢
 subst hout
 generalize hrr:raysL a=r at*
 have ht:t=tk32 (lstN r (rkF o) o.length m):=ht
 have htl:t.length=32:=by rw[ht,tk32_len]
 have htg:∀j:Nat,j<8→t[j]?.getD false=memB (lstN r (rkF o) o.length m) j:=fun j hj=>by rw[ht,tk32_get (by omega)]
 have hlen:=lstN_len r (rkF o) o.length m
 simp only[hlen]
 refine⟨fun hlt=>⟨⟨0,rfl,by omega,fun j hj=>by omega⟩,?_⟩,fun hge=>?_⟩
 rotate_left
 ·have:m=o.length:=by omega
  subst this
  exact⟨rfl,(leastL_len r o).symm,(leastL_len r o).symm⟩
 rintro⟨i⟩ ⟨p,hi,hp,hf⟩
 simp only at hi ⊢
 subst hi
 simp only[Int.toNat_natCast]
 refine⟨fun hi=>⟨by omega,by omega,by omega,⟨0,rfl,by omega,?_⟩,?_⟩,fun hi=>?_⟩
 ·rw[htg p (by omega)];unfold frK;simp
 ·rintro⟨c,f⟩ ⟨u,hc1,hu,hf2⟩
  simp only at hc1 hf2 ⊢
  subst hc1
  simp only[Int.toNat_natCast]
  have hp7:p<8:=by omega
  have e0:=frK_succ (r:=r) (rk:=rkF o) (out:=lstN r (rkF o) o.length m) (i:=(p:Int)) (m:=u)
  rw[← hf2]at e0
  have ec:frC r (rkF o) (lstN r (rkF o) o.length m) p u=(memB (lstN r (rkF o) o.length m) u||(leb (gR (rkF o) p) (gR (rkF o) u)|| !ovlB r p u)):=rfl
  have gp:(rzG o)[p]?.getD 0=gR (rkF o) p:=rzG_get ho h8 (by omega)
  refine⟨fun hk=>?_,fun hk=>?_⟩
  ·have hu7:u<8:=by omega
   have gu:(rzG o)[u]?.getD 0=gR (rkF o) u:=rzG_get ho h8 (by omega)
   have tu:=htg u hu7
   have eo:=ovS_ov (r:=r) (i:=(p:Int)) (k:=(u:Int)) (hw p (by omega)) (hw u (by omega))
   rw[gp,gu,tu,htl,hR]
   have hex:∀v:Bool,v=frK r (rkF o) (lstN r (rkF o) o.length m) p (u+1)→∃m_1:Nat,(u:Int)+1=m_1∧m_1≤o.length∧v=frK r (rkF o) (lstN r (rkF o) o.length m) p m_1:=fun v h=>⟨u+1,by omega,by omega,h⟩
   clear ht
   generalize lstN r (rkF o) o.length m=out at*
   refine⟨fun h=>⟨fun hb=>?_,fun hb=>⟨fun hle=>?_,fun hle=>?_⟩⟩,fun h=>?_⟩
   ·have hv:=hex true (by rw[e0,ec,h,hb];rfl)
    repeat' apply And.intro
    all_goals first|omega|exact h|exact hb|exact hv
   ·have hv:=hex true (by rw[e0,ec,h,hb,leb_iff.2 hle];rfl)
    repeat' apply And.intro
    all_goals first|omega|exact h|exact hb|exact hle|exact hv
   ·have hv:=hex (!ovS r p u) (by rw[e0,ec,h,hb,leb_no.2 hle,eo];simp)
    repeat' apply And.intro
    all_goals first|omega|exact h|exact hb|exact hle|exact hc|exact hv
   ·have hv:=hex false (by rw[e0,h];rfl)
    repeat' apply And.intro
    all_goals first|omega|exact h|exact hv
  ·have:u=o.length:=by omega
   subst this
   refine⟨fun h=>?_,fun h=>?_⟩
   ·have e1:=fr1_of (r:=r) (rk:=rkF o) (out:=lstN r (rkF o) o.length m) (n:=o.length) (m:=p) (by omega) (by rw[← hf2,h]) hf
    have hex:∃m_1:Nat,m_1≤o.length∧lstN r (rkF o) o.length m++[(p:Int)]=lstN r (rkF o) o.length m_1∧t.set p true=tk32 (lstN r (rkF o) o.length m++[(p:Int)]):=by
     refine⟨m+1,by omega,?_,by rw[ht,tk32_set (by omega)]⟩
     show _=lstN r (rkF o) o.length m++[fr1 r (rkF o) o.length (lstN r (rkF o) o.length m)]
     rw[e1]
    repeat' apply And.intro
    all_goals first|omega|exact hex
   ·refine⟨by omega,⟨p+1,by omega,by omega,fun j hj=>?_⟩,by omega⟩
    by_cases hj':j<p
    ·exact hf j hj'
    ·rw[show j=p by omega,← hf2,h]
 ·obtain⟨j,hj,hj2⟩:=frK_ex (r:=r) (rk:=rkF o) (out:=lstN r (rkF o) o.length m) (n:=o.length) (by rw[hlen];omega)
  rw[hf j (by omega)]at hj2
  cases hj2
end Go.Proofs.Ythiammkiobbclaa.X

/-
 Strips: the contracts of growing, of all ways, of Count.
-/
set_option maxRecDepth 1000000
set_option linter.unusedVariables false
set_option linter.unusedSimpArgs false
namespace Go.Proofs.Ythiammkiobbclaa.X
open Go Go.Ab

theorem sp59' {o:List Int}{i:Nat}{x:Int}{cv:Option Nat}(hi:i≤o.length)(h0:0<o.length)(hz:o.length<1000000):
  SpecD Try.prog G (.fn 28 [] []) [.full 36928 o.length,.int .i64 (i:Int),.full 580 1] [(580,.blk ⟨.ints .i64 [x],1,1,cv,some false,true,false⟩),(36928,.blk ⟨.ints .i64 o,1,o.length,none,some false,true,false⟩)]
   (.imm (.ints .i64 (insA o i x)) (insA o i x).length none) [(36928,.blk ⟨.ints .i64 (insA o i x),1,(insA o i x).length,none,some false,false,false⟩)] []:=
 ins_spec lays59 rfl Try.func28 (by kernel_rfl) rfl (by decide) hi h0 hz
theorem sp59n' {x:Int}{cv:Option Nat}:
  SpecD Try.prog G (.fn 28 [] []) [.nils,.int .i64 0,.full 580 1] [(580,.blk ⟨.ints .i64 [x],1,1,cv,some false,true,false⟩)] (.imm (.ints .i64 [x]) 1 none) [] []:=
 ins_nil lays59 rfl Try.func28 (by kernel_rfl) rfl
/-! ### A pile that is found -/
theorem sy19 {a k o:List Int}{L:List (List Int)}(hs:okStrip a k)(ho:o.Perm (idO a.length))(hL:okL a L):SpecD Try.prog G (.yld 9005) [immN .i64 o] (hY a k L) (.bool true) (wY (addS a L o)) []:=by
 refine fnY_spec hcm hmx (tabL_ok noCh_ok ⟨st35,trivial⟩:TabOk Try.prog G U19) (ob_y_19 a k o L) ?_
 dsimp -failIfUnchanged -proj -eta -iota -zeta only[rd,rdw,qs,ql,qx]
 have h8:=hs.2.1
 have hol:=perm_len ho
 have hll:=leastL_len (raysL a) o
 have hlp:=leastL_perm (raysL a) o
 rw[hol]at hlp
 have hLl:=okL_len hL h8
 have hpk:=padK_len (l:=leastL (raysL a) o) (by omega)
 simp only[inR_i64,and_true,true_and,leb_iff,ltb_iff,ltb_no,ltn_iff,len'_iff,iI,size_ints,hpk,eq_self_iff_true]
 rw[fpE_get h8 hlp L hL.2]
 refine⟨⟨hs,ho⟩,Nat.ble_eq_true_of_le (by omega),by omega,fun h4=>?_,fun h4=>?_⟩
 ·have hm:leastL (raysL a) o∉L:=fun hm=>by rw[if_pos hm]at h4;cases h4
  have hcb:L.contains (leastL (raysL a) o)=false:=by
   rw[← Bool.not_eq_true]
   exact fun h=>hm (List.contains_iff_mem.1 h)
  unfold addS addU
  rw[hcb,cond_false,fpE_snoc,fpK_snoc,List.length_append]
  have hov:outV L++[.imm (.ints .i64 (leastL (raysL a) o)) (leastL (raysL a) o).length (some (leastL (raysL a) o).length)]=outV (L++[leastL (raysL a) o]):=by
   unfold outV
   rw[List.map_append];rfl
  repeat' apply And.intro
  all_goals first|rfl|exact hov|omega
 ·have hm:leastL (raysL a) o∈L:=Classical.byContradiction fun hm=>by rw[if_neg hm]at h4;cases h4
  unfold addS addU
  rw[List.contains_iff_mem.2 hm]
  repeat' apply And.intro
  all_goals rfl
theorem chYok {a k:List Int}:ChOk Try.prog G (chY a k):=by
 intro h cv args e he hp
 unfold chY at he
 split at he
 ·rename_i id o m _ vs _ _ _ _ _ _ h1
  rw[cond_eq_ite]at he
  split at he
  ·rename_i hk
   cases he
   obtain rfl:=Nat.eq_of_beq_eq_true hk
   obtain⟨rfl,rfl,ho,hL,hs⟩:=hp
   intro F ρ w xs hm hv
   obtain⟨vl⟩:=xs
   refine sy19 hs ho hL F ρ w ⟨vl⟩ hm ?_
   cases hv with
   |cons _ _ x1 r1 hx1 hv=>
    cases hx1 with
    |imm _ _ hi=>exact .cons _ _ _ _ (.imm _ _ hi.caps) hv
  ·cases he
 ·cases he
/-! ### Growing -/
def S51 (a k o:List Int)(L:List (List Int)):Prop:=
 SpecD Try.prog G (.fn 51 [] []) [immN .i64 o,.iptr (stpF a k),.ptr 64 0,.ptr 128 0] (hS a k L) (.bool true) (wY (grO a k L o)) []
theorem chS_ok {a k:List Int}{q:Nat}(hS:q≤a.length→0<q→∀o L,o.length=q→okG o→okL a L→S51 a k o L):ChOk Try.prog G (chS a k q):=by
 intro h cv args e he hp
 unfold chS at he
 split at he
 ·split at he
  ·rename_i f i n p j m _ _ _ o _ _ _ _ _ _ _ x _ _ _ _ _ _ h1 h2
   rw[cond_eq_ite]at he
   split at he
   ·rename_i hk
    cases he
    simp only[Bool.and_eq_true]at hk
    have e1:=Nat.eq_of_beq_eq_true hk.1
    have e2:=Nat.eq_of_beq_eq_true hk.2.1
    have e3:=Nat.eq_of_beq_eq_true hk.2.2
    subst e1 e2 e3
    obtain⟨rfl,rfl,rfl,h0,hz,hp0,hp1⟩:=hp
    have:=sp59' (x:=x) (cv:=some 1) (i:=p.toNat) (o:=o) (by omega) h0 hz
    rwa [show((p.toNat:Nat):Int)=p by omega]at this
   ·cases he
  ·cases he
 ·split at he
  ·rename_i f p j m _ x _ _ _ _ _ _ h1
   rw[cond_eq_ite]at he
   split at he
   ·rename_i hk
    cases he
    simp only[Bool.and_eq_true]at hk
    have e1:=Nat.eq_of_beq_eq_true hk.1
    have e2:=Nat.eq_of_beq_eq_true hk.2
    subst e1 e2
    obtain⟨rfl,rfl,rfl⟩:=hp
    exact sp59n'
   ·cases he
  ·cases he
 ·split at he
  ·rename_i f o m _ a' n k' m' u v _ vs _ _ _ _ _ _ h1
   rw[cond_eq_ite]at he
   split at he
   ·rename_i hk
    cases he
    simp only[Bool.and_eq_true]at hk
    have e1:=Nat.eq_of_beq_eq_true hk.1
    have e2:=Nat.eq_of_beq_eq_true hk.2.1
    have e3:=Nat.eq_of_beq_eq_true hk.2.2
    subst e1 e2 e3
    obtain⟨rfl,rfl,rfl,rfl,rfl,rfl,hq,hq1,hq2,hg,hl⟩:=hp
    have:=hS hq1 hq2 o (unO vs) hq hg hl
    unfold S51 at this
    intro F ρ w xs hm hv
    obtain⟨vl⟩:=xs
    refine this F ρ w ⟨vl⟩ hm ?_
    cases hv with
    |cons _ _ x1 r1 hx1 hv=>
     cases hx1 with
     |imm _ _ hi=>exact .cons _ _ _ _ (.imm _ _ hi.caps) hv
   ·cases he
  ·cases he
 ·exact chYok _ _ _ _ he hp
theorem sp51_step {a k o:List Int}{L:List (List Int)}(hs:okStrip a k)(hT:TabOk Try.prog G (T51 a k (o.length+1)))(h0:0<o.length)(hq:o.length≤a.length)(ho:okG o)(hL:okL a L):S51 a k o L:=by
 unfold S51
 refine fnD_spec hcm hmx hT ok51 rfl (ob_d_51 a k o L) ?_
 dsimp -failIfUnchanged -proj -eta -iota -zeta only[rd,rdw,qs,ql,qx]
 have hs':=hs
 obtain⟨_,h8,hk,_⟩:=hs'
 simp only[outV_un,inR_i64,and_true,true_and,leb_iff,leb_no,ltb_iff,ltb_no,ltn_iff,len'_iff,iI,insA_len',Int.toNat_natCast,forall_const,true_imp_iff,size_ints,eq_self_iff_true]
 refine⟨fun h1=>?_,fun h1=>?_⟩
 ·have hol:o.length=a.length:=by
   have:=beq_iff_eq.1 h1;omega
  rw[grO_leaf (by omega)]
  refine⟨⟨by rw[← hol];exact ho,hL,hs⟩,?_⟩
  repeat' apply And.intro
  all_goals rfl
 ·have hol:o.length<a.length:=by
   have:=beq_eq_false_iff_ne.1 h1;omega
  have et:(((o.length:Nat):Int)+1).toNat=o.length+1:=by omega
  simp only[et]
  refine⟨by omega,by omega,by omega,by omega,⟨0,rfl,by omega,rfl,hL⟩,?_⟩
  rintro⟨i,M⟩ ⟨m,hi,hm,hM,hok⟩
  simp only at hi hM hok ⊢
  subst hi
  subst hM
  simp only[Int.toNat_natCast]
  have hg:=insA_perm (i:=m) ho
  have hcp:=chk_part (a:=a) (k:=k) (o:=insA o m (o.length:Int)) (m:=o.length) (by omega) (by omega) insA_len'
  have hst:=okStrip_take hs (m:=o.length) (by omega)
  have hpp:(insA o m (o.length:Int)).Perm (idO (List.take (o.length+1) a).length):=by
   have:(List.take (o.length+1) a).length=(insA o m (o.length:Int)).length:=by rw[List.length_take,insA_len'];omega
   rw[this];exact hg
  have ek:(List.take o.length k).length=o.length:=by rw[List.length_take];omega
  have ea:(List.take (o.length+1) a).length=o.length+1:=by rw[List.length_take];omega
  have hex:∀(M:List (List Int)),M=grM a k L o (m+1)→okL a M→m<o.length+1→∃m_1:Nat,(m:Int)+1=m_1∧m_1≤o.length+1∧M=grM a k L o m_1∧okL a M:=fun M e h hl=>⟨m+1,by omega,by omega,e,h⟩
  simp only[hcp]
  refine⟨fun h5=>⟨⟨h0,by omega⟩,⟨h0,by omega,by omega,by omega⟩,⟨ea.symm,ek.symm,hst,hpp⟩,fun h6=>?_,fun h6=>?_⟩,fun h5=>?_⟩
  ·exact⟨⟨by omega,by omega,hg,hok⟩,by omega,hex _ (grM_y h6).symm (grO_ok hok hg (by rw[insA_len'];omega)) (by omega),by omega⟩
  ·exact⟨by omega,hex _ (grM_n h6).symm hok (by omega),by omega⟩
  ·have:m=o.length+1:=by omega
   subst this
   rw[grO_node hol]
   repeat' apply And.intro
   all_goals rfl
/-- Growing, whatever the pile's length. -/
theorem sp51 {a k:List Int}(hs:okStrip a k):∀(d q:Nat),q+d=a.length→0<q→∀o L,o.length=q→okG o→okL a L→S51 a k o L
 |0,q,hd,h0,o,L,hl,ho,hL=>by
  subst hl
  exact sp51_step hs (tabL_ok (chS_ok fun h _=>by omega) ⟨st52,ct67,trivial⟩) h0 (by omega) ho hL
 |d+1,q,hd,h0,o,L,hl,ho,hL=>by
  subst hl
  exact sp51_step hs (tabL_ok (chS_ok fun h h'=>sp51 hs d (o.length+1) (by omega) h') ⟨st52,ct67,trivial⟩) h0 (by omega) ho hL
theorem T51ok {a k:List Int}(hs:okStrip a k)(q:Nat):ChOk Try.prog G (chS a k q):=
 chS_ok fun h h0=>sp51 hs (a.length-q) q (by omega) h0
theorem okL_nil' (a:List Int):okL a []:=⟨List.nodup_nil,fun l hl=>by cases hl⟩
theorem sp51n {a k:List Int}(hs:okStrip a k):SpecD Try.prog G (.fn 51 [] []) [.nils,.iptr (stpF a k),.ptr 64 0,.ptr 128 0] (hS a k []) (.bool true) (wY (grO a k [] [])) []:=by
 refine fnD_spec hcm hmx (tabL_ok (T51ok hs 1) ⟨st52,ct41n,trivial⟩:TabOk Try.prog G (T51n a k)) ok51 rfl (ob_d_51n a k) ?_
 dsimp -failIfUnchanged -proj -eta -iota -zeta only[rd,rdw,qs,ql,qx]
 have hs':=hs
 obtain⟨_,h8,hk,_⟩:=hs'
 have h0:0<a.length:=by omega
 have hst:=okStrip_take hs (m:=0) (by omega)
 have e1:(List.take 1 a).length=1:=by rw[List.length_take];omega
 have e2:List.take 0 k=[]:=rfl
 rw[e2]at hst
 have hb:((0:Int)==(a.length:Int))=false:=by
  rw[beq_eq_false_iff_ne];omega
 rw[grO_0 h0]
 simp only[hb,e1,outV_un,inR_i64,and_true,true_and,leb_iff,leb_no,ltb_iff,ltb_no,ltn_iff,len'_iff,iI,size_ints,eq_self_iff_true]
 exact⟨by omega,⟨hst,List.Perm.refl _⟩,⟨by omega,by omega,List.Perm.refl _,okL_nil' a⟩⟩
theorem ch51nok {a k:List Int}:ChOk Try.prog G (ch51n a k):=by
 intro h cv args e he hp
 unfold ch51n at he
 split at he
 ·rename_i f a' n k' m' u v
  rw[cond_eq_ite]at he
  split at he
  ·rename_i hk
   cases he
   simp only[Bool.and_eq_true]at hk
   have e1:=Nat.eq_of_beq_eq_true hk.1
   have e2:=Nat.eq_of_beq_eq_true hk.2.1
   have e3:=Nat.eq_of_beq_eq_true hk.2.2
   subst e1 e2 e3
   obtain⟨rfl,rfl,rfl,rfl,rfl,hs⟩:=hp
   exact sp51n hs
  ·cases he
 ·cases he
theorem sp50 {a k:List Int}(hs:okStrip a k):SpecD Try.prog G (.fn 50 [] []) [.yld 9005,.iptr (stpF a k)] (hY a k []) (.tup []) (wY (grO a k [] [])) []:=by
 refine fnD_spec hcm hmx (tabL_ok ch51nok trivial:TabOk Try.prog G (T50 a k)) ok50 rfl (ob_d_50 a k) ?_
 dsimp -failIfUnchanged -proj -eta -iota -zeta only[rd,rdw,qs,ql,qx]
 simp only[and_true,true_and,iI,eq_self_iff_true]
 exact hs
theorem st34:CtOk Try.prog G 34 s34:=by
 intro args r h hp
 unfold s34 at h
 split at h<;>cases h
 rename_i a n _ k m _
 obtain⟨rfl,rfl⟩:=hp
 exact strip_caps (fnP_spec hcm hmx T0ok ok34 rfl (ob_s34 a k) (by repeat (first|exact trivial|exact rfl|apply And.intro)))
theorem ch50ok {a k:List Int}:ChOk Try.prog G (ch50 a k):=by
 intro h cv args e he hp
 unfold ch50 at he
 split at he
 ·rename_i f id a' n k' m' vs _ _ _ _ _ _ h1
  rw[cond_eq_ite]at he
  split at he
  ·rename_i hk
   cases he
   rw[Bool.and_eq_true]at hk
   have e1:=Nat.eq_of_beq_eq_true hk.1
   have e2:=Nat.eq_of_beq_eq_true hk.2
   subst e1 e2
   obtain⟨rfl,rfl,rfl,rfl,rfl,hs⟩:=hp
   exact sp50 hs
  ·cases he
 ·rename_i f i n g vs _ _ _ _ _ _ h1
  rw[cond_eq_ite]at he
  split at he
  ·rename_i hk
   cases he
   simp only[Bool.and_eq_true]at hk
   have e1:=Nat.eq_of_beq_eq_true hk.1
   have e2:=Nat.eq_of_beq_eq_true hk.2.1
   have e3:=Nat.eq_of_beq_eq_true hk.2.2
   subst e1 e2 e3
   obtain⟨rfl,rfl,hl,h8⟩:=hp
   exact sp61c hl h8
  ·cases he
 ·cases he
theorem st19:CtOk Try.prog G 19 s19:=by
 intro args r h hp
 unfold s19 at h
 split at h<;>cases h
 rename_i a n _ k m _
 obtain⟨rfl,rfl,hs⟩:=hp
 refine strip_caps (fnP_spec hcm hmx (tabL_ok ch50ok ⟨st34,trivial⟩:TabOk Try.prog G (T19 a k)) ok19 rfl (ob_s19 a k) ?_)
 dsimp -failIfUnchanged -proj -eta -iota -zeta only[rd,rdw,qs,ql,qx]
 have e:swL a k=srtL (grO a k [] []):=rfl
 have hp:=(srtL_perm (grO a k [] [])).length_eq
 simp only[e,outV_un,and_true,true_and,forall_const,true_imp_iff,eq_self_iff_true]
 exact⟨hs,⟨grO_ok (okL_nil' a) (List.Perm.refl _) (Nat.zero_le _),hs.2.1⟩,hp.symm⟩
theorem st18:CtOk Try.prog G 18 s18:=by
 intro args r h hp
 unfold s18 at h
 split at h<;>cases h
 rename_i a n _ k m _
 obtain⟨rfl,rfl,hs⟩:=hp
 refine strip_caps (fnP_spec hcm hmx (tabL_ok noCh_ok ⟨st33,trivial⟩:TabOk Try.prog G U18) ok18 rfl (ob_s18 a k) ?_)
 have h8:=hs.2.1
 simp only[ltb_no,and_true,true_and,iI,eq_self_iff_true]
 exact⟨hs,by omega⟩
theorem st7:CtOk Try.prog G 7 s7:=by
 intro args r h hp
 unfold s7 at h
 split at h<;>cases h
 rename_i a n _ k m _
 obtain⟨rfl,rfl,hs⟩:=hp
 refine strip_caps (fnP_spec hcm hmx (tabL_ok noCh_ok ⟨st18,st19,trivial⟩:TabOk Try.prog G U7) ok7 rfl (ob_s7 a k) ?_)
 simp only[and_true,true_and,iI,eq_self_iff_true]
 exact⟨hs,hs⟩
end Go.Proofs.Ythiammkiobbclaa.X
