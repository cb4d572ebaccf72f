/-
 The law on errors.
-/
import Derived.Test.YtfpcbimohikhmaaDoorQYO9Z
import Derived.Test.YtfpcbimohikhmaaDoorQC18Z
set_option maxRecDepth 1000000
set_option linter.unusedVariables false
set_option linter.unusedSimpArgs false
namespace Go.Proofs.YtfpcbimohikhmaaDoor.X
open Go Go.Ab

theorem ct30c:CtOk Tryd.prog G 30 e30c:=by
 intro args r h hp
 unfold e30c at h
 split at h<;>cases h
 rename_i w h a n _
 obtain⟨⟨h1,h2,h3⟩,hg,hs⟩:=hp
 generalize unC a=l at*
 subst h1 h2
 have h0:=ct30 [patV w h l] _ rfl ⟨okA_flat h3,fun hq=>hs hq⟩
 rw[unC_flat]at h0
 have:rchI w h l=chkI w h l:=by
  rcases bool_or (okS w h)with ho|ho
  ·exact rch_chk (hs ho) hg
  ·rw[chk_f ho]
   unfold rchI
   rw[ho];rfl
 rw[this]at h0
 exact SpecP.caps h0
theorem ct30z:CtOk Tryd.prog G 30 e30z:=by
 intro args r h hp
 unfold e30z at h
 split at h<;>cases h
 rename_i w h a n _
 obtain⟨hs,⟨h1,h2,h3⟩,hv⟩:=hp
 generalize unC a=l at*
 subst h1 h2
 have h0:=ct30c [patV w h l] _ rfl ⟨okA_flat h3,by rw[unC_flat];exact vP_edg hv,fun _=>hs⟩
 rw[unC_flat,vP_chk hs hv]at h0
 exact SpecP.caps h0
theorem T13xok:TabOk Tryd.prog G T13x:=tabL_ok noCh_ok ⟨ct29,ct30c,ct49x,ct43x,ct46x,ct47x,ct37x,ct38x,ct44x,ct40,trivial⟩
theorem sd23 (w h:Int)(ks:List Int)(hs:s5 w h):SpecD Tryd.prog G (.fn 23 [] []) [.agg [.int .i64 w,.int .i64 h],.full 1090 ks.length] [(1090,rowK ks ks.length)] (patW w h (wthL (units w h) ks)) [] []:=by
 refine fnD_spec hcm hmx CWok ok23 rfl (ob_d_23 w h ks) ?_
 dsimp -failIfUnchanged -proj -eta -iota -zeta only[rd,rdw,qs,ql,qx]
 have hu:=units_len hs
 have hul:=flatU_len (units w h)
 generalize units w h=us at*
 simp only[ltb_iff,ltb_no,leb_iff,leb_no,len'_iff,ltn_iff,inR_i64,inR_u8,and_true,true_and,Cont.size,bne_iff_ne,ne_eq,bne_eq_false_iff_eq]
 refine⟨hs,⟨0,by simp,by omega,by omega,by simp[wthL,flatC],by simp[wthL]⟩,?_⟩
 rintro⟨i,l,n⟩ ⟨k,hi,hk1,hk2,hl,hn⟩
 simp only at hi hl hn ⊢
 subst hi
 have hlen:=wthL_len (us.take k) (ks.take k)
 rw[List.length_take]at hlen
 simp only[Int.toNat_natCast]
 refine⟨fun h1=>⟨fun h2=>?_,fun h2=>?_⟩,fun h1=>?_⟩
 ·have g1:k<us.length:=by omega
  have g2:k<ks.length:=by omega
  have hst:=wthL_take us ks k g1 g2
  have hz:List.getD ks k 0=ks[k]?.getD 0:=by simp[List.getD_eq_getElem?_getD]
  have hx:uC us k=us[k]?.getD 0/3:=by unfold uC;simp
  have hy:uE us k=us[k]?.getD 0%3:=by unfold uE;simp
  obtain⟨r1,r2⟩:=uget g1
  rw[hz]
  repeat' (with_reducible apply And.intro)
  any_goals first|omega|fail
  ·intro hne
   rw[if_neg hne]at hst
   repeat' (with_reducible apply And.intro)
   any_goals first|omega|exact r1|exact r2|fail
   refine⟨k+1,by omega,by omega,by omega,?_,?_⟩
   ·rw[hst,flatC_app,← hl,hx,hy];rfl
   ·rw[hst,List.length_append,← hn];rfl
  ·intro he
   rw[if_pos he,List.append_nil]at hst
   refine⟨by omega,⟨k+1,by omega,by omega,by omega,?_,?_⟩,by omega⟩
   ·rw[hst];exact hl
   ·rw[hst];exact hn
 ·have:=wthL_end us ks k (.inr (by omega))
  rw[this]at hl hn
  rw[hl,hn]
  repeat' (with_reducible apply And.intro)
  all_goals first|rfl|exact trivial
 ·have:=wthL_end us ks k (.inl (by omega))
  rw[this]at hl hn
  rw[hl,hn]
  repeat' (with_reducible apply And.intro)
  all_goals first|rfl|exact trivial
theorem ch23ok:ChOk Tryd.prog G ch23:=by
 intro hp cv args r hr hq
 unfold ch23 at hr
 split at hr
 ·rw[cond_eq_ite]at hr
  split at hr
  ·rename_i hc
   simp only[Bool.and_eq_true]at hc
   cases Nat.eq_of_beq_eq_true hc.1
   cases Nat.eq_of_beq_eq_true hc.2
   cases hr
   obtain⟨rfl,rfl,hs⟩:=hq
   exact sd23 _ _ _ hs
  ·cases hr
 ·cases hr
theorem T13vok:TabOk Tryd.prog G T13v:=tabL_ok ch23ok ⟨ct29,ct30z,ct49v,ct43v,ct46v,ct47v,ct37v,ct38v,ct44v,ct20,ct40,trivial⟩
theorem er_join {w h:Int}{l:List Cr}:(ltb 20 (l.length:Int)=true→True)∧(ltb 20 (l.length:Int)=false→((bI (okS w h) 1 0==1)=true→(ltb 5 w=true→True)∧(ltb 5 w=false→(ltb 5 h=true→True)∧(ltb 5 h=false→erP w h l)))∧((bI (okS w h) 1 0==1)=false→erP w h l)):=by
 refine⟨fun _=>trivial,fun a=>⟨fun _=>⟨fun _=>trivial,fun b=>⟨fun _=>trivial,fun c=>?_⟩⟩,fun b=>?_⟩⟩
 ·rw[ltb_no]at a b c
  exact⟨by omega,fun _=>⟨by omega,by omega⟩⟩
 ·rw[ltb_no]at a
  refine⟨by omega,fun ho=>?_⟩
  rw[ho]at b;cases b
set_option maxHeartbeats 2000000 in
theorem sp13 (w h:Int)(l:List Cr)(hg:edg l):SpecP Tryd.prog G 13 [patV w h l] (.bool true) []:=by
 by_cases hc:chkI w h l=0
 ·refine fnP_spec hcm hmx T13vok ok13 rfl (ob_o13v w h l) ?_
  refine⟨?_,fun _ he=>?_⟩
  ·have:=er_join (w:=w) (h:=h) (l:=l)
   simpa using this
  ·obtain⟨h20,h5⟩:=he
   obtain⟨_,hok,_⟩:=chk_ok hg hc
   have ho:=okS_iff.1 hok
   have hs:s5 w h:=⟨ho.1,(h5 hok).1,ho.2.1,(h5 hok).2⟩
   have hv:=vP_of hs hg hc
   have kv:=okV_of hs hv
   obtain⟨n100,n4⟩:=nC_le hs
   have hul:=units_len hs
   obtain⟨m0,m1,m2⟩:=fac_max l hs
   have hcel:=celL_ne l hs (j:=0) (by omega) (by omega)
   have hz:=wthL_zero (units w h)
   have hno:=fac_none hs
   have hvn:vP w h []:=⟨List.replicate (units w h).length 0,⟨by simp,fun k hk=>by rw[List.eq_of_mem_replicate hk];omega⟩,hz.symm⟩
   have kn:=okV_of hs hvn
   have hev:=fac_every hs (ones_cr (w:=w) (h:=h))
   have hvo:vP w h (wthL (units w h) (onesK (units w h) (units w h).length)):=⟨_,onesK_kds w h _,rfl⟩
   have ko:=okV_of hs hvo
   have hw4:0≤4*w∧4*w≤100:=by obtain⟨a,b,c,d⟩:=hs;omega
   have hn2:4*w*h=(nC w h:Nat):=by
    have:=s5_len hs
    unfold nC;omega
   simp only[unC_flat,ltb_iff,ltb_no,leb_iff,leb_no,len'_iff,ltn_iff,inR_i64,inR_u8,and_true,true_and,Cont.size,Int.toNat_natCast,List.length_replicate,hz,beq_iff_eq]
   repeat' (with_reducible apply And.intro)
   any_goals first|omega|exact hs|exact kv.1|exact kv.2|exact kv|exact hcel|exact kn.1|exact kn.2|exact kn|rfl|exact⟨0,rfl,by omega,onesK_zero _⟩|fail
   rintro⟨i,m⟩ ⟨n,hi,hn,hm⟩
   simp only at hi hm ⊢
   subst hi;subst hm
   simp only[Int.toNat_natCast,onesK_len]
   repeat' (with_reducible apply And.intro)
   ·intro hlt
    exact⟨by omega,by omega,by omega,by omega,⟨n+1,by omega,by omega,onesK_step (by omega)⟩,by omega⟩
   ·intro hge
    have:n=(units w h).length:=by omega
    subst this
    repeat' (with_reducible apply And.intro)
    any_goals first|omega|exact hs|exact ko.1|exact ko.2|exact ko|rfl|exact trivial|exact hno|exact hev|fail
 ·refine fnP_spec hcm hmx T13xok ok13 rfl (ob_o13x w h l) ?_
  refine⟨?_,fun _ he=>?_⟩
  ·have:=er_join (w:=w) (h:=h) (l:=l)
   simpa using this
  ·obtain⟨h20,h5⟩:=he
   have ho:okS w h=true→s5 w h:=fun q=>by
    have:=okS_iff.1 q
    exact⟨this.1,(h5 q).1,this.2.1,(h5 q).2⟩
   have ha:=okA_flat (l:=l) (by omega)
   rw[unC_flat]
   simp[ha,hg,hc]
   exact ho
end Go.Proofs.YtfpcbimohikhmaaDoor.X
