/-
 Contract: the reference's Of.
-/
import Derived.Test.YtfpcbimohikhmaaDoorQYC4Z
set_option maxRecDepth 1000000
set_option linter.unusedVariables false
set_option linter.unusedSimpArgs false
namespace Go.Proofs.YtfpcbimohikhmaaDoor.X
open Go Go.Ab

theorem pfl_app (w h:Int)(a b:List Int):pfl w h (a++b)=pfl w h a++pfl w h b:=by unfold pfl;rw[List.flatMap_append]
theorem gI_getD (m:List Int)(i:Nat):m.getD i 0=gI m i:=by unfold gI;rw[List.getD_eq_getElem?_getD]
theorem min_if (a b:Int):(if b<a then b else a)=min a b:=by omega
theorem eqP_eq {m:List Int}{a b:Nat}(ha:a<m.length):((m.set a (if m.getD b 0<m.getD a 0 then m.getD b 0 else m.getD a 0)).set b ((m.set a (if m.getD b 0<m.getD a 0 then m.getD b 0 else m.getD a 0)).getD a 0))=eqP m a b:=by
 rw[min_if]
 simp only[gI_getD]
 rw[gI_set ha,if_pos rfl]
 rfl
theorem kP_at {w h:Int}{l:List Cr}(hs:s5 w h){n:Nat}(hn:n<nC w h):rP w h l n≤n∧rP w h l (rP w h l n)=rP w h l n:=by
 have hR:=rep_P hs l
 exact⟨hR.inv.le n hn,hR.inv.idem n hn⟩
set_option maxHeartbeats 2000000 in
theorem sp45 {w h:Int}{l:List Cr}(hs:s5 w h)(hv:vP w h l):SpecP Tryd.prog G 45 [patV w h l] (.full 0 (nC w h)) [⟨.ints .i64 (facL w h l),1,nC w h,some (nC w h),some false,true,false⟩]:=by
 refine fnP_spec hcm hmx YRok ok45 rfl (ob_o45 w h l) ?_
 dsimp -failIfUnchanged -proj -eta -iota -zeta only[rd,rdw,qs,ql,qx]
 obtain⟨n100,n4⟩:=nC_le hs
 have hn:(4*w*h).toNat=nC w h:=rfl
 have hn2:4*w*h=(nC w h:Nat):=by
  have:=s5_len hs
  unfold nC;omega
 have hul:=units_len hs
 have o3:=(okV_of hs hv).1.2.2
 have hw4:0≤4*w∧4*w≤100:=by obtain⟨a,b,c,d⟩:=hs;omega
 simp only[ltb_iff,ltb_no,leb_iff,leb_no,len'_iff,ltn_iff,inR_i64,inR_u8,and_true,true_and,Cont.size,hn,beq_iff_eq,beq_eq_false_iff_ne,ne_eq,bne_iff_ne,unC_flat,flatU_len]
 refine⟨by omega,by omega,by omega,by omega,by omega,⟨0,rfl,by omega,(ownL_zero _).symm⟩,?_⟩
 rintro⟨i,m⟩ ⟨n,hi,hnn,hm⟩
 simp only at hi hm ⊢
 subst hi;subst hm
 simp only[Int.toNat_natCast,ownL_len]
 refine⟨fun hlt=>?_,fun hge=>?_⟩
 ·exact⟨by omega,by omega,by omega,by omega,⟨n+1,by omega,by omega,ownL_step (by omega)⟩,by omega⟩
 have:n=nC w h:=by omega
 subst this
 refine⟨hs,⟨0,rfl,by omega,rfl,rfl⟩,?_⟩
 rintro⟨i,fl,fn⟩ ⟨k,hi,hk,hf,hfn⟩
 simp only at hi hf hfn ⊢
 subst hi;subst hf;subst hfn
 simp only[Int.toNat_natCast]
 refine⟨fun hlt=>?_,fun hge=>?_⟩
 ·have g1:k<(units w h).length:=by omega
  obtain⟨r1,r2⟩:=uget g1
  obtain⟨a1,a2,a3,a4⟩:=un_ok g1 hs
  have hst:=opn_step (l:=l) g1
  have he:3*uC (units w h) k+uE (units w h) k=(units w h)[k]:=by
   have e1:(units w h)[(k:Int).toNat]?.getD 0=(units w h)[k]:=by simp[g1]
   unfold uC uE;rw[e1];omega
  have hcr:crI l (uC (units w h) k) (uE (units w h) k)=bI (crB l (units w h)[k]) 1 0:=by rw[crI_crB ⟨a3,a4⟩,he]
  rw[hcr]
  have hkl:(opn l ((units w h).take k)).length≤k:=by
   unfold opn
   exact Nat.le_trans (List.length_filter_le _ _) (by rw[List.length_take];omega)
  have hok:okA (flatC l) l.length:=(okV_of hs hv).1
  repeat' (with_reducible apply And.intro)
  any_goals first|omega|exact r1|exact r2|exact hok
  ·intro h1
   have h1:crB l (units w h)[k]=false:=by
    cases hq:crB l (units w h)[k]
    ·rfl
    ·rw[hq]at h1;simp[bI]at h1
   rw[h1]at hst
   simp only[Bool.false_eq_true,if_false]at hst
   repeat' (with_reducible apply And.intro)
   any_goals first|omega|exact r1|exact r2|exact hs
   refine⟨k+1,by omega,by omega,?_,?_⟩
   ·rw[hst,pfl_app]
    have e1:(units w h)[k]/3=uC (units w h) k:=by omega
    have e2:(units w h)[k]%3=uE (units w h) k:=by omega
    simp only[pfl,List.flatMap_cons,List.flatMap_nil,List.append_nil,e1,e2]
   ·rw[hst,List.length_append];rfl
  ·intro h1
   have h1:crB l (units w h)[k]=true:=by
    cases hq:crB l (units w h)[k]
    ·rw[hq]at h1;simp[bI]at h1
    ·rfl
   rw[h1]at hst
   simp only[if_true,List.append_nil]at hst
   exact⟨by omega,⟨k+1,by omega,by omega,by rw[hst],by rw[hst]⟩,by omega⟩
 have hk2:k=(units w h).length:=by omega
 subst hk2
 simp only[List.take_length]
 refine⟨⟨LIv.own w h l,fun e=>by cases e⟩,?_⟩
 have hpl:(opn l (units w h)).length≤300:=Nat.le_trans (List.length_filter_le _ _) hul
 rintro⟨b,m⟩ ⟨hL,hE⟩
 simp only at hL hE ⊢
 refine⟨fun hb=>⟨⟨0,rfl,by omega,hL,fun _ j hj=>by omega,fun e=>by cases e⟩,?_⟩,fun hb=>?_⟩
 ·rintro⟨b3,m3,i3⟩ ⟨n3,hi3,hn3,hL3,hF,hT⟩
  simp only at hi3 hL3 hF hT ⊢
  subst hi3
  simp only[Int.toNat_natCast]
  have hsn:0≤sumI m3:=sum_nn (fun i hi=>(hL3.nn i (by rw[← hL3.len];exact hi)).1)
  refine⟨fun hlt=>?_,fun hge=>?_⟩
  ·have hlt':n3<(opn l (units w h)).length:=by omega
   obtain⟨p1,p2,p3,p4,p5⟩:=pa_mem (l:=l) hs hlt'
   obtain⟨q1,q2⟩:=pfl_get w h (opn l (units w h)) n3 hlt'
   have e1:(opn l (units w h))[(n3:Int).toNat]?.getD 0/3=paI w h l n3:=rfl
   rw[Int.toNat_natCast]at e1
   have e2:nbI w h ((opn l (units w h))[(n3:Int).toNat]?.getD 0/3) ((opn l (units w h))[(n3:Int).toNat]?.getD 0%3)=pbI w h l n3:=rfl
   rw[Int.toNat_natCast]at e2
   rw[e1]at q1
   rw[e2]at q2
   have q1':(List.drop 0 (List.drop (n3*2) (pfl w h (opn l (units w h)))))[0]? =some (.int .i64 (paI w h l n3)):=by rw[List.drop_zero,List.getElem?_drop];exact q1
   have q2':(List.drop 1 (List.drop (n3*2) (pfl w h (opn l (units w h)))))[0]? =some (.int .i64 (pbI w h l n3)):=by rw[List.getElem?_drop,List.getElem?_drop];exact q2
   have hml:=hL3.len
   have hpf:=pfl_len w h (opn l (units w h))
   have hEQ:=eqP_eq (m:=m3) (a:=(paI w h l n3).toNat) (b:=(pbI w h l n3).toNat) (by omega)
   rw[hEQ]
   simp only[List.length_set,gI_getD]
   repeat' (with_reducible apply And.intro)
   any_goals first|omega|exact q1'|exact q2'
   ·intro hne
    have hsl:=sum_eqP (m:=m3) (a:=(paI w h l n3).toNat) (b:=(pbI w h l n3).toNat) (by omega) (by omega) hne
    have hL4:=hL3.step p3 p4 p5
    have hlt4:sumI (eqP m3 (paI w h l n3).toNat (pbI w h l n3).toNat)<sumI m:=by
     cases b3
     ·have:=(hF rfl).1;subst this;exact hsl
     ·have:=hT rfl;omega
    repeat' (with_reducible apply And.intro)
    any_goals omega
    exact⟨n3+1,by omega,by omega,hL4,⟨fun e=>(by cases e),fun _=>hlt4⟩⟩
   ·intro hne
    have hne:gI m3 (paI w h l n3).toNat=gI m3 (pbI w h l n3).toNat:=by
     by_cases q:gI m3 (paI w h l n3).toNat=gI m3 (pbI w h l n3).toNat
     ·exact q
     ·simp[q]at hne
    refine⟨by omega,⟨n3+1,by omega,by omega,hL3,fun e=>⟨(hF e).1,fun j hj hj2=>?_⟩,hT⟩,by omega⟩
    by_cases hj3:j<n3
    ·exact(hF e).2 j hj3 hj2
    ·have:j=n3:=by omega
     subst this
     exact hne
  ·have:n3=(opn l (units w h)).length:=by omega
   subst this
   refine⟨⟨hL3,fun e=>(hF e).2⟩,?_⟩
   subst hb
   have hsm:0≤sumI m:=sum_nn (fun i hi=>(hL.nn i (by rw[← hL.len];exact hi)).1)
   cases b3
   ·have:=(hF rfl).1
    subst this
    simp
   ·have:=hT rfl
    simp;omega
 ·have hfin:=hL.fin hs (eqUp_all (hE hb))
  have hml:=hL.len
  refine⟨by omega,by omega,by omega,⟨0,rfl,by omega,rfl,(numL_zero w h l).symm⟩,?_⟩
  rintro⟨i,k,o⟩ ⟨n,hi,hnn,hk,ho⟩
  simp only at hi hk ho ⊢
  subst hi;subst hk;subst ho
  simp only[Int.toNat_natCast,numL_len,List.length_set,gI_getD]
  refine⟨fun hlt=>?_,fun hge=>?_⟩
  ·have hlt':n<nC w h:=by omega
   rw[hfin n hlt']
   obtain⟨r1,r2⟩:=kP_at (l:=l) hs hlt'
   simp only[Int.toNat_natCast]
   have hnx:=kP_next w h l n
   have hkl:=kP_le (w:=w) (h:=h) l n
   have hk0:=kP_nn w h l n
   have hgr:=gI_numL (l:=l) (n:=n) (show rP w h l n<nC w h by omega)
   rw[r2]at hgr
   rw[hgr]
   repeat' (with_reducible apply And.intro)
   any_goals omega
   ·intro he
    have he':rP w h l n=n:=by omega
    rw[if_pos he']at hnx
    repeat' (with_reducible apply And.intro)
    any_goals omega
    refine⟨n+1,by omega,by omega,by omega,?_⟩
    refine numL_set hlt' (by rw[List.length_set,numL_len]) (fun i hi hne=>?_) (by rw[he'])
    rw[gI_set (by rw[numL_len];exact hlt'),if_neg hne]
   ·intro he
    have he':rP w h l n≠n:=by omega
    rw[if_neg he']at hnx
    refine⟨by omega,⟨n+1,by omega,by omega,by omega,?_⟩,by omega⟩
    refine numL_set hlt' (numL_len ..) (fun i hi hne=>rfl) (by rw[if_pos (by omega)])
  ·have:n=nC w h:=by omega
   subst this
   exact numL_all l hs
theorem ct45:CtOk Tryd.prog G 45 e45:=by
 intro args r h hp
 unfold e45 at h
 split at h<;>cases h
 rename_i w h a n _
 obtain⟨hs,⟨h1,h2,h3⟩,hv⟩:=hp
 generalize unC a=l at*
 subst h1 h2
 exact(sp45 hs hv).caps
end Go.Proofs.YtfpcbimohikhmaaDoor.X
