/-
 Contracts: joints by contract, loose ends, the reference's joints.
-/
import Derived.Test.YtfpcbimohikhmaaDoorQYC7Z
set_option maxRecDepth 1000000
set_option linter.unusedVariables false
set_option linter.unusedSimpArgs false
namespace Go.Proofs.YtfpcbimohikhmaaDoor.X
open Go Go.Ab

theorem jnC_len {w h:Int}{l:List Cr}(hs:s5 w h)(hv:vP w h l):(jnC w h l).length≤300:=by
 have hF:=okF_facL hs l
 obtain⟨p1,p2,p3,p4⟩:=jn_perm hs hv hF (List.Perm.refl ((grF w h (facL w h l) l).1.map entJ))
 have:=grF_len w h (facL w h l) l
 have:=vP_len hs hv
 unfold jnC
 omega
theorem ct37v:CtOk Tryd.prog G 37 e37v:=by
 intro args r h hp
 unfold e37v at h
 split at h<;>cases h
 rename_i w h a n _
 obtain⟨hs,⟨h1,h2,h3⟩,hv⟩:=hp
 generalize unC a=l at*
 subst h1 h2
 exact(sp37 hs hv).caps
/-! ### Loose ends -/
theorem ct74:CtOk Tryd.prog G 74 e74:=by
 intro args r h hp
 unfold e74 at h
 split at h<;>cases h
 rename_i a b u
 refine SpecP.caps ?_
 refine fnP_spec hcm hmx T0ok ok74 rfl (ob_o74 a b u) ?_
 simp
theorem ixJ_cons (x:Jt)(r:List Jt)(i:Nat):ixJ (x::r) i=cond (x.1==x.2.1) (i:Int) (ixJ r (i+1)):=rfl
theorem Y74ok:TabOk Tryd.prog G Y74:=tabL_ok noCh_ok ⟨ct74,trivial⟩
theorem sp98 {L:List Jt}(hz:L.length<1000000000):SpecP Tryd.prog G 98 [.imm (.vals (flJ L)) L.length none,.fn 74 [] []] (.int .i64 (ixJ L 0)) []:=by
 refine fnP_spec hcm hmx Y74ok ok98 rfl (ob_o98 L) ?_
 dsimp -failIfUnchanged -proj -eta -iota -zeta only[rd,rdw,qs,ql,qx]
 have hfl:=flJ_len L
 simp only[ltb_iff,ltb_no,leb_iff,leb_no,len'_iff,ltn_iff,inR_i64,and_true,true_and,size_vals,Cont.size]
 refine⟨⟨0,rfl,by omega,rfl⟩,?_⟩
 rintro⟨i⟩ ⟨n,hi,hnn,he⟩
 simp only at hi ⊢
 subst hi
 simp only[Int.toNat_natCast]
 refine⟨fun hlt=>?_,fun hge=>?_⟩
 ·have g1:n<L.length:=by omega
  obtain⟨c1,c2,c3⟩:=jget g1
  have hd:L.drop n=L[n]::L.drop (n+1):=List.drop_eq_getElem_cons g1
  have hat:L[n]?.getD (0,0,0)=L[n]:=by rw[List.getElem?_eq_getElem g1];rfl
  rw[hat]at c1 c2 c3 ⊢
  rw[hd,ixJ_cons]at he
  repeat' (with_reducible apply And.intro)
  any_goals first|omega|exact c1|exact c2|exact c3
  ·intro h1
   rw[h1]at he
   exact he.symm
  ·intro h1
   rw[h1]at he
   exact⟨by omega,⟨n+1,by omega,by omega,he⟩,by omega⟩
 ·have:n=L.length:=by omega
  subst this
  rw[he,List.drop_length];rfl
theorem ct98:CtOk Tryd.prog G 98 e98:=by
 intro args r h hp
 unfold e98 at h
 split at h<;>cases h
 rename_i a n _
 obtain⟨h1,h2,h3⟩:=hp
 generalize unJ a=L at*
 subst h1 h2
 exact(sp98 h3).caps
theorem Y98ok:TabOk Tryd.prog G Y98:=tabL_ok noCh_ok ⟨ct98,trivial⟩
theorem ixJ_any:∀(L:List Jt) (i:Nat),leb 0 (ixJ L i)=lseJ L
 |[],i=>rfl
 |x::r,i=>by
  have ih:=ixJ_any r (i+1)
  unfold lseJ at*
  rw[List.any_cons,ixJ_cons]
  cases hx:x.1==x.2.1
  ·simpa using ih
  ·simp[leb]
theorem ct73:CtOk Tryd.prog G 73 e73:=by
 intro args r h hp
 unfold e73 at h
 split at h<;>cases h
 rename_i a n _
 obtain⟨h1,h2,h3⟩:=hp
 generalize unJ a=L at*
 subst h1 h2
 refine SpecP.caps ?_
 refine fnP_spec hcm hmx Y98ok ok73 rfl (ob_o73 L) ?_
 rw[unJ_flJ]
 exact⟨okJ_flJ h3,ixJ_any L 0,trivial⟩
theorem YLook:TabOk Tryd.prog G YLo:=tabL_ok noCh_ok ⟨ct37v,ct73,trivial⟩
theorem ct38v:CtOk Tryd.prog G 38 e38v:=by
 intro args r h hp
 unfold e38v at h
 split at h<;>cases h
 rename_i w h a n _
 obtain⟨hs,⟨h1,h2,h3⟩,hv⟩:=hp
 generalize unC a=l at*
 subst h1 h2
 refine SpecP.caps ?_
 refine fnP_spec hcm hmx YLook ok38 rfl (ob_o38 w h l) ?_
 rw[unC_flat,unJ_flJ]
 have:=jnC_len hs hv
 have h1:=okV_of hs hv
 have h2:okJ (flJ (jnC w h l)) (jnC w h l).length:=okJ_flJ (by omega)
 repeat' (with_reducible apply And.intro)
 all_goals first|exact hs|exact h1|exact h2|rfl|exact trivial
/-! ### The reference's joints -/
theorem flP2_len (L:List (Int×Int)):(flP2 L).length=L.length*2:=by
 induction L with
 |nil=>rfl
 |cons x r ih=>
  unfold flP2 at ih ⊢
  rw[List.flatMap_cons,List.length_append,ih];simp;omega
theorem flP2_row (x:Int×Int):([AV.int .i64 x.1,.int .i64 x.2]:List AV).length=2:=rfl
theorem flP2_get {L:List (Int×Int)}{n:Nat}{x:Int×Int}(h:L[n]? =some x):(List.drop (n*2) (flP2 L))[0]? =some (.int .i64 x.1)∧(List.drop (n*2) (flP2 L))[1]? =some (.int .i64 x.2):=by
 unfold flP2
 simp only[List.getElem?_drop]
 rw[flatMap_row (k:=2) (by decide) flP2_row,flatMap_row (k:=2) (by decide) flP2_row]
 rw[show(n*2+0)/2=n by omega,show(n*2+1)/2=n by omega,show(n*2+0)%2=0 by omega,show(n*2+1)%2=1 by omega,h]
 exact⟨rfl,rfl⟩
theorem flP2_app (a b:List (Int×Int)):flP2 (a++b)=flP2 a++flP2 b:=by unfold flP2;rw[List.flatMap_append]
theorem jnR_self (w h:Int)(F:List Int)(l:List Cr)(a:Nat):jnR w h F l a a=[]:=by unfold jnR;simp
theorem jnR_step (w h:Int)(F:List Int)(l:List Cr){a c:Nat}(hac:a≤c):jnR w h F l a (c+1)=jnR w h F l a c++(if 0<cntJ w h F l a c then[((a:Int),(c:Int),(cntJ w h F l a c:Int))]else[]):=by
 unfold jnR
 rw[show c+1-a=(c-a)+1 by omega,List.range'_concat,List.filterMap_append,show a+1*(c-a)=c by omega]
 congr 1
 simp only[List.filterMap_cons,List.filterMap_nil]
 split<;>simp_all
theorem jnP_step (w h:Int)(F:List Int)(l:List Cr)(a:Nat):jnP w h F l (a+1)=jnP w h F l a++jnR w h F l a (nC w h):=by
 unfold jnP
 rw[List.range_succ,List.flatMap_append];simp
theorem jnR_len (w h:Int)(F:List Int)(l:List Cr)(a b:Nat):(jnR w h F l a b).length≤b:=by
 unfold jnR
 refine Nat.le_trans (List.length_filterMap_le _ _) ?_
 rw[List.length_range'];omega
theorem jnP_len (w h:Int)(F:List Int)(l:List Cr)(a:Nat):(jnP w h F l a).length≤a*nC w h:=by
 induction a with
 |zero=>simp[jnP]
 |succ a ih=>
  rw[jnP_step,List.length_append,Nat.succ_mul]
  have:=jnR_len w h F l a (nC w h)
  omega
theorem prJ_at {w h:Int}{F:List Int}{l:List Cr}{n:Nat}(hn:n<l.length):((l.take l.length).map (prJ w h F))[n]? =some (prJ w h F l[n]):=by
 rw[List.take_length,List.getElem?_map,List.getElem?_eq_getElem hn];rfl
theorem Y39ok:TabOk Tryd.prog G Y39:=tabL_ok noCh_ok ⟨ct45,ct21,trivial⟩
set_option maxHeartbeats 4000000 in
theorem sp39 {w h:Int}{l:List Cr}(hs:s5 w h)(hv:vP w h l):SpecP Tryd.prog G 39 [patV w h l] (.full 0 (jnC w h l).length) [⟨.vals (flJ (jnC w h l)),3,(jnC w h l).length,none,some true,true,false⟩]:=by
 have hF:=okF_facL hs l
 have hlc:=vP_len hs hv
 obtain⟨n100,n4⟩:=nC_le hs
 have hn2:4*w*h=(nC w h:Nat):=by
  have:=s5_len hs
  unfold nC;omega
 have hok:=okV_of hs hv
 refine fnP_spec hcm hmx Y39ok ok39 rfl (ob_o39 w h l) ?_
 dsimp -failIfUnchanged -proj -eta -iota -zeta only[rd,rdw,qs,ql,qx]
 unfold jnC
 simp only[unC_flat]
 generalize facL w h l=F at*
 have hFl:=hF.1
 simp only[gI_getD,ltb_iff,ltb_no,leb_iff,leb_no,len'_iff,ltn_iff,inR_i64,and_true,true_and,size_vals,Cont.size,Int.toNat_natCast]
 refine⟨⟨hs,hok⟩,⟨0,rfl,by omega,rfl,rfl⟩,?_⟩
 rintro⟨i,pl,pn⟩ ⟨n,hi,hnn,hp,hpn⟩
 simp only at hi hp hpn ⊢
 replace hpn:=hpn.symm
 subst hi;subst hp;subst hpn
 simp only[Int.toNat_natCast]
 refine⟨fun hlt=>?_,fun hge=>?_⟩
 ·have g1:n<l.length:=by omega
  obtain⟨c1,c2,c3⟩:=cgetd g1
  have hx:l[n]∈l:=List.getElem_mem g1
  have hcr:=vP_cr hs hv hx
  have hat:=cAt g1
  have hP:prJ w h F l[n]=(if gI F (nbI w h (cC l n) (cE l n)).toNat<gI F (cC l n).toNat then gI F (nbI w h (cC l n) (cE l n)).toNat else gI F (cC l n).toNat,if gI F (nbI w h (cC l n) (cE l n)).toNat>gI F (cC l n).toNat then gI F (nbI w h (cC l n) (cE l n)).toNat else gI F (cC l n).toNat):=by rw[hat];rfl
  rw[hat]at hcr
  simp only at hcr
  obtain⟨a1,a2,a3,a4,a5,a6⟩:=hcr
  have hb:=hasB_iff.1 a1
  have hfl:=flatC_len l
  repeat' (with_reducible apply And.intro)
  any_goals first|omega|exact c1|exact c2|exact c3|exact hs
  refine⟨n+1,by omega,by omega,?_,rfl⟩
  rw[take_at g1,List.map_append,flP2_app]
  congr 1
  rw[List.map_cons,List.map_nil,hP];rfl
 ·have:n=l.length:=by omega
  subst this
  refine⟨⟨0,rfl,by omega,rfl,rfl⟩,?_⟩
  rintro⟨ia,la,na⟩ ⟨a,hi,han,hl,hn⟩
  simp only at hi hl hn ⊢
  subst hi;subst hl;subst hn
  simp only[Int.toNat_natCast]
  refine⟨fun halt=>?_,fun hage=>?_⟩
  ·refine⟨⟨a,rfl,by omega,by omega,by rw[jnR_self,List.append_nil],by rw[jnR_self,List.append_nil]⟩,?_⟩
   rintro⟨ic,lc,nc⟩ ⟨c,hi,hac,hcn,hl,hn⟩
   simp only at hi hl hn ⊢
   subst hi;subst hl;subst hn
   simp only[Int.toNat_natCast]
   refine⟨fun hclt=>?_,fun hcge=>?_⟩
   ·refine⟨⟨0,rfl,by omega,rfl⟩,?_⟩
    rintro⟨id,kd⟩ ⟨d,hi,hdn,hk⟩
    simp only at hi hk ⊢
    subst hi;subst hk
    simp only[Int.toNat_natCast]
    have hcl:cntJ w h F (l.take d) a c≤d:=by
     have:=List.countP_le_length (p:=fun x=>prJ w h F x==((a:Int),(c:Int))) (l:=l.take d)
     rw[List.length_take]at this
     unfold cntJ;omega
    refine⟨fun hdlt=>?_,fun hdge=>?_⟩
    ·have g1:d<l.length:=by omega
     obtain⟨q1,q2⟩:=flP2_get (prJ_at (w:=w) (h:=h) (F:=F) g1)
     have hsn:=cntJ_snoc w h F (l.take d) l[d] a c
     rw[← take_at g1]at hsn
     have hat:l[d]?.getD (0,0,0)=l[d]:=by rw[List.getElem?_eq_getElem g1];rfl
     rw[hat]
     have hfl:=flP2_len ((l.take l.length).map (prJ w h F))
     rw[List.length_map,List.length_take]at hfl
     repeat' (with_reducible apply And.intro)
     any_goals first|omega|exact q1|exact q2
     ·intro he
      have he':prJ w h F l[d]=((a:Int),(c:Int)):=by
       simp only[Bool.and_eq_true,beq_iff_eq]at he
       exact Prod.ext he.1 he.2
      rw[if_pos he']at hsn
      exact⟨by omega,by omega,⟨d+1,by omega,by omega,by omega⟩,by omega⟩
     ·intro he
      have he':prJ w h F l[d]≠((a:Int),(c:Int)):=by
       intro e
       have e1:loA w h F l[d]=a:=(Prod.mk.inj e).1
       have e2:hiA w h F l[d]=c:=(Prod.mk.inj e).2
       rw[e1,e2]at he
       simp at he
      rw[if_neg he']at hsn
      exact⟨by omega,⟨d+1,by omega,by omega,by omega⟩,by omega⟩
    ·have:d=l.length:=by omega
     subst this
     rw[List.take_length]at*
     have hst:=jnR_step w h F l (a:=a) (c:=c) hac
     have hpl:=jnP_len w h F l a
     have hrl:=jnR_len w h F l a c
     have hmul:a*nC w h≤10000:=Nat.mul_le_mul (show a≤100 by omega) n100
     rw[List.length_append]
     refine⟨fun hc0=>?_,fun hc0=>?_⟩
     ·rw[if_pos (by omega)]at hst
      refine⟨by omega,by omega,⟨c+1,by omega,by omega,by omega,?_,?_⟩,by omega⟩
      ·rw[hst,← List.append_assoc,flJ_app (jnP w h F l a++jnR w h F l a c) [_]];rfl
      ·rw[hst,List.length_append,List.length_append];rfl
     ·rw[if_neg (by omega),List.append_nil]at hst
      refine⟨by omega,⟨c+1,by omega,by omega,by omega,?_,?_⟩,by omega⟩
      ·rw[hst]
      ·rw[hst,List.length_append]
   ·have:c=nC w h:=by omega
    subst this
    refine⟨by omega,⟨a+1,by omega,by omega,?_,?_⟩,by omega⟩
    ·rw[jnP_step]
    ·rw[jnP_step]
  ·have:a=nC w h:=by omega
   subst this
   repeat' (with_reducible apply And.intro)
   all_goals first|rfl|exact trivial
theorem ct39:CtOk Tryd.prog G 39 e39:=by
 intro args r h hp
 unfold e39 at h
 split at h<;>cases h
 rename_i w h a n _
 obtain⟨hs,⟨h1,h2,h3⟩,hv⟩:=hp
 generalize unC a=l at*
 subst h1 h2
 exact(sp39 hs hv).caps
end Go.Proofs.YtfpcbimohikhmaaDoor.X
