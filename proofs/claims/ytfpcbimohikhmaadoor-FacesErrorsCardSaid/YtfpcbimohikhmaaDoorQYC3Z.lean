/-
 Contracts: the faces of all cells, how many there are.
-/
import Derived.Test.YtfpcbimohikhmaaDoorQYO2Z
import Derived.Test.YtfpcbimohikhmaaDoorQYC2Z
set_option maxRecDepth 1000000
set_option linter.unusedVariables false
set_option linter.unusedSimpArgs false
namespace Go.Proofs.YtfpcbimohikhmaaDoor.X
open Go Go.Ab

theorem ct85v:CtOk Tryd.prog G 85 e85v:=by
 intro args r h hp
 unfold e85v at h
 split at h<;>cases h
 rename_i w h
 have h1:=ct85 [.agg [.int .i64 w,.int .i64 h]] ⟨.int .i64 (bI (okS w h) (4*w*h) 0),[],none⟩ rfl trivial
 rw[show bI (okS w h) (4*w*h) 0=4*w*h by rw[okS_of hp];rfl]at h1
 exact h1
theorem yOok:CtsOk Tryd.prog G yOt:=⟨ct27v,ct83,ct85v,ct84,ct82,trivial⟩
theorem ch49_ok {w h:Int}{l:List Cr}(hs:s5 w h):∀hp cv args e,ch49 w h l hp cv args=some e→optP e.p→SpecD Tryd.prog G cv args hp e.v e.ws []:=by
 intro hp cv args e he hq
 unfold ch49 at he
 split at he
 ·rename_i f i k a b c _ out _ _ _ _ _ _ h1
  rw[cond_eq_ite]at he
  split at he
  ·rename_i hk
   cases he
   simp only[Bool.and_eq_true]at hk
   have e1:=Nat.eq_of_beq_eq_true hk.1
   have e2:=Nat.eq_of_beq_eq_true hk.2.1
   have e3:=Nat.eq_of_beq_eq_true hk.2.2.1
   have e4:=Nat.eq_of_beq_eq_true hk.2.2.2
   subst e1 e2 e3 e4
   obtain⟨rfl,rfl,h2,h3,rfl,h5⟩:=hq
   have:=sp86 (w:=w) (h:=h) (l:=l) (m:=i.toNat) hs (by omega) h5
   rwa [show((i.toNat:Nat):Int)=i by omega]at this
  ·cases he
 ·cases he
theorem kP_le {w h:Int}(l:List Cr)(m:Nat):kP w h l m≤m:=by
 have:=rk_le (repP w h l) m
 unfold kP
 omega
theorem facL_len {w h:Int}(hs:s5 w h)(l:List Cr):(facL w h l).length=nC w h:=by simp[facL,labL,(rep_P hs l).inv.len]
theorem sp49 {w h:Int}{l:List Cr}(hs:s5 w h)(hv:vP w h l):SpecP Tryd.prog G 49 [patV w h l] (.tup [facV w h l,.int .i64 0]) []:=by
 refine fnP_spec hcm hmx (tabL_ok (ch49_ok hs) yOok) ok49 rfl (ob_o49 w h l) ?_
 dsimp -failIfUnchanged -proj -eta -iota -zeta only[rd,rdw,qs,ql,qx]
 obtain⟨n100,n4⟩:=nC_le hs
 have hn:(4*w*h).toNat=nC w h:=rfl
 have hn2:4*w*h=(nC w h:Nat):=by
  have:=s5_len hs
  unfold nC;omega
 have hV:=okV_of hs hv
 simp only[ltb_iff,ltb_no,leb_iff,leb_no,len'_iff,ltn_iff,inR_i64,inR_u8,and_true,true_and,Cont.size,iI,iL,unC_flat,hn,forall_const,true_imp_iff]
 refine⟨⟨hs,hV⟩,hV.1,hs,by omega,⟨0,rfl,by omega,(labF_zero w h l).symm,rfl⟩,?_⟩
 rintro⟨i,m,out⟩ ⟨n,hi,hnn,ho,hm⟩
 simp only at hi ho hm ⊢
 subst hi;subst ho;subst hm
 simp only[Int.toNat_natCast,labF_len]
 refine⟨fun hlt=>?_,fun hge=>?_⟩
 ·have hlt':n<nC w h:=by omega
  have hL:=labT_F w h l n
  have hg:(labF w h l n).getD n 0=gI (labF w h l n) n:=by unfold gI;rw[List.getD_eq_getElem?_getD]
  have hneg:=hL.neg hs hlt'
  have hnx:=kP_next w h l n
  have hkl:=kP_le (w:=w) (h:=h) l n
  have hk0:=kP_nn w h l n
  rw[hg]
  refine⟨by omega,by omega,by omega,fun h1=>?_,fun h1=>?_⟩
  ·have hr:=hneg.1 h1
   rw[if_pos hr]at hnx
   repeat' (with_reducible apply And.intro)
   all_goals first
    |omega
    |exact trivial
    |exact hr
    |exact⟨n+1,by omega,by omega,rfl,by omega⟩
    |rfl
  ·have hr:rP w h l n≠n:=fun e=>by have:=hneg.2 e;omega
   rw[if_neg hr]at hnx
   refine⟨by omega,⟨n+1,by omega,by omega,(hL.next hs hlt' hr).eqF,by omega⟩,by omega⟩
 ·have:n=nC w h:=by omega
  subst this
  have hfl:=facL_len hs l
  rw[labF_all l hs]
  repeat' (with_reducible apply And.intro)
  all_goals first
   |omega
   |exact trivial
   |rfl
theorem ct49v:CtOk Tryd.prog G 49 e49v:=by
 intro args r h hp
 unfold e49v at h
 split at h<;>cases h
 rename_i w h a n _
 obtain⟨hs,⟨h1,h2,h3⟩,hv⟩:=hp
 generalize unC a=l at*
 subst h1 h2
 exact(sp49 hs hv).caps
theorem YXok:TabOk Tryd.prog G YX:=tabL_ok noCh_ok ⟨ct27,trivial⟩
theorem ct49x:CtOk Tryd.prog G 49 e49x:=by
 intro args r h hp
 unfold e49x at h
 split at h<;>cases h
 rename_i w h a n _
 obtain⟨⟨h1,h2,h3⟩,h4,h5⟩:=hp
 generalize unC a=l at*
 subst h1 h2
 refine SpecP.caps ?_
 refine fnP_spec hcm hmx YXok ok49 rfl (ob_o49x w h l) ?_
 simp[unC_flat,okA_flat h3,h4,h5]
theorem YVok:TabOk Tryd.prog G YV:=tabL_ok noCh_ok ⟨ct49v,ct78,trivial⟩
theorem facL_le {w h:Int}(hs:s5 w h)(l:List Cr):∀x∈facL w h l,0≤x∧x<nC w h:=by
 intro x hx
 unfold facL labL at hx
 rw[List.map_map]at hx
 obtain⟨r,hr,rfl⟩:=List.mem_map.1 hx
 obtain⟨i,hi,rfl⟩:=List.getElem_of_mem hr
 have hR:=rep_P hs l
 have hi':i<nC w h:=by rw[← hR.inv.len];exact hi
 have h1:=hR.inv.le i hi'
 have h2:(repP w h l).getD i 0=(repP w h l)[i]:=by simp[List.getD,hi]
 have h3:=rk_le (repP w h l) (repP w h l)[i]
 simp only[Function.comp_apply]
 omega
theorem maxL_mem:∀{l:List Int},l≠[]→maxL l∈l
 |[],h=>absurd rfl h
 |x::r,_=>by
  show r.foldl max x∈x::r
  have:∀(r:List Int) (x:Int),r.foldl max x=x∨r.foldl max x∈r:=by
   intro r
   induction r with
   |nil=>intro x;exact .inl rfl
   |cons y r ih=>
    intro x
    rw[List.foldl_cons]
    rcases ih (max x y)with h|h
    ·rw[h]
     rcases Int.le_total x y with q|q
     ·right;simp[Int.max_eq_right q]
     ·left;exact Int.max_eq_left q
    ·right;simp[h]
  rcases this r x with h|h
  ·rw[h];simp
  ·simp[h]
theorem sp43 {w h:Int}{l:List Cr}(hs:s5 w h)(hv:vP w h l):SpecP Tryd.prog G 43 [patV w h l] (.tup [.int .i64 (maxL (facL w h l)+1),.int .i64 0]) []:=by
 refine fnP_spec hcm hmx YVok ok43 rfl (ob_o43 w h l) ?_
 obtain⟨n100,n4⟩:=nC_le hs
 have hl:=facL_len hs l
 have hm:=facL_le hs l _ (maxL_mem (l:=facL w h l) (fun e=>by rw[e]at hl;simp at hl;omega))
 simp only[unC_flat,hl,inR_i64,and_true,true_and]
 exact⟨⟨hs,okV_of hs hv⟩,by omega,by omega⟩
theorem ct43v:CtOk Tryd.prog G 43 e43v:=by
 intro args r h hp
 unfold e43v at h
 split at h<;>cases h
 rename_i w h a n _
 obtain⟨hs,⟨h1,h2,h3⟩,hv⟩:=hp
 generalize unC a=l at*
 subst h1 h2
 exact(sp43 hs hv).caps
theorem YWok:TabOk Tryd.prog G YW:=tabL_ok noCh_ok ⟨ct49x,trivial⟩
theorem ct43x:CtOk Tryd.prog G 43 e43x:=by
 intro args r h hp
 unfold e43x at h
 split at h<;>cases h
 rename_i w h a n _
 obtain⟨⟨h1,h2,h3⟩,h4,h5⟩:=hp
 generalize unC a=l at*
 subst h1 h2
 refine SpecP.caps ?_
 refine fnP_spec hcm hmx YWok ok43 rfl (ob_o43x w h l) ?_
 simp[unC_flat,okA_flat h3,h4,h5]
end Go.Proofs.YtfpcbimohikhmaaDoor.X
