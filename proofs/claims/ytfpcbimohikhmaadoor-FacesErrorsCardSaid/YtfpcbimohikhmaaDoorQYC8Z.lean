/-
 Contracts: joints by contract, loose ends, the reference's joints.
-/
import Derived.Test.YtfpcbimohikhmaaDoorQYC7Z
set_option maxRecDepth 1000000
set_option linter.unusedVariables false
set_option linter.unusedSimpArgs false
namespace Go.Proofs.YtfpcbimohikhmaaDoor.X
open Go Go.Ab

theorem jnC_len {w h:Int}{l:List Cr}(hs:s5 w h)(hv:vP w h l):(jnC w h l).length≤300:=by
 have hF:=okF_facL hs l
 obtain⟨p1,p2,p3,p4⟩:=jn_perm hs hv hF (List.Perm.refl ((grF w h (facL w h l) l).1.map entJ))
 have:=grF_len w h (facL w h l) l
 have:=vP_len hs hv
 unfold jnC
 omega
theorem ct37v:CtOk Tryd.prog G 37 e37v:=by
 intro args r h hp
 unfold e37v at h
 split at h<;>cases h
 rename_i w h a n _
 obtain⟨hs,⟨h1,h2,h3⟩,hv⟩:=hp
 generalize unC a=l at*
 subst h1 h2
 exact(sp37 hs hv).caps
theorem ct37x:CtOk Tryd.prog G 37 e37x:=by
 intro args r h hp
 unfold e37x at h
 split at h<;>cases h
 rename_i w h a n _
 obtain⟨⟨h1,h2,h3⟩,h4,h5⟩:=hp
 generalize unC a=l at*
 subst h1 h2
 refine SpecP.caps ?_
 refine fnP_spec hcm hmx YWok ok37 rfl (ob_o37x w h l) ?_
 simp[unC_flat,okA_flat h3,h4,h5]
/-! ### Loose ends -/
theorem ct74:CtOk Tryd.prog G 74 e74:=by
 intro args r h hp
 unfold e74 at h
 split at h<;>cases h
 rename_i a b u
 refine SpecP.caps ?_
 refine fnP_spec hcm hmx T0ok ok74 rfl (ob_o74 a b u) ?_
 simp
theorem ixJ_cons (x:Jt)(r:List Jt)(i:Nat):ixJ (x::r) i=cond (x.1==x.2.1) (i:Int) (ixJ r (i+1)):=rfl
theorem Y74ok:TabOk Tryd.prog G Y74:=tabL_ok noCh_ok ⟨ct74,trivial⟩
theorem sp98 {L:List Jt}(hz:L.length<1000000000):SpecP Tryd.prog G 98 [.imm (.vals (flJ L)) L.length none,.fn 74 [] []] (.int .i64 (ixJ L 0)) []:=by
 refine fnP_spec hcm hmx Y74ok ok98 rfl (ob_o98 L) ?_
 dsimp -failIfUnchanged -proj -eta -iota -zeta only[rd,rdw,qs,ql,qx]
 have hfl:=flJ_len L
 simp only[ltb_iff,ltb_no,leb_iff,leb_no,len'_iff,ltn_iff,inR_i64,and_true,true_and,size_vals,Cont.size]
 refine⟨⟨0,rfl,by omega,rfl⟩,?_⟩
 rintro⟨i⟩ ⟨n,hi,hnn,he⟩
 simp only at hi ⊢
 subst hi
 simp only[Int.toNat_natCast]
 refine⟨fun hlt=>?_,fun hge=>?_⟩
 ·have g1:n<L.length:=by omega
  obtain⟨c1,c2,c3⟩:=jget g1
  have hd:L.drop n=L[n]::L.drop (n+1):=List.drop_eq_getElem_cons g1
  have hat:L[n]?.getD (0,0,0)=L[n]:=by rw[List.getElem?_eq_getElem g1];rfl
  rw[hat]at c1 c2 c3 ⊢
  rw[hd,ixJ_cons]at he
  repeat' (with_reducible apply And.intro)
  any_goals first|omega|exact c1|exact c2|exact c3
  ·intro h1
   rw[h1]at he
   exact he.symm
  ·intro h1
   rw[h1]at he
   exact⟨by omega,⟨n+1,by omega,by omega,he⟩,by omega⟩
 ·have:n=L.length:=by omega
  subst this
  rw[he,List.drop_length];rfl
theorem ct98:CtOk Tryd.prog G 98 e98:=by
 intro args r h hp
 unfold e98 at h
 split at h<;>cases h
 rename_i a n _
 obtain⟨h1,h2,h3⟩:=hp
 generalize unJ a=L at*
 subst h1 h2
 exact(sp98 h3).caps
theorem Y98ok:TabOk Tryd.prog G Y98:=tabL_ok noCh_ok ⟨ct98,trivial⟩
theorem ixJ_any:∀(L:List Jt) (i:Nat),leb 0 (ixJ L i)=lseJ L
 |[],i=>rfl
 |x::r,i=>by
  have ih:=ixJ_any r (i+1)
  unfold lseJ at*
  rw[List.any_cons,ixJ_cons]
  cases hx:x.1==x.2.1
  ·simpa using ih
  ·simp[leb]
theorem ct73:CtOk Tryd.prog G 73 e73:=by
 intro args r h hp
 unfold e73 at h
 split at h<;>cases h
 rename_i a n _
 obtain⟨h1,h2,h3⟩:=hp
 generalize unJ a=L at*
 subst h1 h2
 refine SpecP.caps ?_
 refine fnP_spec hcm hmx Y98ok ok73 rfl (ob_o73 L) ?_
 rw[unJ_flJ]
 exact⟨okJ_flJ h3,ixJ_any L 0,trivial⟩
theorem ct98n:CtOk Tryd.prog G 98 e98n:=by
 intro args r h hp
 unfold e98n at h
 split at h<;>cases h
 refine SpecP.caps ?_
 refine fnP_spec hcm hmx T0ok ok98 rfl (ob_o98n) ?_
 exact⟨rfl,trivial⟩
theorem Y98nok:TabOk Tryd.prog G Y98n:=tabL_ok noCh_ok ⟨ct98n,trivial⟩
theorem ct73n:CtOk Tryd.prog G 73 e73n:=by
 intro args r h hp
 unfold e73n at h
 split at h<;>cases h
 refine SpecP.caps ?_
 refine fnP_spec hcm hmx Y98nok ok73 rfl (ob_o73n) ?_
 simp
theorem YLook:TabOk Tryd.prog G YLo:=tabL_ok noCh_ok ⟨ct37v,ct73,trivial⟩
theorem YLxok:TabOk Tryd.prog G YLx:=tabL_ok noCh_ok ⟨ct37x,ct73n,trivial⟩
theorem ct38v:CtOk Tryd.prog G 38 e38v:=by
 intro args r h hp
 unfold e38v at h
 split at h<;>cases h
 rename_i w h a n _
 obtain⟨hs,⟨h1,h2,h3⟩,hv⟩:=hp
 generalize unC a=l at*
 subst h1 h2
 refine SpecP.caps ?_
 refine fnP_spec hcm hmx YLook ok38 rfl (ob_o38 w h l) ?_
 rw[unC_flat,unJ_flJ]
 have:=jnC_len hs hv
 have h1:=okV_of hs hv
 have h2:okJ (flJ (jnC w h l)) (jnC w h l).length:=okJ_flJ (by omega)
 repeat' (with_reducible apply And.intro)
 all_goals first|exact hs|exact h1|exact h2|rfl|exact trivial
theorem ct38x:CtOk Tryd.prog G 38 e38x:=by
 intro args r h hp
 unfold e38x at h
 split at h<;>cases h
 rename_i w h a n _
 obtain⟨⟨h1,h2,h3⟩,h4,h5⟩:=hp
 generalize unC a=l at*
 subst h1 h2
 refine SpecP.caps ?_
 refine fnP_spec hcm hmx YLxok ok38 rfl (ob_o38x w h l) ?_
 simp[unC_flat,okA_flat h3,h4,h5]
/-! ### The reference's joints -/
end Go.Proofs.YtfpcbimohikhmaaDoor.X
