/-
 The laws on faces: Of, Sizes, Graph (but the chapter's examples).
-/
import Derived.Test.YtfpcbimohikhmaaDoorYO7Z
import Derived.Test.YtfpcbimohikhmaaDoorYC9Z
import Derived.Test.YtfpcbimohikhmaaDoorYLZ
set_option maxRecDepth 1000000
set_option linter.unusedVariables false
set_option linter.unusedSimpArgs false
namespace Go.Proofs.YtfpcbimohikhmaaDoor.X
open Go Go.Ab

theorem mxP_step {F:List Int}{n:Nat}(h:n<F.length):mxP F (n+1)=if gI F n+1>mxP F n then gI F n+1 else mxP F n:=by
 unfold mxP
 rw[take_at h,List.foldl_append,← gI_at h];rfl
theorem mxP_all {F:List Int}(h0:∀x∈F,0≤x)(hne:F≠[]):mxP F F.length=maxL F+1:=by
 unfold mxP
 rw[List.take_length]
 cases F with
 |nil=>exact absurd rfl hne
 |cons y r=>
  show List.foldl _ (if y+1>0 then y+1 else 0) r=r.foldl max y+1
  have hy:=h0 y (by simp)
  rw[if_pos (by omega)]
  clear h0 hne hy
  induction r generalizing y with
  |nil=>rfl
  |cons z r ih=>
   rw[List.foldl_cons,List.foldl_cons,← ih]
   congr 1
   omega
theorem ct25w:CtOk Tryd.prog G 25 e25v:=by
 intro args r h hp
 unfold e25v at h
 split at h<;>cases h
 rename_i w h a n _
 obtain⟨h4,⟨h1,h2,h3⟩,hv⟩:=hp
 generalize unC a=l at*
 subst h1 h2
 have hs:=s4_s5 h4
 have hl:=vP_len hs hv
 have:=sp25 w h l (by omega) (vP_edg hv)
 unfold opR at this
 rw[vP_chk hs hv]at this
 exact this.caps
theorem T12ok:TabOk Tryd.prog G T12:=tabL_ok noCh_ok ⟨ct14,ct49v,ct43v,ct45,ct25w,ct48t,ct40,trivial⟩
theorem bEq {a b:Int}:(a==b)=true↔a=b:=beq_iff_eq
theorem sp12 (W H:Int)(ks:List Int)(h1:0≤W∧W≤255)(h2:0≤H∧H≤255)(hu:u8s ks):SpecP Tryd.prog G 12 [patP W H ks] (.bool true) []:=by
 refine fnP_spec hcm hmx T12ok ok12 rfl (ob_o12 W H ks) ?_
 dsimp -failIfUnchanged -proj -eta -iota -zeta only[rd,rdw,qs,ql,qx]
 have d1:=dim_ok h1
 have d2:=dim_ok h2
 have h4:s4 (dim W) (dim H):=⟨⟨d1.1,d1.2.1⟩,d2.1,d2.2.1⟩
 have hs:=s4_s5 h4
 have hv:=of_vP h1 h2 hu
 generalize ofL W H ks=l at*
 generalize dim W=w at*
 generalize dim H=h at*
 have hO:=op_vP hv
 have kv:=okV_of hs hv
 have kO:=okV_of hs hO
 simp only[unC_flat,facL_op]
 obtain⟨n100,n4⟩:=nC_le hs
 have hl:=facL_len hs l
 have hle:=facL_le hs l
 have hma:=mxP_all (fun x hx=>(hle x hx).1) (fun e=>by rw[e]at hl;simp at hl;omega)
 have hms:=fun n=>mxP_step (F:=facL w h l) (n:=n)
 have hmx:=fac_max l hs
 generalize facL w h l=F at*
 simp only[gI_getD,ltb_iff,ltb_no,leb_iff,leb_no,inR_i64,and_true,true_and,ltn_iff,len'_iff,size_vals,size_ints,Cont.size,Int.toNat_natCast,bEq]
 repeat' (with_reducible apply And.intro)
 any_goals first|omega|exact hs|exact kv.1|exact kv.2|exact kv|exact hu|exact⟨0,rfl,by omega,rfl⟩|fail
 rintro⟨i,m⟩ ⟨n,hi,hn,hm⟩
 simp only at hi hm ⊢
 subst hi;subst hm
 simp only[Int.toNat_natCast]
 refine⟨fun hlt=>?_,fun hge=>?_⟩
 ·have hn':n<F.length:=by omega
  have hg:=hle _ (show gI F n∈F by rw[gI_at hn'];exact List.getElem_mem hn')
  refine⟨by omega,by omega,by omega,by omega,by omega,⟨n+1,by omega,by omega,(hms n hn').symm⟩,by omega⟩
 ·have:n=F.length:=by omega
  subst this
  repeat' (with_reducible apply And.intro)
  all_goals first|omega|exact h4.1.1|exact h4.1.2|exact h4.2.1|exact h4.2.2|exact h4|exact hs|exact kv.1|exact kv.2|exact kv|exact kO.1|exact kO.2|exact kO|exact hma.symm|exact hu|rfl
end Go.Proofs.YtfpcbimohikhmaaDoor.X
