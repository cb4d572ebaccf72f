/-
 The laws on faces: Of, Sizes, Graph (but the chapter's examples).
-/
import Derived.Test.YtfpcbimohikhmaaDoorQYO7Z
import Derived.Test.YtfpcbimohikhmaaDoorQYC9Z
import Derived.Test.YtfpcbimohikhmaaDoorQYLZ
set_option maxRecDepth 1000000
set_option linter.unusedVariables false
set_option linter.unusedSimpArgs false
namespace Go.Proofs.YtfpcbimohikhmaaDoor.X
open Go Go.Ab

theorem bEq {a b:Int}:(a==b)=true↔a=b:=beq_iff_eq
theorem T9ok:TabOk Tryd.prog G T9:=tabL_ok noCh_ok ⟨ct14,ct37v,ct38v,ct39,ct40,trivial⟩
theorem lseJ_step {L:List Jt}{n:Nat}(h:n<L.length):lseJ (L.take (n+1))=(lseJ (L.take n)||(L[n].1==L[n].2.1)):=by
 unfold lseJ
 rw[take_at h,List.any_append];simp
theorem sumU_step {L:List Jt}{n:Nat}(h:n<L.length):sumU (L.take (n+1))=sumU (L.take n)+L[n].2.2:=by
 unfold sumU
 rw[take_at h,List.map_append,List.sum_append];simp
theorem sumU_nn {L:List Jt}(h:∀x∈L,0≤x.2.2∧x.2.2≤1000):0≤sumU L∧sumU L≤1000*L.length:=by
 unfold sumU
 induction L with
 |nil=>simp
 |cons x r ih=>
  have:=ih fun y hy=>h y (by simp[hy])
  have:=h x (by simp)
  rw[List.map_cons,List.sum_cons,List.length_cons]
  omega
set_option maxHeartbeats 2000000 in
theorem sp9 (W H:Int)(ks:List Int)(h1:0≤W∧W≤255)(h2:0≤H∧H≤255)(hu:u8s ks):SpecP Tryd.prog G 9 [patP W H ks] (.bool true) []:=by
 refine fnP_spec hcm hmx T9ok ok9 rfl (ob_o9 W H ks) ?_
 dsimp -failIfUnchanged -proj -eta -iota -zeta only[rd,rdw,qs,ql,qx]
 have d1:=dim_ok h1
 have d2:=dim_ok h2
 have h4:s4 (dim W) (dim H):=⟨⟨d1.1,d1.2.1⟩,d2.1,d2.2.1⟩
 have hs:=s4_s5 h4
 have hv:=of_vP h1 h2 hu
 generalize ofL W H ks=l at*
 generalize dim W=w at*
 generalize dim H=h at*
 have kv:=okV_of hs hv
 simp only[unC_flat]
 have hF:=okF_facL hs l
 have hsum:sumU (jnC w h l)=l.length:=sumU_jnL hs hv hF
 have hjl:=jnC_len hs hv
 have hlc:=vP_len hs hv
 have hun:∀x∈jnC w h l,0≤x.2.2∧x.2.2≤1000:=fun x hx=>by
  have:=(mem_jnL hs hv hF).1 hx
  have h3:cntJ w h (facL w h l) l x.1 x.2.1≤l.length:=List.countP_le_length
  omega
 generalize jnC w h l=L at*
 simp only[ltb_iff,ltb_no,leb_iff,leb_no,inR_i64,and_true,true_and,ltn_iff,len'_iff,size_vals,Cont.size,Int.toNat_natCast,bEq,bne_self_eq_false,Bool.not_false,Bool.not_eq_true',beq_self_eq_true,Bool.and_self,Bool.not_true]
 repeat' (with_reducible apply And.intro)
 any_goals first|omega|exact hs|exact kv.1|exact kv.2|exact kv|exact hu|exact⟨0,rfl,by omega,rfl,rfl⟩|fail
 rintro⟨i,s,b⟩ ⟨n,hi,hn,hsm,hb⟩
 simp only at hi hsm hb ⊢
 subst hi;subst hsm
 simp only[Int.toNat_natCast]
 refine⟨fun hlt=>?_,fun hge=>?_⟩
 ·have g1:n<L.length:=by omega
  obtain⟨c1,c2,c3⟩:=jget g1
  rw[List.getElem?_drop]at c1 c2 c3
  have hat:L[n]?.getD (0,0,0)=L[n]:=by rw[List.getElem?_eq_getElem g1];rfl
  rw[hat]at c1 c2 c3 ⊢
  have hx:=hun L[n] (List.getElem_mem g1)
  have h3:=sumU_step g1
  have h5:=lseJ_step g1
  have h6:=sumU_nn (L:=L.take n) fun x hx=>hun x (List.mem_of_mem_take hx)
  rw[List.length_take]at h6
  rw[← hb]at h5
  repeat' (with_reducible apply And.intro)
  any_goals first|omega|exact c1|exact c2|exact c3|fail
  ·intro hbt
   subst hbt
   repeat' (with_reducible apply And.intro)
   any_goals first|omega|rfl|exact⟨n+1,by omega,by omega,h3.symm,by rw[h5];rfl⟩|fail
  ·intro hbf
   subst hbf
   repeat' (with_reducible apply And.intro)
   any_goals first|omega|rfl|exact c1|exact c2|exact c3|exact⟨n+1,by omega,by omega,h3.symm,by rw[h5];rfl⟩|fail
 ·have:n=L.length:=by omega
  subst this
  rw[List.take_length]at*
  rw[hb,hsum]
  repeat' (with_reducible apply And.intro)
  all_goals first|omega|exact hs|exact kv.1|exact kv.2|exact kv|exact hu|rfl|exact beq_self_eq_true _
end Go.Proofs.YtfpcbimohikhmaaDoor.X
