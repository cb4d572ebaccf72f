/-
 Contracts: the reference's crease and Of.
-/
import Derived.Test.YtfpcbimohikhmaaDoorQYO3Z
import Derived.Test.YtfpcbimohikhmaaDoorQYC3Z
set_option maxRecDepth 1000000
set_option linter.unusedVariables false
set_option linter.unusedSimpArgs false
namespace Go.Proofs.YtfpcbimohikhmaaDoor.X
open Go Go.Ab

theorem crI_step {l:List Cr}{n:Nat}(c e:Int)(h:n<l.length):crI (l.drop n) c e=bI ((cC l n==c&&cE l n==e)||(l.drop (n+1)).any fun x=>x.1==c&&x.2.1==e) 1 0:=by
 unfold crI
 rw[drop_at h,cAt h,List.any_cons]
theorem sp81 (w h c e:Int)(l:List Cr)(hz:l.length<1000000000):SpecP Tryd.prog G 81 [patV w h l,.int .i64 c,.int .u8 e] (.int .i64 (crI l c e)) []:=by
 refine fnP_spec hcm hmx T0ok ok81 rfl (ob_o81 w h c e l) ?_
 dsimp -failIfUnchanged -proj -eta -iota -zeta only[rd,rdw,qs,ql,qx]
 simp only[ltb_iff,ltb_no,leb_iff,leb_no,len'_iff,ltn_iff,inR_i64,inR_u8,and_true,true_and,size_vals,beq_iff_eq,beq_eq_false_iff_ne,ne_eq,List.drop_zero,List.drop_drop,List.getElem?_drop,Nat.add_zero]
 refine⟨⟨0,by simp,by omega,by simp⟩,?_⟩
 rintro⟨i⟩ ⟨n,hi,hn,hc⟩
 simp only at hi ⊢
 subst hi
 simp only[Int.toNat_natCast]
 refine⟨fun hlt=>?_,fun hge=>?_⟩
 ·have g1:n<l.length:=by omega
  obtain⟨a0,a1,a2⟩:=cget' g1
  have hst:=crI_step c e g1
  rw[← hc]at hst
  have hf:=flatC_len l
  refine⟨by omega,by omega,by omega,by simpa using a0,fun h1=>⟨by omega,by omega,by omega,?_,fun h2=>?_,fun h2=>?_⟩,fun h1=>?_⟩
  ·simpa[Nat.add_comm]using a1
  ·rw[hst,h1,h2];simp[bI]
  ·have:(cE l n==e)=false:=by simpa using h2
   rw[this,Bool.and_false,Bool.false_or]at hst
   exact⟨by omega,⟨n+1,by omega,by omega,hst⟩,by omega⟩
  ·have:(cC l n==c)=false:=by simpa using h1
   rw[this,Bool.false_and,Bool.false_or]at hst
   exact⟨by omega,⟨n+1,by omega,by omega,hst⟩,by omega⟩
 ·rw[hc,List.drop_eq_nil_of_le (by omega)];rfl
theorem ct81:CtOk Tryd.prog G 81 e81:=by
 intro args r h hp
 unfold e81 at h
 split at h<;>cases h
 rename_i w h a n _ c e
 obtain⟨h1,h2,h3⟩:=hp
 generalize unC a=l at*
 subst h1 h2
 exact(sp81 _ _ _ _ _ h3).caps
theorem crI_crB {l:List Cr}{c e:Int}(he:0≤e∧e≤2):crI l c e=bI (crB l (3*c+e)) 1 0:=by
 unfold crI crB
 rw[show(3*c+e)/3=c by omega,show(3*c+e)%3=e by omega]
theorem opn_step {l:List Cr}{us:List Int}{n:Nat}(h:n<us.length):opn l (us.take (n+1))=opn l (us.take n)++(if crB l us[n]then[]else[us[n]]):=by
 unfold opn
 rw[List.take_succ_eq_append_getElem h,List.filter_append]
 congr 1
 by_cases h1:crB l us[n]=true
 ·simp[h1]
 ·simp[h1]
theorem pfl_len (w h:Int):∀us,(pfl w h us).length=2*us.length
 |[]=>rfl
 |c::r=>by
  have:=pfl_len w h r
  unfold pfl at this ⊢
  rw[List.flatMap_cons,List.length_append,this]
  simp;omega
theorem pfl_get (w h:Int):∀(us:List Int) (n:Nat),n<us.length→(pfl w h us)[n*2]? =some (.int .i64 (us[n]?.getD 0/3))∧(pfl w h us)[n*2+1]? =some (.int .i64 (nbI w h (us[n]?.getD 0/3) (us[n]?.getD 0%3)))
 |[],n,hn=>by simp at hn
 |c::r,0,hn=>by simp[pfl]
 |c::r,n+1,hn=>by
  have ih:=pfl_get w h r n (by simpa using hn)
  unfold pfl at ih ⊢
  rw[List.flatMap_cons,show(n+1)*2=n*2+2 by omega,show n*2+2+1=(n*2+1)+2 by omega]
  simpa using ih
theorem pa_mem {w h:Int}{l:List Cr}{n:Nat}(hs:s5 w h)(hn:n<(opn l (units w h)).length):0≤paI w h l n∧0≤pbI w h l n∧(paI w h l n).toNat<nC w h∧(pbI w h l n).toNat<nC w h∧((paI w h l n).toNat,(pbI w h l n).toNat)∈prs w h l:=by
 have hm:(opn l (units w h))[n]∈opn l (units w h):=List.getElem_mem hn
 have e1:(opn l (units w h))[(n:Int).toNat]?.getD 0=(opn l (units w h))[n]:=by simp[hn]
 have hp:((paI w h l n).toNat,(pbI w h l n).toNat)∈prs w h l:=by
  unfold pbI paI
  rw[e1]
  exact List.mem_map.2 ⟨_,hm,rfl⟩
 have hb:=prs_ok hs _ hp
 obtain⟨u1,u2,u3⟩:=units_mem hs (List.mem_filter.1 hm).1
 have h0:0≤paI w h l n:=by unfold paI;rw[e1];exact(hasB_iff.1 u1).1
 refine⟨h0,?_,hb.1,hb.2,hp⟩
 unfold pbI
 unfold paI at h0 ⊢
 rw[e1]at h0 ⊢
 omega
theorem eqUp_all {w h:Int}{l:List Cr}{m:List Int}(he:eqUp w h l m (opn l (units w h)).length):∀p∈prs w h l,gI m p.1=gI m p.2:=by
 intro p hp
 obtain⟨c,hc,rfl⟩:=List.mem_map.1 hp
 obtain⟨n,hn,rfl⟩:=List.getElem_of_mem hc
 have hn:n<(opn l (units w h)).length:=hn
 have:=he n hn hn
 unfold pbI paI at this
 have e1:(opn l (units w h))[(n:Int).toNat]?.getD 0=(opn l (units w h))[n]:=by simp[hn]
 rw[e1]at this
 exact this
theorem YRok:TabOk Tryd.prog G YR:=tabL_ok noCh_ok ⟨ct20,ct81,ct21,trivial⟩
end Go.Proofs.YtfpcbimohikhmaaDoor.X
