/-
 Rings: the contracts of checking, of all ways, Count and First.
-/
import Derived.Test.YthiammkiobbclaaGreatC23Z
set_option maxRecDepth 1000000
set_option linter.unusedVariables false
set_option linter.unusedSimpArgs false
namespace Go.Proofs.YthiammkiobbclaaGreat.X
open Go Go.Ab

theorem rgt37:CtOk Tryz.prog G 37 rg37:=by
 intro args r h hp
 unfold rg37 at h
 split at h<;>cases h
 rename_i a n _ k m _
 obtain⟨rfl,rfl,hr⟩:=hp
 refine fan_caps (fnP_spec hcm hmx T0ok ok37 rfl (ob_g37 a k) ?_)
 dsimp -failIfUnchanged -proj -eta -iota -zeta only[rd,rdw,qs,ql,qx]
 obtain⟨hA,hl,h0,hk,hev,hkk,hz⟩:=id hr
 have hrb:=rays_bd2 hA hl
 have hrl:=raysL_len a
 simp only[inR_i64,and_true,true_and,leb_iff,ltb_iff,ltb_no,ltn_iff,len'_iff,iI,iL,size_ints,List.length_drop,List.length_append,List.length_cons,List.length_nil,List.getD_eq_getElem?_getD,List.getElem?_drop,Nat.add_zero,Nat.zero_add]
 refine⟨⟨0,rfl,by omega,?_⟩,?_⟩
 ·show[0]=(rayL 0 true a).take 1
  cases a<;>rfl
 rintro⟨i,r⟩ ⟨m,hi,hm,hr⟩
 simp only at hi hr ⊢
 subst hi hr
 simp only[Int.toNat_natCast]
 refine⟨fun hlt=>?_,fun hge=>?_⟩
 ·have g:m<a.length:=by omega
  have hst:=rays_step g
  have htl:((raysL a).take (m+1)).length=m+1:=by rw[List.length_take];omega
  have ha:=ang_get hA g
  have hy: -512≤((raysL a).take (m+1))[m]?.getD 0∧((raysL a).take (m+1))[m]?.getD 0≤512:=by
   have hm1:m<((raysL a).take (m+1)).length:=by omega
   rw[List.getElem?_eq_getElem hm1]
   exact hrb _ (List.mem_of_mem_take (List.getElem_mem hm1))
  have ht:(m:Int).tmod 2=0∨(m:Int).tmod 2=1:=by rw[Int.tmod_eq_emod_of_nonneg (by omega)];omega
  have hex:∃m_1:Nat,(m:Int)+1=m_1∧m_1≤a.length∧(raysL a).take (m+2)=(raysL a).take (m_1+1):=⟨m+1,by omega,by omega,rfl⟩
  rw[← hst]
  rcases ht with ht|ht
  ·rw[ht]at hst ⊢
   repeat' apply And.intro
   all_goals first|omega|exact hex
  ·rw[ht]at hst ⊢
   repeat' apply And.intro
   all_goals first|omega|exact hex
 ·rw[List.take_of_length_le (by omega)]
  exact⟨rfl,rfl⟩
theorem rgt36:CtOk Tryz.prog G 36 rg36:=by
 intro args r h hp
 unfold rg36 at h
 split at h<;>cases h
 rename_i a n _ k m _
 obtain⟨rfl,rfl,hr⟩:=hp
 refine fan_caps (fnP_spec hcm hmx T0ok ok36 rfl (ob_g36 a k) ?_)
 dsimp -failIfUnchanged -proj -eta -iota -zeta only[rd,rdw,qs,ql,qx]
 obtain⟨hA,hl,h0,hk,hev,hkk,hz⟩:=id hr
 have hrb:=rays_bd2 hA hl
 have hrl:=raysL_len a
 have ht2:((a.length:Nat):Int).tmod 2=0:=by rw[Int.tmod_eq_emod_of_nonneg (by omega)];omega
 simp only[inR_i64,and_true,true_and,leb_iff,ltb_iff,ltb_no,ltn_iff,len'_iff,iI,iL,size_ints,List.length_drop,List.length_append,List.length_cons,List.length_nil,List.getD_eq_getElem?_getD,List.getElem?_drop,Nat.add_zero,Nat.zero_add,beq_iff_eq,beq_eq_false_iff_ne,ne_eq,bne_iff_ne,bne_eq_false_iff_eq]
 refine⟨by omega,by omega,fun h=>by omega,fun h=>⟨by omega,⟨0,rfl,by omega,?_⟩,?_⟩⟩
 ·show(0:Int)=gR (rayL 0 true a) 0
  cases a<;>rfl
 rintro⟨i,s⟩ ⟨m,hi,hm,hs⟩
 simp only at hi hs ⊢
 subst hi hs
 simp only[Int.toNat_natCast]
 refine⟨fun hlt=>?_,fun hge=>?_⟩
 ·have g:m<a.length:=by omega
  have ha:=ang_get hA g
  have hkm:1≤k[m]?.getD 0∧k[m]?.getD 0≤3:=by
   rw[List.getElem?_eq_getElem (by omega)]
   exact hkk _ (List.getElem_mem _)
  have hn:=rays_next g
  have hy: -512≤gR (raysL a) m∧gR (raysL a) m≤512:=by
   unfold gR
   rw[Int.toNat_natCast,List.getElem?_eq_getElem (by omega)]
   exact hrb _ (List.getElem_mem _)
  have hex:∃m_1:Nat,(m:Int)+1=m_1∧m_1≤a.length∧gR (raysL a) m+a[m]?.getD 0*(1-2*(m:Int).tmod 2)=gR (raysL a) m_1:=⟨m+1,by omega,by omega,hn.symm⟩
  have ht:(m:Int).tmod 2=0∨(m:Int).tmod 2=1:=by rw[Int.tmod_eq_emod_of_nonneg (by omega)];omega
  have hb: -512≤a[m]?.getD 0*(1-2*(m:Int).tmod 2)∧a[m]?.getD 0*(1-2*(m:Int).tmod 2)≤512:=by
   rcases ht with ht|ht<;>rw[ht]<;>omega
  clear hn
  generalize a[m]?.getD 0*(1-2*(m:Int).tmod 2)=y at*
  refine⟨by omega,by omega,by omega,by omega,fun h=>by omega,fun _=>⟨fun h=>by omega,fun _=>⟨by omega,by omega,by omega,by omega,fun h=>by omega,fun _=>?_⟩⟩⟩
  repeat' apply And.intro
  all_goals first|omega|exact hex
 ·rw[show m=a.length by omega]
  exact hz
theorem rgt18:CtOk Tryz.prog G 18 rg36:=by
 intro args r h hp
 unfold rg36 at h
 split at h<;>cases h
 rename_i a n _ k m _
 obtain⟨rfl,rfl,hr⟩:=hp
 refine fan_caps (fnP_spec hcm hmx (tabL_ok noCh_ok ⟨rgt36,trivial⟩:TabOk Tryz.prog G TR18) ok18 rfl (ob_g18 a k) ?_)
 obtain⟨hA,hl,h0,hk,hev,hkk,hz⟩:=id hr
 simp only[ltb_no,and_true,true_and,iI]
 exact⟨hr,by omega⟩
theorem rgt19:CtOk Tryz.prog G 19 rg19:=by
 intro args r h hp
 unfold rg19 at h
 split at h<;>cases h
 rename_i a n _ k m _
 obtain⟨rfl,rfl,hr⟩:=hp
 have hR:=ring_ok hr
 refine fan_caps (fnP_spec hcm hmx (tabL_ok (chWr_ok hR) ⟨rgt37,trivial⟩:TabOk Tryz.prog G (TWr a k)) ok19 rfl (ob_g19 a k) ?_)
 dsimp -failIfUnchanged -proj -eta -iota -zeta only[rd,rdw,qs,ql,qx]
 simp only[outV_un,and_true,true_and,forall_const,true_imp_iff]
 have hp:=(srtL_perm (grwO a.length (raysL a) (rotR k) [] [])).length_eq
 exact⟨hr,hR,grw_okL,rfl,hp.symm⟩
theorem TR8ok:TabOk Tryz.prog G TR8:=tabL_ok noCh_ok ⟨rgt18,rgt19,trivial⟩
theorem rgt8:CtOk Tryz.prog G 8 rg8:=by
 intro args r h hp
 unfold rg8 at h
 split at h<;>cases h
 rename_i a n _ k m _
 obtain⟨rfl,rfl,hr⟩:=hp
 refine fan_caps (fnP_spec hcm hmx TR8ok ok8 rfl (ob_g8 a k) ?_)
 simp only[and_true,true_and,iI]
 exact⟨hr,hr⟩
theorem rgt10:CtOk Tryz.prog G 10 rg10:=by
 intro args r h hp
 unfold rg10 at h
 split at h<;>cases h
 rename_i a n _ k m _
 obtain⟨rfl,rfl,hr⟩:=hp
 refine fan_caps (fnP_spec hcm hmx TR8ok ok10 rfl (ob_g10 a k) ?_)
 dsimp -failIfUnchanged -proj -eta -iota -zeta only[rd,rdw,qs,ql,qx]
 simp only[and_true,true_and,beq_iff_eq,beq_eq_false_iff_ne,ne_eq,ltb_iff,ltn_iff,size_vals,outV_len,List.drop_zero,size_ints]
 refine⟨hr,hr,fun h=>?_,fun h=>?_⟩
 ·have e:rwL a k=[]:=List.length_eq_zero_iff.1 (by omega)
  unfold fstQ
  rw[e]
  exact⟨rfl,rfl,rfl,rfl⟩
 ·have hne:¬ rwL a k=[]:=fun e=>h (by rw[e];rfl)
  have hpos:0<(rwL a k).length:=by omega
  refine⟨by omega,by omega,outV_get hpos,?_⟩
  unfold fstQ
  rw[if_neg hne]
end Go.Proofs.YthiammkiobbclaaGreat.X
