/-
 A face is gathered.
-/
import Derived.Test.YtfpcbimohikhmaaDoorQYC1Z
set_option maxRecDepth 1000000
set_option linter.unusedVariables false
set_option linter.unusedSimpArgs false
namespace Go.Proofs.YtfpcbimohikhmaaDoor.X
open Go Go.Ab

theorem unl_le (out:List Int):unl out≤out.length:=List.countP_le_length
theorem unl_set:∀{out:List Int} {i:Nat} {x:Int},i<out.length→gI out i<0→0≤x→unl (out.set i x)+1=unl out
 |[],i,x,h,_,_=>by simp at h
 |y::r,0,x,h,h1,h2=>by
  have h1:y<0:=by simpa[gI]using h1
  have h3:¬ x<0:=by omega
  simp[unl,h1,h3]
 |y::r,i+1,x,h,h1,h2=>by
  have ih:=unl_set (out:=r) (i:=i) (x:=x) (by simpa using h) (by simpa[gI]using h1) h2
  unfold unl at ih ⊢
  rw[List.set_cons_succ,List.countP_cons,List.countP_cons]
  omega
theorem nC_le {w h:Int}(hs:s5 w h):nC w h≤100∧4≤nC w h:=by
 obtain⟨a,b,c,d⟩:=hs
 unfold nC
 have:w=1∨w=2∨w=3∨w=4∨w=5:=by omega
 rcases this with rfl|rfl|rfl|rfl|rfl<;>omega
theorem drop_getD {q:List Int}{d:Nat}(h:d<q.length):q.drop d=q.getD d 0::q.drop (d+1):=by
 rw[List.drop_eq_getElem_cons h]
 simp[List.getD,h]
theorem YGok:TabOk Tryd.prog G YG:=tabL_ok noCh_ok ⟨ct70,trivial⟩
set_option maxHeartbeats 1000000 in
theorem sp86 {w h:Int}{l:List Cr}{m:Nat}(hs:s5 w h)(hm:m<nC w h)(hr:rP w h l m=m):
  SpecD Tryd.prog G (.fn 86 [] []) [.int .i64 m,.int .i64 (kP w h l m),.ptr 389 0,.ptr 64 0,.ptr 322 0] (hpF w h l (labF w h l m)) (.tup []) [(24832,rowO (labF w h l (m+1)) (nC w h))] []:=by
 refine fnD_spec hcm hmx YGok ok86 rfl (ob_d_86 w h l m) ?_
 dsimp -failIfUnchanged -proj -eta -iota -zeta only[rd,rdw,qs,ql,qx]
 simp only[ltb_iff,ltb_no,leb_iff,leb_no,len'_iff,ltn_iff,inR_i64,inR_u8,and_true,true_and,Cont.size,Int.toNat_natCast,labF_len,iI,Nat.add_zero,Nat.sub_zero,List.drop_zero]
 obtain⟨n100,n4⟩:=nC_le hs
 have g0:=GI.start (labT_F w h l m) hm hr (-1)
 have u0:=unl_le ((labF w h l m).set m (kP w h l m))
 rw[List.length_set,labF_len]at u0
 refine⟨by omega,by omega,⟨by omega,by omega,-1,g0⟩,?_⟩
 rintro⟨out,q,v,d⟩ ⟨hd,hu,cur,hg⟩
 simp only at hd hu hg ⊢
 refine⟨fun hlt=>?_,fun hge=>?_⟩
 ·have hdq:d<q.length:=by omega
  have hq:=drop_getD hdq
  rw[hq]at hg
  generalize q.getD d 0=c at*
  have hp:=hg.pop
  obtain⟨i,hci,hi,hri,hoi⟩:=hg.que c (by simp)
  have hcb:hasB w h c=true:=hci▸nC_has hs hi
  have hrc:rP w h l c.toNat=m:=by rw[hci];simpa using hri
  refine⟨by omega,by omega,by omega,⟨by omega,by omega,by omega,hp⟩,?_⟩
  rintro⟨out2,q2,v2,d2,k⟩ ⟨hd2,hk0,hk3,hg2,hs2⟩
  simp only at hd2 hk0 hk3 hg2 hs2 ⊢
  refine⟨fun hk=>?_,fun hk=>?_⟩
  ·have hkr:0≤k∧k≤2:=by omega
   have hskip:(0≤nbI w h c k→crB l (cod w h c k)=false→0≤gI out2 (nbI w h c k).toNat)→
     (0≤k+1∧k+1≤255)∧(d2≤q2.length∧0≤k+1∧k+1≤3∧GI w h l m out2 (q2.drop d2) c (k+1)∧unl out2+(q2.length-d2)=unl out+(q.length-(d+1)))∧3-(k+1).toNat<3-k.toNat:=fun hno=>
    ⟨by omega,⟨hd2,by omega,by omega,hg2.skip hs hkr hcb hrc hno,hs2⟩,by omega⟩
   obtain⟨u1,u2,u3⟩:=un_no hs hkr hcb
   refine⟨hk0,fun hne=>?_,fun hne=>?_⟩
   ·have hne:neE w h c k=0:=by simpa using hne
    have hn:0≤nbI w h c k:=u2.1 hne
    have hb:bI (okN w h c k) (nbI w h c k) 0=nbI w h c k:=by rw[neE_ok.2 hne];rfl
    rw[hb]
    obtain⟨_,_,i3⟩:=inv_ok hs hcb hkr hn
    obtain⟨n1,n2⟩:=has_nC i3
    have hl2:=hg2.len
    have hmn:(if nbI w h c k<c then nbI w h c k else c)=min c (nbI w h c k):=by split<;>omega
    rw[hmn,crF_get l hkr]
    have hcd:3*min c (nbI w h c k)+k=cod w h c k:=rfl
    rw[hcd]
    have hgI:out2.getD (nbI w h c k).toNat 0=gI out2 (nbI w h c k).toNat:=by unfold gI;rw[List.getD_eq_getElem?_getD]
    rw[hgI]
    refine⟨hn,by omega,by omega,fun hlt0=>⟨fun hcr=>?_,fun hcr=>hskip (fun _ hc0=>?_)⟩,fun hge0=>hskip (fun _ _=>hge0)⟩
    ·have hcr:crB l (cod w h c k)=false:=by
      cases hq:crB l (cod w h c k)with
      |false=>rfl
      |true=>rw[hq]at hcr;simp at hcr
     have hmk:=hg2.mark hs hkr hcb hrc hn hcr hlt0
     have hun:=unl_set (x:=kP w h l m) (by omega:(nbI w h c k).toNat<out2.length) hlt0 (kP_nn w h l m)
     refine⟨hn,by omega,by omega,by omega,by omega,⟨by omega,by omega,by omega,hmk,?_⟩,by omega⟩
     rw[List.length_append,List.length_drop]
     simp only[List.length_singleton]
     omega
    ·rw[hc0]at hcr;simp at hcr
   ·have hne:¬ neE w h c k=0:=by simpa using hne
    exact hskip (fun hn _=>absurd (u2.2 hn) hne)
  ·have:k=3:=by omega
   subst this
   exact⟨⟨hd2,by omega,c,hg2⟩,by omega⟩
 ·have hnil:q.drop d=[]:=List.drop_eq_nil_of_le (by omega)
  rw[hnil]at hg
  exact(hg.fin hs).eqF
end Go.Proofs.YtfpcbimohikhmaaDoor.X
