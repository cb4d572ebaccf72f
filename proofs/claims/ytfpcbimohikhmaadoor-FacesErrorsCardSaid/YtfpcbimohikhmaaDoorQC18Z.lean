/-
 The contracts of the functions on whole patterns.
-/
import Derived.Test.YtfpcbimohikhmaaDoorQC6Z
import Derived.Test.YtfpcbimohikhmaaDoorQO5Z
import Derived.Test.YtfpcbimohikhmaaDoorQD7Z
import Derived.KernelRfl
import Derived.Test.YtfpcbimohikhmaaDoorQPIZ
set_option maxRecDepth 1000000
set_option linter.unusedVariables false
set_option linter.unusedSimpArgs false
namespace Go.Proofs.YtfpcbimohikhmaaDoor.X
open Go Go.Ab

/-! ### The reference's check -/
theorem badL_step {l:List Cr}{n:Nat}(h:n<l.length):badL (l.drop n)=(!kdB (cK l n)||badL (l.drop (n+1))):=by
 rw[drop_at h,cAt h];rfl
theorem cQ4ok:CtsOk Tryd.prog G cQ4':=⟨ct29,cWok⟩
theorem CQ4ok:TabOk Tryd.prog G CQ4:=tabL_ok noCh_ok cQ4ok
theorem sp30 (w h:Int)(l:List Cr)(hz:l.length<1000000000)(hs:okS w h=true→s5 w h):SpecP Tryd.prog G 30 [patV w h l] (.int .i64 (rchI w h l)) []:=by
 refine fnP_spec hcm hmx CQ4ok ok30 rfl (ob_o30 w h l) ?_
 dsimp -failIfUnchanged -proj -eta -iota -zeta only[rd,rdw,qs,ql,qx]
 unfold rchI
 rcases bool_or (okS w h)with hS|hS
 ·have h5:=hs hS
  have hu:=units_len h5
  rw[hS]
  refine⟨fun h=>by simp[bI]at h,fun _=>?_⟩
  simp only[ltb_iff,ltb_no,leb_iff,leb_no,len'_iff,ltn_iff,inR_i64,inR_u8,and_true,true_and,size_vals,cond_true,implies_true,imp_self]
  refine⟨⟨0,by simp,by omega,by simp⟩,?_⟩
  rintro⟨i⟩ ⟨n,hi,hn,he⟩
  simp only at hi he ⊢
  subst hi
  simp only[Int.toNat_natCast]
  refine⟨fun hlt=>?_,fun hge=>?_⟩
  ·have g1:n<l.length:=by omega
   obtain⟨a0,a1,a2⟩:=cgetd g1
   have hst:=badL_step g1
   refine⟨by omega,by omega,by rw[flatC_len];omega,a2,fun hk=>?_,fun hk=>⟨by omega,by omega,by rw[flatC_len];omega,a2,fun hk2=>?_,fun hk2=>?_⟩⟩
   ·have:kdB (cK l n)=false:=kdB_no.2 (by omega)
    rw[this]at hst
    rw[← he,hst];rfl
   ·have:kdB (cK l n)=false:=kdB_no.2 (by omega)
    rw[this]at hst
    rw[← he,hst];rfl
   ·have:kdB (cK l n)=true:=kdB_iff.2 (by omega)
    rw[this]at hst
    refine⟨by omega,⟨n+1,by omega,by omega,?_⟩,by omega⟩
    rw[← he,hst];rfl
  ·have g1:l.drop n=[]:=List.drop_eq_nil_of_le (by omega)
   rw[g1]at he
   rw[← he]
   refine⟨h5,⟨0,by simp,by omega,rfl⟩,?_⟩
   rw[show(bif badL []then(1:Int)else rck (units w h) (-1) 0 l)=rck (units w h) (-1) 0 l from rfl]
   generalize units w h=us at*
   rintro⟨i,p,o⟩ ⟨n,hi,hn,he⟩
   simp only at hi he ⊢
   subst hi
   simp only[Int.toNat_natCast]
   refine⟨fun hlt=>⟨⟨0,by simp,by omega,rfl⟩,?_⟩,fun hge=>?_⟩
   ·have g1:n<l.length:=by omega
    obtain⟨a0,a1,a2⟩:=cgetd g1
    rintro⟨j,m⟩ ⟨k,hj,hk,hm⟩
    simp only at hj hm ⊢
    subst hj
    simp only[Int.toNat_natCast]
    refine⟨fun hlt2=>?_,fun hge2=>?_⟩
    ·have g2:k<us.length:=by omega
     obtain⟨b0,b1⟩:=uget g2
     obtain⟨u1,u2,u3⟩:=uAt g2
     have hst:lkI (cC l n) (cE l n) m k (us.drop k)=lkI (cC l n) (cE l n) (cond (uC us k==cC l n&&uE us k==cE l n) k m) ((k:Int)+1) (us.drop (k+1)):=by
      rw[drop_at g2,u2,u3];rfl
     have b0':(List.drop (k*2) (flatU us))[0]? =some (.int .i64 (uC us k)):=by rw[List.drop_zero]at b0;exact b0
     have b1':(List.drop (k*2) (flatU us))[1]? =some (.int .u8 (uE us k)):=(List.getElem?_drop ..).symm.trans b1
     refine⟨by omega,by omega,by rw[flatU_len];omega,b0',b1',by omega,by omega,by rw[flatC_len];omega,a0,by omega,by omega,by rw[flatC_len];omega,a1,fun hc=>?_,fun hc=>?_⟩
     ·rw[hc,cond_true]at hst
      refine⟨by omega,⟨k+1,by omega,by omega,?_⟩,by omega⟩
      rw[← hm,hst];rfl
     ·rw[hc,cond_false]at hst
      refine⟨by omega,⟨k+1,by omega,by omega,?_⟩,by omega⟩
      rw[← hm,hst];rfl
    ·have g2:us.drop k=[]:=List.drop_eq_nil_of_le (by omega)
     rw[g2]at hm
     have hm':m=lkI (cC l n) (cE l n) (-1) 0 us:=hm
     have hst:rck us p o (l.drop n)=cond (ltb m 0) 7 (rck us m (cond (leb m p) 6 o) (l.drop (n+1))):=by
      rw[drop_at g1,cAt g1,hm'];rfl
     refine⟨fun h0=>?_,fun h0=>⟨fun h1=>?_,fun h1=>?_⟩⟩
     ·have:ltb m 0=true:=by rw[ltb_iff];exact h0
      rw[this,cond_true]at hst
      rw[← he,hst]
     ·have e1:ltb m 0=false:=by rw[ltb_no];exact h0
      have e2:leb m p=true:=by rw[leb_iff];exact h1
      rw[e1,e2,cond_false,cond_true]at hst
      refine⟨by omega,⟨n+1,by omega,by omega,?_⟩,by omega⟩
      rw[← hst];exact he
     ·have e1:ltb m 0=false:=by rw[ltb_no];exact h0
      have e2:leb m p=false:=by rw[leb_no];exact h1
      rw[e1,e2,cond_false,cond_false]at hst
      refine⟨by omega,⟨n+1,by omega,by omega,?_⟩,by omega⟩
      rw[← hst];exact he
   ·have g1:l.drop n=[]:=List.drop_eq_nil_of_le (by omega)
    rw[g1]at he
    exact he
 ·rw[hS]
  exact⟨fun _=>⟨rfl,trivial⟩,fun h=>by simp[bI]at h⟩
theorem ct30:CtOk Tryd.prog G 30 e30:=by
 intro args r h hp
 unfold e30 at h
 split at h<;>cases h
 rename_i w h a n _
 obtain⟨⟨h1,h2,h3⟩,h4⟩:=hp
 generalize unC a=l at*
 subst h1 h2
 exact(sp30 _ _ _ h3 h4).caps
end Go.Proofs.YtfpcbimohikhmaaDoor.X

/-
 The law Check: contracts of patterns that are not valid.
-/
set_option maxRecDepth 1000000
set_option linter.unusedVariables false
namespace Go.Proofs.YtfpcbimohikhmaaDoor.X
open Go Go.Ab

/-! ### Sheets that are valid -/
/-! ### Sheets that are not valid -/
end Go.Proofs.YtfpcbimohikhmaaDoor.X
/-
 What is to be shown of the functions (made by a program).
-/
set_option maxRecDepth 1000000
set_option linter.unusedVariables false
namespace Go.Proofs.YtfpcbimohikhmaaDoor.X
open Go Go.Ab

end Go.Proofs.YtfpcbimohikhmaaDoor.X
/-
 The law Check.
-/
set_option maxRecDepth 1000000
set_option linter.unusedVariables false
set_option linter.unusedSimpArgs false
namespace Go.Proofs.YtfpcbimohikhmaaDoor.X
open Go Go.Ab

theorem lk_no {c e:Int}:∀{us:List Int} {acc i:Int},(∀u∈us,¬ (u/3=c∧u%3=e))→lkI c e acc i us=acc
 |[],acc,i,_=>rfl
 |u::r,acc,i,h=>by
  simp only[lkI]
  have h0:=h u (by simp)
  have hb:(u/3==c&&u%3==e)=false:=by
   cases hq:(u/3==c&&u%3==e)with
   |false=>rfl
   |true=>simp only[Bool.and_eq_true,beq_iff_eq]at hq;exact absurd hq h0
  rw[hb]
  exact lk_no (fun x hx=>h x (by simp[hx]))
theorem lk_at {c e:Int}:∀{us:List Int} {j:Nat} {u:Int} (acc i:Int),asc us→us[j]? =some u→u/3=c→u%3=e→lkI c e acc i us=i+j
 |[],j,u,acc,i,_,h,_,_=>by simp at h
 |d::us,0,u,acc,i,ha,h,h1,h2=>by
  have:d=u:=by simpa using h
  subst this
  simp only[lkI]
  have hb:(d/3==c&&d%3==e)=true:=by rw[h1,h2];simp
  rw[hb]
  simp only[cond_true]
  rw[lk_no]
  ·simp
  ·intro x hx hq
   have:=(asc_tail ha).2 x hx
   omega
 |d::us,j+1,u,acc,i,ha,h,h1,h2=>by
  have hj:us[j]? =some u:=by simpa using h
  simp only[lkI]
  rw[lk_at _ (i+1) (asc_tail ha).1 hj h1 h2]
  omega
def ixU (us:List Int)(x:Cr):Int:=lkI x.1 x.2.1 (-1) 0 us
theorem ix_no {us:List Int}{x:Cr}(h:¬ ((0≤x.2.1∧x.2.1≤2)∧cdC x∈us)):ixU us x= -1:=by
 unfold ixU
 refine lk_no fun u hu hq=>h ?_
 have h1:cdC x=u:=by unfold cdC;omega
 exact⟨by omega,by rw[h1];exact hu⟩
theorem ix_at {us:List Int}{x:Cr}(ha:asc us)(he:0≤x.2.1∧x.2.1≤2)(h:cdC x∈us):∃j:Nat,us[j]? =some (cdC x)∧ixU us x=j:=by
 obtain⟨j,hj,hu⟩:=List.getElem_of_mem h
 have hs:us[j]? =some (cdC x):=by rw[List.getElem?_eq_getElem hj,hu]
 refine⟨j,hs,?_⟩
 unfold ixU
 rw[lk_at (-1) 0 ha hs (by unfold cdC;omega) (by unfold cdC;omega)]
 omega
theorem asc_lt {us:List Int}{i j:Nat}{a b:Int}(ha:asc us)(hi:us[i]? =some a)(hj:us[j]? =some b):i<j↔a<b:=by
 have key:∀{i j:Nat} {a b:Int},us[i]? =some a→us[j]? =some b→i<j→a<b:=by
  intro i j a b hi hj hij
  obtain⟨hi1,hi2⟩:=List.getElem?_eq_some_iff.1 hi
  obtain⟨hj1,hj2⟩:=List.getElem?_eq_some_iff.1 hj
  have:=List.pairwise_iff_getElem.1 ha i j hi1 hj1 hij
  rw[hi2,hj2]at this
  exact this
 refine⟨key hi hj,fun hab=>?_⟩
 rcases Nat.lt_trichotomy i j with h|h|h
 ·exact h
 ·subst h;rw[hi]at hj;cases hj;omega
 ·have:=key hj hi h;omega
def asU (us:List Int):Int→List Cr→Bool
 |_,[]=>true
 |p,x::r=>ltb p (ixU us x)&&asU us (ixU us x) r
theorem rck_eq (us:List Int):∀(l:List Cr) (p o:Int),rck us p o l=cond (l.all fun x=> !ltb (ixU us x) 0) (cond (asU us p l) o 6) 7
 |[],p,o=>rfl
 |x::r,p,o=>by
  simp only[rck,asU,List.all_cons]
  rw[rck_eq us r]
  show cond (ltb (ixU us x) 0) 7 (cond (r.all fun x=> !ltb (ixU us x) 0) (cond (asU us (ixU us x) r) (cond (leb (ixU us x) p) 6 o) 6) 7)=_
  have hl:leb (ixU us x) p= !ltb p (ixU us x):=by
   unfold leb ltb
   by_cases h:ixU us x≤p<;>simp[h]<;>omega
  rw[hl]
  cases ltb (ixU us x) 0<;>cases(r.all fun x=> !ltb (ixU us x) 0)<;>cases asU us (ixU us x) r<;>cases ltb p (ixU us x)<;>rfl
theorem unit_mem {w h:Int}{x:Cr}(hs:s5 w h)(he:0≤x.2.1):unitB w h x=true↔(0≤x.2.1∧x.2.1≤2)∧cdC x∈units w h:=by
 constructor
 ·intro hx
  obtain⟨h1,h2,h3,h4,h5,h6⟩:=unit_ok hx he
  obtain⟨i1,i2,i3⟩:=inv_ok hs h2 ⟨he,h4⟩ h5
  have e1:cdC x/3=x.1:=by unfold cdC;omega
  have e2:cdC x%3=x.2.1:=by unfold cdC;omega
  refine⟨⟨he,h4⟩,units_of hs (by rw[e1];exact h2) ?_⟩
  rw[e1,e2];omega
 ·rintro⟨⟨h0,h1⟩,h2⟩
  obtain⟨u1,u2,u3⟩:=units_mem hs h2
  have e1:cdC x/3=x.1:=by unfold cdC;omega
  have e2:cdC x%3=x.2.1:=by unfold cdC;omega
  rw[e1]at u1
  rw[e1,e2]at u2
  unfold unitB okN okI
  rw[okS_of hs,u1]
  have hb:=hasB_iff.1 u1
  simp only[Bool.true_and,Bool.and_eq_true,decide_eq_true_eq,leb_iff]
  omega
theorem ix_unit {w h:Int}{x:Cr}(hs:s5 w h)(he:0≤x.2.1):(!ltb (ixU (units w h) x) 0)=unitB w h x:=by
 rcases bool_or (unitB w h x)with hu|hu
 ·obtain⟨h1,h2⟩:=(unit_mem hs he).1 hu
  obtain⟨j,-,hj⟩:=ix_at (units_asc w h) h1 h2
  rw[hu,hj]
  have:ltb (j:Int) 0=false:=by rw[ltb_no];omega
  rw[this];rfl
 ·rw[hu,ix_no (fun hq=>by rw[(unit_mem hs he).2 hq]at hu;cases hu)]
  rfl
theorem as_asc {w h:Int}(hs:s5 w h):∀(r:List Cr) (x:Cr) (p:Int),(∀y∈x::r,unitB w h y=true∧0≤y.2.1)→asU (units w h) p (x::r)=(ltb p (ixU (units w h) x)&&ascB (x::r))
 |[],x,p,_=>by simp[asU,ascB]
 |y::r,x,p,hu=>by
  have hx:=hu x (by simp)
  have hy:=hu y (by simp)
  obtain⟨x1,x2⟩:=(unit_mem hs hx.2).1 hx.1
  obtain⟨y1,y2⟩:=(unit_mem hs hy.2).1 hy.1
  obtain⟨i,i1,i2⟩:=ix_at (units_asc w h) x1 x2
  obtain⟨j,j1,j2⟩:=ix_at (units_asc w h) y1 y2
  have ih:=as_asc hs r y (ixU (units w h) x) (fun z hz=>hu z (by simp at hz ⊢; exact .inr hz))
  have hlt:ltb (ixU (units w h) x) (ixU (units w h) y)=ltb (ordI x.1 x.2.1 y.1 y.2.1) 0:=by
   have h1:=asc_lt (units_asc w h) i1 j1
   have h2:=(ord_cd (c:=x.1) (c':=y.1) x1 y1).1
   have h3:(cdC x<cdC y)↔3*x.1+x.2.1<3*y.1+y.2.1:=Iff.rfl
   rw[i2,j2]
   rcases bool_or (ltb (ordI x.1 x.2.1 y.1 y.2.1) 0)with hb|hb
   ·rw[hb,ltb_iff]
    rw[ltb_iff]at hb
    have:=h1.2 (h3.2 (h2.1 hb))
    omega
   ·rw[hb,ltb_no]
    rw[ltb_no]at hb
    have h5:¬ i<j:=fun hij=>by
     have:=h2.2 (h3.1 (h1.1 hij));omega
    omega
  show(ltb p (ixU (units w h) x)&&asU (units w h) (ixU (units w h) x) (y::r))=_
  rw[ih,hlt]
  rfl
theorem rch_chk {w h:Int}{l:List Cr}(hs:s5 w h)(hg:edg l):rchI w h l=chkI w h l:=by
 unfold rchI chkI
 rw[okS_of hs,rck_eq]
 have ha:(l.all fun x=> !ltb (ixU (units w h) x) 0)=l.all (unitB w h):=by
  induction l with
  |nil=>rfl
  |cons x r ih=>
   simp only[List.all_cons]
   rw[ih (fun y hy=>hg y (by simp[hy])),ix_unit hs (hg x (by simp)).1]
 rw[ha]
 rcases bool_or (badL l)with hb|hb<;>rw[hb]<;>try rfl
 rcases bool_or (l.all (unitB w h))with hu|hu<;>rw[hu]<;>try rfl
 have:asU (units w h) (-1) l=ascB l:=by
  cases l with
  |nil=>rfl
  |cons x r=>
   have hu':=List.all_eq_true.1 hu
   rw[as_asc hs r x (-1) (fun y hy=>⟨hu' y hy,(hg y hy).1⟩)]
   have h1:=ix_unit hs (hg x (by simp)).1
   rw[hu' x (by simp)]at h1
   have:ltb (-1) (ixU (units w h) x)=true:=by
    rw[ltb_iff]
    have:ltb (ixU (units w h) x) 0=false:=by simpa using h1
    rw[ltb_no]at this
    omega
   rw[this];rfl
 simp only[cond_true,cond_false,this]
/-! ### The contracts of valid sheets -/
theorem chk_f {w h:Int}{l:List Cr}(h0:okS w h=false):chkI w h l=1:=by unfold chkI;rw[h0];rfl
end Go.Proofs.YtfpcbimohikhmaaDoor.X
