/-
 The contracts of the check, of look up and set of a pattern.
-/
import Derived.Test.YtfpcbimohikhmaaDoorQC4Z
import Derived.Test.YtfpcbimohikhmaaDoorQO4Z
set_option maxRecDepth 1000000
set_option linter.unusedVariables false
set_option linter.unusedSimpArgs false
namespace Go.Proofs.YtfpcbimohikhmaaDoor.X
open Go Go.Ab

theorem unC_flat:∀(l:List Cr),unC (flatC l)=l
 |[]=>rfl
 |(c,e,k)::l=>by
  have ih:=unC_flat l
  show(c,e,k)::unC (flatC l)=_
  rw[ih]
theorem okA_flat {l:List Cr}(h:l.length<1000000000):okA (flatC l) l.length:=by
 unfold okA;rw[unC_flat];exact⟨rfl,rfl,h⟩
theorem kdB_iff {k:Int}:kdB k=true↔1≤k∧k≤3:=by unfold kdB;simp
theorem kdB_no {k:Int}:kdB k=false↔¬ (1≤k∧k≤3):=by
 rw[← kdB_iff];cases kdB k<;>simp
theorem sp51 (k:Int):SpecP Tryd.prog G 51 [.int .u8 k] (.bool (kdB k)) []:=by
 refine fnP_spec hcm hmx T0ok ok51 rfl (ob_o51 k) ?_
 unfold kdB
 refine⟨fun h=>⟨by rw[h];rfl,trivial⟩,fun h=>⟨by rw[h];rfl,trivial⟩⟩
theorem ct51:CtOk Tryd.prog G 51 e51:=by
 intro args r h hp
 unfold e51 at h
 split at h<;>cases h
 exact(sp51 _).caps
theorem sp61 (c e c' e':Int)(h1:sml c)(h2:sml c')(h3:0≤e∧e≤255)(h4:0≤e'∧e'≤255):SpecP Tryd.prog G 61 [.agg [.int .i64 c,.int .u8 e],.agg [.int .i64 c',.int .u8 e']] (.int .i64 (ordI c e c' e')) []:=by
 refine fnP_spec hcm hmx T0ok ok61 rfl (ob_o61 c e c' e') ?_
 unfold sml at h1 h2
 unfold ordI
 simp only[bne_iff_ne,ne_eq,bne_eq_false_iff_eq,inR_i64,and_true]
 refine⟨fun h=>⟨by omega,by rw[if_neg h]⟩,fun h=>⟨by omega,by omega,by omega,by rw[if_pos h]⟩⟩
theorem ct61:CtOk Tryd.prog G 61 e61:=by
 intro args r h hp
 unfold e61 at h
 split at h<;>cases h
 obtain⟨h1,h2,h3,h4,h5,h6⟩:=hp
 exact(sp61 _ _ _ _ h1 h2 ⟨h3,h4⟩ ⟨h5,h6⟩).caps
theorem sp62 (c e k:Int):SpecP Tryd.prog G 62 [.agg [.int .i64 c,.int .u8 e,.int .u8 k]] (.agg [.int .i64 c,.int .u8 e]) []:=by
 refine fnP_spec hcm hmx T0ok ok62 rfl (ob_o62 c e k) ?_
 exact⟨rfl,rfl,trivial⟩
theorem ct62:CtOk Tryd.prog G 62 e62:=by
 intro args r h hp
 unfold e62 at h
 split at h<;>cases h
 exact(sp62 _ _ _).caps
theorem cP1ok:CtsOk Tryd.prog G cP1':=⟨ct51,ct61,ct62,ct58,cS4ok⟩
theorem CP1ok:TabOk Tryd.prog G CP1:=tabL_ok noCh_ok cP1ok
theorem ct66:CtOk Tryd.prog G 66 e66:=by
 intro args r h hp
 unfold e66 at h
 split at h<;>cases h
 exact(fnP_spec hcm hmx CP1ok ok66 rfl (ob_o66 _ _ _) ⟨rfl,trivial⟩:SpecP Tryd.prog G 66 [_] (.bool _) []).caps
theorem ct101:CtOk Tryd.prog G 101 e101:=by
 intro args r h hp
 unfold e101 at h
 split at h<;>cases h
 exact(fnP_spec hcm hmx CP1ok ok101 rfl (ob_o101 _ _ _ _ _) ⟨hp,rfl,trivial⟩:SpecP Tryd.prog G 101 [_,_] (.int .i64 _) []).caps
theorem cP2ok:CtsOk Tryd.prog G cP2':=⟨ct66,ct101,cP1ok⟩
theorem CP2ok:TabOk Tryd.prog G CP2:=tabL_ok noCh_ok cP2ok
theorem sp95 (l:List Cr)(hz:l.length<1000000000):SpecP Tryd.prog G 95 [.imm (.vals (flatC l)) l.length none,.fn 66 [] []] (.int .i64 (idxB l 0)) []:=by
 refine fnP_spec hcm hmx CP2ok ok95 rfl (ob_o95 l) ?_
 dsimp -failIfUnchanged -proj -eta -iota -zeta only[rd,rdw,qs,ql,qx]
 simp only[ltb_iff,ltb_no,leb_iff,leb_no,len'_iff,ltn_iff,inR_i64,inR_u8,and_true,true_and,size_vals,Bool.not_eq_true',Bool.not_eq_false']
 refine⟨⟨0,by simp,by omega,by simp⟩,?_⟩
 rintro⟨i⟩ ⟨n,hi,hn,he⟩
 simp only at hi he ⊢
 subst hi
 simp only[Int.toNat_natCast]
 refine⟨fun hlt=>?_,fun hge=>?_⟩
 ·have g1:n<l.length:=by omega
  obtain⟨c1,c2,c3⟩:=cget g1
  have hst:idxB (l.drop n) n=cond (kdB (cK l n)) (idxB (l.drop (n+1)) ((n:Int)+1)) n:=by rw[drop_at g1,cAt g1];rfl
  refine⟨by omega,by omega,by rw[flatC_len];omega,c1,c2,c3,fun hk=>?_,fun hk=>⟨by omega,⟨n+1,by omega,by omega,?_⟩,by omega⟩⟩
  ·rw[← he,hst,hk];rfl
  ·rw[← he,hst,hk];rfl
 ·have g1:l.drop n=[]:=List.drop_eq_nil_of_le (by omega)
  rw[← he,g1];rfl
theorem ct95:CtOk Tryd.prog G 95 e95:=by
 intro args r h hp
 unfold e95 at h
 split at h<;>cases h
 rename_i a n _
 obtain⟨h1,h2,h3⟩:=hp
 generalize unC a=l at*
 subst h1 h2
 exact(sp95 _ h3).caps
theorem cP3ok:CtsOk Tryd.prog G cP3':=⟨ct95,cP2ok⟩
theorem CP3ok:TabOk Tryd.prog G CP3:=tabL_ok noCh_ok cP3ok
theorem idxB_ok:∀(l:List Cr) (i:Int),0≤i→leb 0 (idxB l i)=badL l
 |[],i,h=>rfl
 |x::l,i,h=>by
  have ih:=idxB_ok l (i+1) (by omega)
  show leb 0 (cond (kdB x.2.2) (idxB l (i+1)) i)=(!kdB x.2.2||badL l)
  cases kdB x.2.2 with
  |true=>simpa using ih
  |false=>simp only[cond_false,Bool.not_false,Bool.true_or];simpa using h
theorem sp65 (l:List Cr)(hz:l.length<1000000000):SpecP Tryd.prog G 65 [.imm (.vals (flatC l)) l.length none,.fn 66 [] []] (.bool (badL l)) []:=by
 refine fnP_spec hcm hmx CP3ok ok65 rfl (ob_o65 l) ?_
 rw[unC_flat]
 exact⟨okA_flat hz,idxB_ok l 0 (by omega),trivial⟩
theorem ct65:CtOk Tryd.prog G 65 e65:=by
 intro args r h hp
 unfold e65 at h
 split at h<;>cases h
 rename_i a n _
 obtain⟨h1,h2,h3⟩:=hp
 generalize unC a=l at*
 subst h1 h2
 exact(sp65 _ h3).caps
theorem cP4ok:CtsOk Tryd.prog G cP4':=⟨ct65,cP3ok⟩
theorem CP4ok:TabOk Tryd.prog G CP4:=tabL_ok noCh_ok cP4ok
/-! ### The check -/
theorem unit_ck {w h c e k:Int}:(bif neE w h c e !=0 then true else !(nmC w h c e==c&&nmE w h c e==e))= !unitB w h (c,e,k):=by
 unfold unitB nmC nmE
 rcases bool_or (okN w h c e)with h0|h0
 ·have h1:=neE_ok.1 h0
  rw[h0,h1]
  simp only[bI,cond_true,Bool.true_and,beq_self_eq_true,Bool.and_true]
  rw[show((0:Int) !=0)=false from rfl,cond_false]
  congr 1
  rcases bool_or (leb c (nbI w h c e))with h2|h2
  ·rw[h2]
   rw[beq_iff_eq]
   rw[leb_iff]at h2
   omega
  ·rw[h2]
   rw[beq_eq_false_iff_ne]
   rw[leb_no]at h2
   omega
 ·have h1:(neE w h c e !=0)=true:=by
   rw[bne_iff_ne]
   intro e
   rw[neE_ok.2 e]at h0;cases h0
  rw[h0,h1];rfl
theorem all_at {α:Type}{f:α→Bool}{l:List α}{n:Nat}(h:n<l.length):(l.take (n+1)).all f=((l.take n).all f&&f l[n]):=by
 rw[take_at h,List.all_append];simp
theorem unit_sml {w h:Int}{x:Cr}(hx:unitB w h x=true)(he:0≤x.2.1):sml x.1∧0≤x.1∧x.2.1≤2∧x.1<1024:=by
 unfold unitB okN okI at hx
 simp only[Bool.and_eq_true,decide_eq_true_eq]at hx
 obtain⟨⟨⟨h1,h2⟩,h3,h4⟩,h5⟩:=hx
 have:=cell_ok h1 h2
 unfold sml
 omega
theorem ascB_at {l:List Cr}{n:Nat}(h:n+1<l.length):ascB (l.drop n)=(ltb (ordI (cC l n) (cE l n) (cC l (n+1:Nat)) (cE l (n+1:Nat))) 0&&ascB (l.drop (n+1))):=by
 have h0:n<l.length:=by omega
 rw[drop_at h0,drop_at h,cAt h0,cAt h]
 rfl
theorem ascB_end {l:List Cr}{n:Nat}(h:l.length≤n+1):ascB (l.drop n)=true:=by
 by_cases h0:n<l.length
 ·rw[drop_at h0,List.drop_eq_nil_of_le h];rfl
 ·rw[List.drop_eq_nil_of_le (by omega)];rfl
theorem sp27 (w h:Int)(l:List Cr)(hz:l.length<1000000000)(hg:edg l):SpecP Tryd.prog G 27 [patV w h l] (.int .i64 (chkI w h l)) []:=by
 refine fnP_spec hcm hmx CP4ok ok27 rfl (ob_o27 w h l) ?_
 dsimp -failIfUnchanged -proj -eta -iota -zeta only[rd,rdw,qs,ql,qx]
 rw[bIne,unC_flat]
 have hg':∀{n:Nat},n<l.length→0≤cE l n∧cE l n≤255:=fun h=>by
  have:=hg _ (List.getElem_mem h)
  rw[cAt h]at this
  exact this
 unfold chkI
 rcases bool_or (okS w h)with hs|hs
 ·rw[hs]
  rcases bool_or (badL l)with hb|hb
  ·rw[hb]
   exact⟨fun h=>by simp at h,fun _=>⟨okA_flat hz,fun _=>⟨rfl,trivial⟩,fun h=>by simp at h⟩⟩
  ·rw[hb]
   refine⟨fun h=>by simp at h,fun _=>⟨okA_flat hz,fun h=>by simp at h,fun _=>?_⟩⟩
   simp only[ltb_iff,ltb_no,leb_iff,leb_no,len'_iff,ltn_iff,inR_i64,inR_u8,and_true,true_and,size_vals,cond_true,cond_false,implies_true,imp_self]
   refine⟨⟨0,by simp,by omega,by simp⟩,?_⟩
   rintro⟨i⟩ ⟨n,hi,hn,ha⟩
   simp only at hi ha ⊢
   subst hi
   simp only[Int.toNat_natCast]
   refine⟨fun hlt=>?_,fun hge=>⟨⟨0,by simp,by simp⟩,?_⟩⟩
   ·have g1:n<l.length:=by omega
    obtain⟨c1,c2,c3⟩:=cget g1
    rw[unit_ck (k:=cK l n)]
    have hst:=all_at (f:=unitB w h) g1
    rw[ha,Bool.true_and,cAt g1]at hst
    refine⟨by omega,by omega,by rw[flatC_len];omega,c1,c2,c3,(hg' g1).1,?_,fun hu=>?_,fun hu=>⟨by omega,⟨n+1,by omega,by omega,?_⟩,by omega⟩⟩
    ·cases(neE w h (cC l n) (cE l n) !=0)<;>rfl
    ·have:l.all (unitB w h)=false:=by
      cases hh:l.all (unitB w h)with
      |false=>rfl
      |true=>
       rw[List.all_eq_true]at hh
       have:=hh _ (List.getElem_mem g1)
       rw[cAt g1]at this
       rw[this]at hu;simp at hu
     rw[this];rfl
    ·rw[hst];simpa using hu
   ·have hnn:n=l.length:=by omega
    subst hnn
    rw[List.take_length]at ha
    rw[ha,cond_true]
    have hu:∀{n:Nat},n<l.length→sml (cC l n):=fun hn=>by
     rw[List.all_eq_true]at ha
     have h1:=ha _ (List.getElem_mem hn)
     rw[cAt hn]at h1
     exact(unit_sml h1 (hg' hn).1).1
    rintro⟨i⟩ ⟨n,hi,he⟩
    simp only at hi he ⊢
    subst hi
    rw[show((n:Int)+1-1)=n by omega,show((n:Int)+1)=((n+1:Nat):Int)by omega]
    simp only[Int.toNat_natCast]
    refine⟨fun hlt=>?_,fun hge=>?_⟩
    ·have g1:n<l.length:=by omega
     have g2:n+1<l.length:=by omega
     obtain⟨c1,c2,c3⟩:=cget g1
     obtain⟨d1,d2,d3⟩:=cget g2
     have hst:=ascB_at g2
     have q1:=hg' g1
     have q2:=hg' g2
     refine⟨by omega,by omega,by omega,by rw[flatC_len];omega,c1,c2,c3,by omega,by omega,by rw[flatC_len];omega,d1,d2,d3,⟨hu g1,hu g2,q1.1,q1.2,q2.1,q2.2⟩,fun ho=>?_,fun ho=>⟨by omega,⟨n+1,by omega,?_⟩,by omega⟩⟩
     ·have:ltb (ordI (cC l n) (cE l n) (cC l (n+1:Nat)) (cE l (n+1:Nat))) 0=false:=by rw[ltb_no];exact ho
      rw[this,Bool.false_and]at hst
      rw[← he,hst];rfl
     ·have:ltb (ordI (cC l n) (cE l n) (cC l (n+1:Nat)) (cE l (n+1:Nat))) 0=true:=by rw[ltb_iff];exact ho
      rw[this,Bool.true_and]at hst
      rw[← hst];exact he
    ·rw[← he,ascB_end (by omega)];rfl
 ·rw[hs]
  exact⟨fun _=>⟨rfl,trivial⟩,fun h=>by simp at h⟩
theorem ct27:CtOk Tryd.prog G 27 e27:=by
 intro args r h hp
 unfold e27 at h
 split at h<;>cases h
 rename_i w h a n _
 obtain⟨⟨h1,h2,h3⟩,h4⟩:=hp
 generalize unC a=l at*
 subst h1 h2
 exact(sp27 _ _ _ h3 h4).caps
/-! ### Search -/
theorem ord_cd {c e c' e':Int}(h1:0≤e∧e≤2)(h2:0≤e'∧e'≤2):(ordI c e c' e'<0↔3*c+e<3*c'+e')∧(ordI c e c' e'=0↔3*c+e=3*c'+e'):=by
 unfold ordI
 split<;>omega
end Go.Proofs.YtfpcbimohikhmaaDoor.X
