/-
 The law on stacks that are moved.
-/
import Derived.Test.YtmnaghfndigfkaaDoorMPZ
import Derived.Test.YtmnaghfndigfkaaDoorHEZ
set_option maxRecDepth 1000000
set_option linter.unusedVariables false
set_option linter.unusedSimpArgs false
namespace Go.Proofs.YtmnaghfndigfkaaDoor.X
open Go Go.Ab

theorem TMaok:TabOk Tryd.prog G TMa:=tabL_ok noCh_ok ⟨ct15,ct54b,ct55,ct21,trivial⟩
theorem TMbok:TabOk Tryd.prog G TMb:=tabL_ok noCh_ok ⟨ct15,ct54o,ct55,ct56,ct57,ct21,trivial⟩
theorem TMcok:TabOk Tryd.prog G TMc:=tabL_ok noCh_ok ⟨ct15,ct54k,ct55,ct56,ct57,ct19,ct58,ct21,trivial⟩
theorem stO_vld {l:List Sk}(hr:rawT l):vldT (stO l):=by
 intro s hs
 unfold stO at hs
 obtain⟨u,hu,rfl⟩:=List.mem_map.1 hs
 obtain⟨⟨q1,q2,q3,q4⟩,q5⟩:=hr u (List.mem_of_mem_take hu)
 unfold i8P at q1 q2
 obtain⟨⟨x,y,q⟩,ks⟩:=u
 simp only at q1 q2 q3 q4
 have e:q.tmod 4=q%4:=Int.tmod_eq_emod_of_nonneg q3
 show vldC (x,y,q.tmod 4)=true∧0≤q.tmod 4
 rw[e]
 unfold vldC
 rw[decide_eq_true_iff]
 simp only
 omega
theorem stO_smK (l:List Sk):∀s∈stO l,smK s.2:=fun s hs=>by have:=stO_lay s hs;unfold smK;omega
theorem vldT_q {l:List Sk}(h:vldT l):∀s∈l,0≤s.1.2.2∧s.1.2.2≤3:=fun s hs=>by
 have hq:=h s hs
 have:=hq.1
 unfold vldC at this
 rw[decide_eq_true_iff]at this
 exact⟨hq.2,this.2.2.2.2⟩
theorem mvS_vld {t a b:Int}(h:isT t){l:List Sk}(hv:vldT l)(hA:allM t a b l=true):vldT (mvS t a b l):=by
 intro s hs
 unfold mvS at hs
 obtain⟨s',h1,rfl⟩:=List.mem_map.1 hs
 have hq:=vldT_q hv s' h1
 exact⟨(List.all_eq_true.1 hA) s' h1,(mvQ_sd h hq.1 hq.2).1.1⟩
theorem stT_vld {l:List Sk}(hv:vldT l):vldT (stT l):=fun s hs=>hv s ((stT_mem l).1 hs)
theorem stT_smK {l:List Sk}(hk:∀s∈l,smK s.2):∀s∈stT l,smK s.2:=fun s hs=>hk s ((stT_mem l).1 hs)
theorem mvS_smK {t a b:Int}{l:List Sk}(hk:∀s∈l,smK s.2):∀s∈mvS t a b l,smK s.2:=fun s hs=>by
 unfold mvS at hs
 obtain⟨s',h1,rfl⟩:=List.mem_map.1 hs
 exact hk s' h1
theorem back_all {t a b:Int}(h:isT t){l:List Sk}(hv:vldT l):allM (ivT t) (ivX t a b) (ivY t a b) (stT (mvS t a b l))=true:=by
 refine List.all_eq_true.2 fun s hs=>?_
 have hs:=(stT_mem _).1 hs
 unfold mvS at hs
 obtain⟨s',h1,rfl⟩:=List.mem_map.1 hs
 have hq:=vldT_q hv s' h1
 show vldC (mvC _ _ _ (mvC t a b s'.1))=true
 rw[mv_inv h hq.1 hq.2]
 exact(hv s' h1).1
theorem mvB_iff {t a b x y q:Int}(h:isT t)(h0:0≤q)(h3:q≤3):mvB t a b x y q=true↔¬ (mvX' t a x y< -4096)∧¬ (4096<mvX' t a x y)∧¬ (mvY' t b x y< -4096)∧¬ (4096<mvY' t b x y):=by
 have:=(mvQ_sd h h0 h3).1
 unfold mvB vldC
 rw[decide_eq_true_iff]
 simp only
 omega
/-- One more has been moved. -/
theorem nx13 {t a b:Int}{l:List Sk}{n:Nat}(g:n<l.length)(hA:allM t a b (l.take n)=true)(hB:mvB t a b (tX l n) (tY l n) (tQ l n)=true):
  allM t a b (l.take (n+1))=true∧flatT (mvS t a b (l.take n))++[.int .i64 (mvX' t a (tX l n) (tY l n)),.int .i64 (mvY' t b (tX l n) (tY l n)),.int .u8 (mvQ t (tQ l n)),.imm (.ints .i64 (tKh l n)) (tKh l n).length none]=flatT (mvS t a b (l.take (n+1))):=by
 refine⟨(st54 g hB hA).1,?_⟩
 rw[ttake g,mvS_app,flatT_app]
 rfl
theorem eqK_refl (l:List Int):eqK l l=true:=eqK_iff.2 rfl
theorem sp13 (l:List Sk)(t a b:Int)(hr:rawT l)(ht:0≤t∧t≤255):SpecP Tryd.prog G 13 [.imm (.vals (flatR l)) l.length none,.agg [.int .u8 t,.int .i64 a,.int .i64 b]] (.bool true) []:=by
 cases hV:mvV t a b with
 |false=>
  refine fnP_spec hcm hmx TMaok ok13 rfl (ob_o13a l t a b) ?_
  rw[unR,hV]
  (repeat' (with_reducible apply And.intro))
  all_goals first|rfl|exact hr|omega|trivial
 |true=>
  have hm:=V_mvO hV ht.1
  have hL:=stO_len l
  have hv:=stO_vld hr
  have hk:=stO_smK l
  have hok:=okTC_lsk hL hk
  cases hA:allM t a b (stO l)with
  |false=>
   refine fnP_spec hcm hmx TMbok ok13 rfl (ob_o13b l t a b) ?_
   simp only[unR,unT_flat,hV]
   generalize stO l=L at*
   simp only[ltb_iff,ltb_no,leb_iff,leb_no,len'_iff,ltn_iff,inR_i64,and_true,true_and,size_vals,iI,List.drop_zero,List.drop_drop,List.getElem?_drop,Nat.add_zero]
   (repeat' (with_reducible apply And.intro))
   all_goals try first|rfl|exact hr|exact hm|exact hok|exact hv|exact hL|exact hA|omega|trivial|exact⟨0,rfl,by omega,rfl,rfl,rfl⟩
   rintro⟨i,o,n⟩ ⟨m,hi,hn,hB,ho,hmn⟩
   simp only at hi ho hmn ⊢
   subst hi ho hmn
   simp only[Int.toNat_natCast]
   refine⟨fun hlt=>?_,fun hge=>?_⟩
   ·have g:n<L.length:=by omega
    obtain⟨a0,a1,a2,a3⟩:=tgetE g
    have hq:=vldT_q hv _ (tmem g)
    have hvq:=hv _ (tmem g)
    simp only at hq hvq
    have hb:=mvB_iff (a:=a) (b:=b) (x:=tX L n) (y:=tY L n) hm.1 hq.1 hq.2
    (repeat' (with_reducible apply And.intro))
    all_goals try first|rfl|omega|trivial|exact a0|exact a1|exact a2|exact a3|exact hm.1|exact hm.2|exact hm|exact hvq|exact hvq.1|exact hvq.2|(rw[flatT_len];omega)
    ·exact fun _=>trivial
    ·refine fun c1=>⟨fun _=>trivial,fun c2=>⟨fun _=>trivial,fun c3=>⟨fun _=>trivial,fun c4=>?_⟩⟩⟩
     obtain⟨p1,p2⟩:=nx13 g hB (hb.2 ⟨by omega,by omega,by omega,by omega⟩)
     (repeat' (with_reducible apply And.intro))
     all_goals first|omega|exact a3|(rw[flatT_len];omega)|exact⟨n+1,by omega,by omega,p1,p2,rfl⟩
   ·have en:n=L.length:=by omega
    rw[en,List.take_length,hA]at hB
    cases hB
  |true=>
   refine fnP_spec hcm hmx TMcok ok13 rfl (ob_o13c l t a b) ?_
   have hback:=mv_back (a:=a) (b:=b) hm.1 (vldT_q hv)
   have hiv:=iv_mvO hm
   have vM:=mvS_vld hm.1 hv hA
   have kM:=mvS_smK (t:=t) (a:=a) (b:=b) hk
   have lM:=mvS_len t a b (stO l)
   have aB:=back_all (a:=a) (b:=b) hm.1 hv
   have hoT:okT (flatT (stO l)) (stO l).length:=okT_flat (by omega) hk
   simp only[unR,unT_flat,unT_flatC,hV,hback]
   generalize stO l=L at*
   have vG:=stT_vld vM
   have kG:=stT_smK kM
   have lG:(stT (mvS t a b L)).length=L.length:=by rw[stT_len,lM]
   have kB:=stT_smK hk
   have lB:=stT_len L
   have hoG:okTC (flatC (stT (mvS t a b L))) L.length:=by rw[← lG];exact okTC_C (by omega) kG
   have hoM:okT (flatT (mvS t a b L)) L.length:=by rw[← lM];exact okT_flat (by omega) kM
   simp only[ltb_iff,ltb_no,leb_iff,leb_no,len'_iff,ltn_iff,inR_i64,and_true,true_and,size_vals,iI,List.drop_zero,List.drop_drop,List.getElem?_drop,Nat.add_zero]
   (repeat' (with_reducible apply And.intro))
   all_goals try first|rfl|exact hr|exact hm|exact hok|exact hv|exact hL|exact hA|omega|trivial|exact⟨0,rfl,by omega,rfl,rfl,rfl⟩
   rintro⟨i,o,n⟩ ⟨m,hi,hn,hB,ho,hmn⟩
   simp only at hi ho hmn ⊢
   subst hi ho hmn
   simp only[Int.toNat_natCast,unT_flat]
   refine⟨fun hlt=>?_,fun hge=>?_⟩
   ·have g:n<L.length:=by omega
    obtain⟨a0,a1,a2,a3⟩:=tgetE g
    have hq:=vldT_q hv _ (tmem g)
    have hvq:=hv _ (tmem g)
    simp only at hq hvq
    have hb:=mvB_iff (a:=a) (b:=b) (x:=tX L n) (y:=tY L n) hm.1 hq.1 hq.2
    have hbt:mvB t a b (tX L n) (tY L n) (tQ L n)=true:=(List.all_eq_true.1 hA) _ (tmem g)
    obtain⟨b1,b2,b3,b4⟩:=hb.1 hbt
    obtain⟨p1,p2⟩:=nx13 g hB hbt
    (repeat' (with_reducible apply And.intro))
    all_goals try first|rfl|omega|trivial|exact a0|exact a1|exact a2|exact a3|exact hm.1|exact hm.2|exact hm|exact hvq|exact hvq.1|exact hvq.2|(rw[flatT_len];omega)|(rw[Bool.not_eq_true',ltb_no];omega)|exact⟨n+1,by omega,by omega,p1,p2,rfl⟩
   ·have en:n=L.length:=by omega
    subst en
    rw[List.take_length]at hB ⊢
    simp only[lG,lB]
    (repeat' (with_reducible apply And.intro))
    all_goals try first|rfl|exact hoM|(simp;done)|exact⟨0,rfl,by omega⟩
    rintro⟨i⟩ ⟨n,hi,hn⟩
    simp only at hi ⊢
    subst hi
    simp only[Int.toNat_natCast]
    refine⟨fun hlt=>?_,fun hge=>?_⟩
    ·have g:n<(stT (mvS t a b L)).length:=by omega
     obtain⟨a0,a1,a2,a3⟩:=tgetE g
     obtain⟨c0,c1,c2,c3⟩:=cget g
     have hs:=kG _ (tmem g)
     simp only at hs
     simp only[beq_self_eq_true,Bool.and_true,Bool.not_true,Bool.not_false,eqK_refl,Nat.beq_refl]
     (repeat' (with_reducible apply And.intro))
     all_goals try first|rfl|omega|trivial|exact a0|exact a1|exact a2|exact a3|exact c0|exact c1|exact c2|exact c3|exact hs|(rw[flatT_len];omega)|(rw[flatC_len];omega)|exact⟨n+1,by omega,by omega⟩
    ·(repeat' (with_reducible apply And.intro))
     all_goals try first|rfl|exact hm|exact hiv|exact hoG|exact vG|exact hL|exact aB|exact hoT|(simp;done)|exact⟨0,rfl,by omega⟩|trivial
     rintro⟨i⟩ ⟨n,hi,hn⟩
     simp only at hi ⊢
     subst hi
     simp only[Int.toNat_natCast]
     refine⟨fun hlt=>?_,fun hge=>?_⟩
     ·have g:n<(stT L).length:=by omega
      obtain⟨a0,a1,a2,a3⟩:=tgetE g
      obtain⟨c0,c1,c2,c3⟩:=cget g
      have hs:=kB _ (tmem g)
      simp only at hs
      simp only[beq_self_eq_true,Bool.and_true,Bool.not_true,Bool.not_false,eqK_refl,Nat.beq_refl]
      (repeat' (with_reducible apply And.intro))
      all_goals try first|rfl|omega|trivial|exact a0|exact a1|exact a2|exact a3|exact c0|exact c1|exact c2|exact c3|exact hs|(rw[flatT_len];omega)|(rw[flatC_len];omega)|exact⟨n+1,by omega,by omega⟩
     ·(repeat' (with_reducible apply And.intro))
      all_goals try first|rfl|trivial
end Go.Proofs.YtmnaghfndigfkaaDoor.X
