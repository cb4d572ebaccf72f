/-
 Cones: the law of the kinds.
-/
import Derived.Test.YthiammkiobbclaaGreatDoorO19Z
import Derived.Test.YthiammkiobbclaaGreatDoorP13Z
import Derived.Test.YthiammkiobbclaaGreatDoorLVZ
set_option maxRecDepth 1000000
set_option linter.unusedVariables false
set_option linter.unusedSimpArgs false
namespace Go.Proofs.YthiammkiobbclaaGreatDoor.X
open Go Go.Ab

theorem fns_len (a:List Int)(H:List (List Int)):(fnsV a H).length=H.length*2:=by
 unfold fnsV
 induction H with
 |nil=>rfl
 |cons h H ih=>rw[List.flatMap_cons,List.length_append,ih,show(h::H).length=H.length+1 from rfl,Nat.add_mul];show 2+_=_;omega
theorem fns_get {a:List Int}:∀{H:List (List Int)} {t:Nat} {h:List Int},H[t]? =some h→((fnsV a H).drop (t*2))[0]? =some (immL .i64 a)∧((fnsV a H).drop (t*2))[1]? =some (immL .u8 h)
 |[],t,h,e=>by simp at e
 |x::H,0,h,e=>by
  simp at e
  subst e
  exact⟨rfl,rfl⟩
 |x::H,t+1,h,e=>by
  have:=fns_get (a:=a) (H:=H) (t:=t) (h:=h) (by simpa using e)
  rw[show(t+1)*2=t*2+2 by omega]
  exact this
theorem T4ok:TabOk Tryz.prog G T4k:=tabL_ok noCh_ok ⟨ct25,ctc19,ctc16,ct14,ct32,ct11l,trivial⟩
theorem sp4 (c l:Int)(ks:List Int)(hk:okK ks):SpecP Tryz.prog G 4 [fV c l ks] (.bool true) []:=by
 refine fnP_spec hcm hmx T4ok ok4 rfl (ob_o4 c l ks) ?_
 dsimp -failIfUnchanged -proj -eta -iota -zeta only[rd,rdw,qs,ql,qx]
 obtain⟨h1,h2,h3,h4⟩:=of_ok (c:=c) (l:=l) hk
 have hc:=of_chk (c:=c) (l:=l) hk
 generalize ofA c l ks=a at*
 generalize ofK c ks=k at*
 by_cases hn:(k.length:Int)≤6
 case neg=>
  have e:ltb 6 (k.length:Int)=true:=ltb_iff.2 (by omega)
  have e2:ltb 6 (k.length:Int)=false↔False:=by rw[e];simp
  simp only[e2,false_imp_iff,and_true,true_and,imp_self,implies_true]
  exact hk
 have hn:k.length≤6:=by omega
 have h0:cntE a k=0:=by
  unfold cntE ofE
  rw[if_pos hc]
  split<;>simp
 obtain⟨f1,f2,f3⟩:=allK_facts hn
 have h64:2 ^ k.length≤64:=Nat.pow_le_pow_right (by omega) hn
 have e64:(1*2 ^ min k.length 64:Int)=((2 ^ k.length:Nat):Int):=by
  rw[Nat.min_eq_left (by omega),Int.one_mul,Int.natCast_pow];rfl
 simp only[Int.toNat_natCast,e64,gR0,iI,inR_i64,and_true,true_and,leb_iff,leb_no,ltb_iff,ltb_no,ltn_iff,len'_iff,size_ints,size_vals,fns_len,beq_iff_eq,beq_eq_false_iff_ne,ne_eq,bne,Bool.not_not,Bool.not_eq_false',Bool.not_eq_true',imp_self,implies_true,forall_const,true_imp_iff,decide_eq_true_eq,beq_self_eq_true,Bool.not_true,Bool.false_eq_true,Bool.true_eq_false,false_imp_iff]
 refine⟨hk,fun _=>⟨by omega,by omega,hc,h0,⟨0,rfl,by omega,rfl,rfl⟩,?_⟩⟩
 rintro⟨M,T,S⟩ ⟨m,hm,hml,hT,hS⟩
 simp only at hm hT hS ⊢
 subst hm hT hS
 simp only[Int.toNat_natCast]
 have hbd:=kN_bd (m:=m) hc hn
 have hkm:=kN_le (a:=a) (k:=k) (m:=m)
 refine⟨by omega,fun hlt=>⟨⟨0,rfl,by omega,rfl,rfl⟩,?_⟩,fun hge=>⟨fun _ h=>h ?_,fun h=>h ?_⟩⟩
 ·have hm2:m<2 ^ k.length:=by omega
  have hma:m<(allK k.length).length:=by omega
  have hst:=kN_s (a:=a) hma
  have hg:=kN_get (a:=a) (k:=k) (m:=m) hc hn hma
  have hx:=f3 m hm2
  obtain⟨hl,h12⟩:=f2 (hM k.length m) (hM_at hma▸List.getElem_mem hma)
  have hz:∀i:Nat,i<k.length→gR (hM k.length m) i=1∨gR (hM k.length m) i=2:=fun i hi=>by
   have e:gR (hM k.length m) (i:Int)=(hM k.length m)[i]'(by omega):=by
    unfold gR;rw[Int.toNat_natCast,List.getElem?_eq_getElem (by omega)];rfl
   rw[e];exact h12 _ (List.getElem_mem _)
  generalize hM k.length m=h at*
  rintro⟨I,F,H⟩ ⟨i,hi,hil,hF,hH⟩
  simp only at hi hF hH ⊢
  subst hi hF hH
  simp only[Int.toNat_natCast]
  refine⟨fun hlt2=>?_,fun hge2=>?_⟩
  ·have hi2:i<k.length:=by omega
   rw[show((k.length:Int)-1-(i:Int)).toNat=k.length-1-i by omega,← hx i hi2]
   have hz:=hz i hi2
   have hf:=fitT_s k h i
   have htk:List.take i h++[gR h i]=List.take (i+1) h:=by
    have e:gR h (i:Int)=h[i]'(by omega):=by
     unfold gR;rw[Int.toNat_natCast,List.getElem?_eq_getElem (by omega)];rfl
    rw[List.take_add_one,List.getElem?_eq_getElem (by omega),e];rfl
   generalize gR h i=x at*
   have hxr:inR .u8 x=true:=by rcases hz with rfl|rfl<;>rfl
   have htl:(List.take i h).length=i:=by rw[List.length_take];omega
   have htl2:(List.take i h++[x]).length=i+1:=by rw[List.length_append,htl];rfl
   simp only[htl,htl2]
   rw[htk]
   refine⟨by omega,by omega,by omega,by omega,hxr,fun ht=>⟨by omega,by omega,by omega,by rw[List.length_drop];omega,fun h3'=>⟨by omega,by omega,trivial,trivial,⟨i+1,by omega,by omega,?_,rfl⟩,by omega⟩,fun h3'=>⟨by omega,by omega,by omega,by rw[List.length_drop];omega,by omega,by omega,trivial,trivial,⟨i+1,by omega,by omega,?_,rfl⟩,by omega⟩⟩,fun ht=>⟨by omega,by omega,trivial,trivial,⟨i+1,by omega,by omega,?_,rfl⟩,by omega⟩⟩
   ·rw[hf,ht,h3'];rfl
   ·rw[hf,ht,beq_false_of_ne h3',Bool.true_and,Bool.false_or]
   ·rw[hf,ht];rfl
  ·have hik:i=k.length:=by omega
   subst hik
   rw[List.take_of_length_le (by omega)]
   have hok:okD a h=true:=okD_of h3 (by omega) fun x hx=>by have:=h12 x hx;omega
   have hdc:dcd a h=0:=by
    unfold okD at hok
    exact beq_iff_eq.1 hok
   refine⟨by omega,fun h=>h hdc,fun _=>⟨fun hfi=>?_,fun hfi=>⟨fun hfo=>?_,fun hfo=>?_⟩⟩⟩
   ·have:isK a k h=false:=by unfold isK;rw[hfi];rfl
    rw[this,if_neg (by decide),List.append_nil]at hst
    exact⟨by omega,⟨m+1,by omega,by omega,by rw[hst],by rw[hst]⟩,by omega⟩
   ·rw[hok,Bool.true_and]at hfo
    have:isK a k h=false:=by unfold isK;rw[hfi,hfo];rfl
    rw[this,if_neg (by decide),List.append_nil]at hst
    exact⟨by omega,⟨m+1,by omega,by omega,by rw[hst],by rw[hst]⟩,by omega⟩
   ·rw[hok,Bool.true_and]at hfo
    have hk1:isK a k h=true:=by unfold isK;rw[hfi,hfo];rfl
    rw[hk1,if_pos rfl]at hst
    have hg:=hg hk1
    have htl:(kN a k m).length<(kndsL a k).length:=(List.getElem?_eq_some_iff.1 hg).1
    have hkA:kA a k ((kN a k m).length:Nat)=h:=by unfold kA;rw[Int.toNat_natCast,hg];rfl
    have hfn:=fns_get (a:=a) hg
    have hhm:h∈kndsL a k:=List.mem_of_getElem? hg
    have hle:leb ((kndsL a k).length:Int) ((kN a k m).length:Int)=false:=leb_no.2 (by omega)
    have hs2:=(knds_facts hc hhm).2.2.2.2.2
    have hcp:=knds_pos hc hhm
    have hc2:cntE a h=0:=by
     unfold cntE ofE
     rw[if_pos (altS_iff.1 hs2).1]
     split<;>simp
    have hcl:=cw_le hs2 fun e=>by
     rw[e]at h1
     have:ones.length=8:=rfl
     omega
    have e1:eqB a a=true:=decide_eq_true rfl
    have e2:eqB h h=true:=decide_eq_true rfl
    have e3:((a.length:Int)==(k.length:Int))=true:=beq_iff_eq.2 (by omega)
    have e4:((h.length:Int)==(k.length:Int))=true:=beq_iff_eq.2 (by omega)
    have hsa:=sumC_app a (kN a k m) h
    rw[← hst]at hsa
    have hln:(kN a k (m+1)).length=(kN a k m).length+1:=by rw[hst,List.length_append];rfl
    simp only[hkA,hle,e1,e2,e3,e4,hc2,cond_true,cond_false,Bool.and_true,Bool.not_true,Bool.not_false,true_imp_iff,Bool.false_eq_true,false_imp_iff,true_and,and_true,not_true_eq_false]
    refine⟨fun _=>by omega,fun _=>by omega,fun _=>hfn.1,fun _=>hfn.2,fun _=>⟨by omega,by omega⟩,by omega,by omega,by omega,hfn.1,by omega,by omega,by omega,by rw[List.getElem?_drop];exact hfn.2,by omega,fun h=>by omega,fun _=>⟨by omega,by omega,by omega,⟨m+1,by omega,by omega,by rw[hln];omega,hsa.symm⟩,by omega⟩⟩
 ·rw[kN_all hc hn (by omega),knds_sum hc hn]
 ·rw[kN_all hc hn (by omega)]
end Go.Proofs.YthiammkiobbclaaGreatDoor.X
