/-
 Cones: the law of counting.
-/
import Derived.Test.YthiammkiobbclaaGreatDoorO17Z
import Derived.Test.YthiammkiobbclaaGreatDoorC17Z
import Derived.Test.YthiammkiobbclaaGreatDoorP12Z
import Derived.Test.YthiammkiobbclaaGreatDoorLVZ
set_option maxRecDepth 1000000
set_option linter.unusedVariables false
set_option linter.unusedSimpArgs false
namespace Go.Proofs.YthiammkiobbclaaGreatDoor.X
open Go Go.Ab

theorem wysN_s {a k:List Int}{m:Nat}(hm:m<(ordL a.length).length):wysN a k (m+1)=wysN a k m++(if wayB a k (oA a m)=true then[oA a m]else[]):=by
 unfold wysN oA
 rw[Int.toNat_natCast,List.take_add_one,List.getElem?_eq_getElem hm,List.filter_append]
 refine congrArg _ ?_
 show List.filter _ [_]=if wayB a k (ordL a.length)[m]=true then[(ordL a.length)[m]]else[]
 rw[List.filter_cons,List.filter_nil]
theorem hdL_app {L M:List (List Int)}(h:L≠[]):hdL (L++M)=hdL L:=by
 cases L with
 |nil=>exact absurd rfl h
 |cons x r=>rfl
theorem wysA_n {a k:List Int}{m:Nat}(hm:m=(ordL a.length).length)(h:altS a k=true):wysA a k=wysN a k m:=by
 unfold wysA wysN
 rw[h,cond_true,List.take_of_length_le (by omega)]
theorem wysA_0 {a k:List Int}(h:altS a k=false):wysA a k=[]:=by
 unfold wysA;rw[h];rfl
theorem ct12o:CtOk Tryz.prog G 12 e12o:=by
 intro args r h hp
 unfold e12o at h
 split at h<;>cases h
 rename_i n
 obtain⟨q,rfl⟩:∃q:Nat,n=q:=⟨n.toNat,by have:0≤n∧n≤6:=hp;omega⟩
 have hp:0≤(q:Int)∧(q:Int)≤6:=hp
 rw[Int.toNat_natCast]
 exact ctc12 q (by omega)
theorem T3ok:TabOk Tryz.prog G T3:=tabL_ok noCh_ok ⟨ct25,ct12o,ctc13,ctc14,ctc15,ctc16,ctc17,ct24,ct11l,trivial⟩
theorem sp3 (c l:Int)(ks:List Int)(hk:okK ks):SpecP Tryz.prog G 3 [fV c l ks] (.bool true) []:=by
 refine fnP_spec hcm hmx T3ok ok3 rfl (ob_o3 c l ks) ?_
 dsimp -failIfUnchanged -proj -eta -iota -zeta only[rd,rdw,qs,ql,qx]
 obtain⟨h1,h2,h3,h4⟩:=of_ok (c:=c) (l:=l) hk
 have hc:=of_chk (c:=c) (l:=l) hk
 generalize ofA c l ks=a at*
 generalize ofK c ks=k at*
 have hR:List.range.loop a.length []=List.range a.length:=rfl
 simp only[hR,Int.toNat_natCast,iI,inR_i64,and_true,true_and,leb_iff,leb_no,ltb_iff,ltb_no,ltn_iff,size_vals,oV_len,beq_iff_eq,beq_eq_false_iff_ne,ne_eq,bne,Bool.not_not,Bool.not_eq_false',Bool.not_eq_true',imp_self,implies_true,forall_const,true_imp_iff,decide_eq_true_eq]
 refine⟨hk,fun h6=>⟨⟨by omega,by omega⟩,⟨⟨0,rfl,by omega,rfl,rfl,fun _=>rfl⟩,?_⟩,?_⟩⟩
 ·have h7:=ordL_le a.length (by omega)
  rintro⟨i,n,w⟩ ⟨m,hi,hm,hn,hw,hz⟩
  simp only at hi hn hw ⊢
  subst hi hn hw
  simp only[Int.toNat_natCast]
  have hwl:(wysN a k m).length≤m:=by
   have:=List.length_filter_le (fun o=>wayB a k o) ((ordL a.length).take m)
   rw[List.length_take]at this
   unfold wysN;omega
  refine⟨fun hlt=>⟨by omega,fun hs=>?_,fun hs=>?_⟩,fun hge=>?_⟩
  ·have hml:m<(ordL a.length).length:=by omega
   have hoA:oA a (m:Int)=(ordL a.length)[m]:=by
    unfold oA;rw[Int.toNat_natCast,List.getElem?_eq_getElem hml];rfl
   have hget:(List.drop m (oV (ordL a.length)))[0]? =some (AV.imm (Cont.ints .i64 (oA a m)) (oA a m).length none):=by
    rw[List.getElem?_drop,Nat.add_zero]
    unfold oV
    rw[List.getElem?_map,List.getElem?_eq_getElem hml,hoA];rfl
   have hp:(oA a (m:Int)).Perm (idO a.length):=(ordL_mem _ _).1 (hoA▸List.getElem_mem hml)
   have hA:okA a:=(alt_facts hs).2.1|>fun h=>h3
   have hst:=wysN_s (k:=k) hml
   have hwb:wayB a k (oA a m)=(bif chkE a k (oA a m)==0 then fstB (raysL a) (oA a m)else false):=by
    unfold wayB;cases chkE a k (oA a m)==0<;>rfl
   rw[← hwb]
   refine⟨by omega,by omega,by omega,hget,⟨h3,h1,hp⟩,fun _=>by omega,fun _=>by omega,fun _=>by omega,fun _=>hget,fun _=>⟨h3,hp⟩,by cases chkE a k (oA a m)==0<;>rfl,fun hw=>?_,fun hw=>?_⟩
   ·rw[if_pos hw]at hst
    refine⟨fun h0=>⟨by omega,by omega,by omega,hget,by omega,by omega,⟨m+1,by omega,by omega,?_,?_,fun h=>?_⟩,by omega⟩,fun h0=>⟨by omega,by omega,⟨m+1,by omega,by omega,?_,?_,fun h=>?_⟩,by omega⟩⟩
    ·rw[hst,List.length_append];rfl
    ·rw[hst,List.length_eq_zero_iff.1 (by omega:(wysN a k m).length=0)];rfl
    ·rw[hs]at h;cases h
    ·rw[hst,List.length_append];rfl
    ·rw[hst,hdL_app]
     intro h
     rw[h]at h0
     exact h0 rfl
    ·rw[hs]at h;cases h
   ·rw[if_neg (by rw[hw];decide),List.append_nil]at hst
    exact⟨by omega,⟨m+1,by omega,by omega,by rw[hst],by rw[hst],fun h=>by rw[hs]at h;cases h⟩,by omega⟩
  ·have:=hz hs
   subst this
   rw[wysA_0 hs]
   exact⟨rfl,rfl⟩
  ·cases hs:altS a k with
   |false=>
    have:=hz hs
    subst this
    rw[wysA_0 hs]
    exact⟨rfl,rfl⟩
   |true=>
    rw[wysA_n (m:=m) (by omega) hs]
    exact⟨rfl,rfl⟩
 ·rintro⟨n,w⟩ ⟨hn,hw⟩
  simp only at hn hw ⊢
  subst hn hw
  have hcE:cntE a k=0:=by
   unfold cntE ofE
   rw[if_pos hc]
   split<;>simp
  have hcw:=cw_wys a k
  have hof:ofE a k=0∨ofE a k=14:=by
   unfold ofE
   rw[if_pos hc]
   split<;>simp
  have hfE:fstE a k=if wysA a k=[]then 7 else 0:=by
   unfold fstE
   rw[if_pos hof,hcw]
  have hfL:fstL a k=hdL (wysA a k):=by
   unfold fstL
   rw[hcw];rfl
  rw[hcE,hcw,hfE,hfL]
  refine⟨by omega,by omega,rfl,rfl,fun h0=>?_,fun h0=>?_⟩
  ·rw[List.length_eq_zero_iff.1 (by omega:(wysA a k).length=0)]
   exact⟨rfl,rfl⟩
  ·have hne:wysA a k≠[]:=fun h=>h0 (by rw[h];rfl)
   refine⟨if_neg hne,?_,rfl⟩
   cases hL:wysA a k with
   |nil=>exact absurd hL hne
   |cons x r=>
    have hx:x∈wysA a k:=by rw[hL];exact List.mem_cons_self ..
    unfold wysA at hx
    cases hs:altS a k with
    |false=>rw[hs]at hx;cases hx
    |true=>
     rw[hs,cond_true]at hx
     have:=ordL_el (List.mem_filter.1 hx).1
     show x.length<_
     omega
end Go.Proofs.YthiammkiobbclaaGreatDoor.X
