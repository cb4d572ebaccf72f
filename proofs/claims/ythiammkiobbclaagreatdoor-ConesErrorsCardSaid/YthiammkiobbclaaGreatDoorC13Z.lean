/-
 Cones: the law of errors.
-/
import Derived.Test.YthiammkiobbclaaGreatDoorC12Z
import Derived.Test.YthiammkiobbclaaGreatDoorO13Z
import Derived.Test.YthiammkiobbclaaGreatDoorLVZ
set_option maxRecDepth 1000000
set_option linter.unusedVariables false
set_option linter.unusedSimpArgs false
namespace Go.Proofs.YthiammkiobbclaaGreatDoor.X
open Go Go.Ab

theorem cnt_step {o:List Int}{i:Int}{m:Nat}(h:m<o.length):cntO (o.take (m+1)) i=cntO (o.take m) i+if gR o m=i then 1 else 0:=by
 have e:gR o (m:Int)=o[m]:=by
  unfold gR;rw[Int.toNat_natCast,List.getElem?_eq_getElem h];rfl
 unfold cntO
 rw[e,List.take_add_one,List.getElem?_eq_getElem h,List.filter_append,List.length_append]
 by_cases hi:o[m]=i
 ·rw[if_pos hi];simp[hi]
 ·rw[if_neg hi];simp[hi]
theorem cnt_bd (o:List Int)(i:Int):0≤cntO o i∧cntO o i≤o.length:=by
 unfold cntO
 have:=List.length_filter_le (fun x=>x==i) o
 omega
theorem once_succ {o:List Int}{m:Nat}:onceN o (m+1)=(onceN o m&&cntO o m==1):=by
 unfold onceN
 rw[List.range_succ,List.all_append]
 simp
theorem cnt_mem {o:List Int}{i:Int}(h:cntO o i=1):i∈o:=by
 unfold cntO at h
 have:0<(o.filter fun x=>x==i).length:=by omega
 obtain⟨x,hx⟩:=List.exists_mem_of_length_pos this
 obtain⟨h1,h2⟩:=List.mem_filter.1 hx
 rw[← beq_iff_eq.1 h2];exact h1
theorem cnt_nodup:∀{o:List Int} {i:Int},o.Nodup→i∈o→cntO o i=1
 |x::o,i,hn,hi=>by
  obtain⟨h1,h2⟩:=List.nodup_cons.1 hn
  unfold cntO
  by_cases e:x=i
  ·subst e
   have:o.filter (fun y=>y==x)=[]:=by
    rw[List.filter_eq_nil_iff]
    intro y hy h
    rw[beq_iff_eq.1 h]at hy;exact h1 hy
   rw[List.filter_cons_of_pos (by simp),this];rfl
  ·rcases List.mem_cons.1 hi with h|h
   ·exact absurd h.symm e
   ·rw[List.filter_cons_of_neg (by simpa using e)]
    exact cnt_nodup h2 h
theorem once_all {o:List Int}{n:Nat}(hl:o.length=n):onceN o n=allM o n:=by
 rw[Bool.eq_iff_iff,allM_iff]
 unfold onceN
 rw[List.all_eq_true]
 constructor
 ·intro h j hj
  exact cnt_mem (beq_iff_eq.1 (h j (List.mem_range.2 hj)))
 ·intro h j hj
  have hp:o.Perm (idO n):=perm_sub _ _ (idO_nodup n) (fun x hx=>by
   obtain⟨h0,h1⟩:=idO_mem.1 hx
   have:=h x.toNat (by omega)
   rwa [show((x.toNat:Nat):Int)=x by omega]at this) (by rw[idO_len,hl])
  exact beq_iff_eq.2 (cnt_nodup (perm_nodup hp) (h j (List.mem_range.1 hj)))
theorem ls8_lst {a k o:List Int}(h:ofE a k=0)(hl:o.length=a.length):ls8 a k o a.length=lstE a k o:=by
 unfold ls8 lstE
 rw[if_pos h,if_pos h,if_pos hl,once_all hl,hl]
theorem ls8_no {a k o:List Int}{m:Nat}(h:ofE a k≠0):ls8 a k o m=ofE a k:=by unfold ls8;rw[if_neg h]
theorem T8ok:TabOk Tryz.prog G T8:=tabL_ok noCh_ok ⟨ct17,ctc13,ctc26,ctc29,ctc31,ctc19,ctc27,ctc14,ctc16,ctc17,ct11l,trivial⟩
theorem alt_ofE {a k:List Int}(h:ofE a k≠0):altS a k=false:=by
 cases hs:altS a k with
 |false=>rfl
 |true=>exact absurd (ofE_0 hs) h
theorem ofE_chk {a k:List Int}(h:chk a k≠0):ofE a k=chk a k:=by unfold ofE;rw[if_neg h]
theorem knds_no {a k:List Int}(h:chk a k≠0):kndsL a k=[]:=by unfold kndsL;rw[if_neg h]
theorem cw_no' {a k:List Int}(h:altS a k=false):cwL a k=[]:=by unfold cwL;rw[h];rfl
theorem sp8 (a k o:List Int):SpecP Tryz.prog G 8 [fanV a k,.imm (.ints .i64 o) o.length none] (.bool true) []:=by
 refine fnP_spec hcm hmx T8ok ok8 rfl (ob_o8 a k o) ?_
 dsimp -failIfUnchanged -proj -eta -iota -zeta only[rd,rdw,qs,ql,qx]
 simp only[gR0,inR_i64,Int.toNat_natCast,and_true,true_and,leb_iff,leb_no,ltb_iff,ltb_no,ltn_iff,len'_iff,size_ints,List.length_drop,bne,Bool.not_not,beq_iff_eq,beq_eq_false_iff_ne,ne_eq,Bool.not_eq_true',Bool.not_eq_false',forall_const,true_imp_iff,imp_self,Bool.false_eq_true,not_true_eq_false,false_imp_iff,beq_self_eq_true]
 have hT:=lstE_vals a k o
 have hO:=ofE_vals a k
 refine⟨⟨fun _=>trivial,fun _=>⟨fun _=>trivial,fun _=>⟨fun _=>trivial,fun _=>⟨by omega,by omega,by omega⟩⟩⟩⟩,fun⟨b1,b2,b3⟩=>⟨by omega,⟨fun h=>⟨by omega,fun h'=>(ofE_14 h h').symm,fun h'=>by rw[ofE_0 h',h]⟩,fun h=>(ofE_chk h).symm⟩,?_⟩⟩
 rintro⟨w⟩ hw
 simp only at hw ⊢
 subst hw
 refine⟨⟨⟨0,rfl,by omega,?_,fun _=>rfl⟩,?_⟩,?_⟩
 ·unfold ls8
  split
  ·rename_i h;rw[h];rfl
  ·rfl
 ·rintro⟨i,w⟩ ⟨m,hi,hm,hw,h0⟩
  simp only at hi hw ⊢
  subst hi hw
  refine⟨fun hlt=>⟨fun hz=>⟨⟨0,rfl,by omega,rfl⟩,?_⟩,fun hz=>by rw[ls8_no hz,ls8_no hz]⟩,fun hge=>by rw[show m=a.length by omega]⟩
  rintro⟨q,n⟩ ⟨t,hq,ht,hn⟩
  simp only at hq hn ⊢
  subst hq hn
  have hcb:=cnt_bd (o.take t) m
  have hcl:(o.take t).length≤o.length:=by rw[List.length_take];omega
  simp only[Int.toNat_natCast]
  refine⟨fun hlt2=>⟨by omega,by omega,by omega,by omega,fun h=>?_,fun h=>?_⟩,fun hge2=>?_⟩
  ·have hs:=cnt_step (o:=o) (i:=(m:Int)) (m:=t) (by omega)
   rw[if_pos h]at hs
   exact⟨by omega,by omega,⟨t+1,by omega,by omega,hs.symm⟩,by omega⟩
  ·have hs:=cnt_step (o:=o) (i:=(m:Int)) (m:=t) (by omega)
   rw[if_neg h,Int.add_zero]at hs
   exact⟨by omega,⟨t+1,by omega,by omega,hs.symm⟩,by omega⟩
  ·rw[List.take_of_length_le (by omega)]
   have hls:∀m,ls8 a k o m=if onceN o m=true then 0 else 1:=fun m=>by unfold ls8;rw[if_pos hz]
   refine⟨fun h=>⟨by omega,⟨m+1,by omega,by omega,?_,fun h'=>absurd hz h'⟩,by omega⟩,fun h=>⟨by omega,⟨m+1,by omega,by omega,?_,fun h'=>absurd hz h'⟩,by omega⟩⟩
   ·rw[hls,once_succ,beq_false_of_ne h,Bool.and_false];rfl
   ·rw[hls,hls,once_succ,h];simp
 ·rintro⟨w⟩ hw
  simp only at hw ⊢
  subst hw
  refine⟨⟨fun hz=>⟨fun h=>?_,fun h=>ls8_lst hz (by omega)⟩,fun hz=>by rw[ls8_no hz,lst_no hz]⟩,?_⟩
  ·unfold lstE
   rw[if_pos hz,if_neg (by omega)]
  rintro⟨w⟩ hw
  simp only at hw ⊢
  have hfk:¬ chk a k=0→fldB a k=false:=fun h=>by unfold fldB;rw[knds_no h];rfl
  have hal:¬ ofE a k=0→((bLs (altS a k) (List.take a.length (raysL a))).length:Int)=0:=fun h=>by rw[alt_ofE h];rfl
  refine⟨by omega,⟨by omega,by omega⟩,⟨by omega,by omega⟩,⟨by omega,by omega⟩,⟨trivial,fun h=>⟨fun h'=>(by rw[hfk h]at h';cases h'),fun _=>⟨by rw[knds_no h];rfl,fun h'=>⟨fun h2=>h2 (hal h'),fun _=>trivial⟩,fun _=>trivial⟩⟩,fun h=>⟨fun h'=>⟨fun h2=>h2 (hal h'),fun _=>trivial⟩,fun _=>trivial⟩⟩,⟨fun h=>?_,fun h=>?_⟩,fun h=>?_,fun _=>trivial⟩
  ·obtain⟨hs,hl,hpm⟩:=lst_perm h
   obtain⟨f1,f2,f3,f4⟩:=alt_facts hs
   have hw0:w=0:=by omega
   exact⟨hw0,hw0,hw0,hw0,hw0,hw0,hw0,hw0,hw0,hw0,hw0,hw0,hw0,⟨by omega,by omega⟩,hw0,hw0,hw0,⟨f3,f1,hpm⟩,hw0,hw0,fun h'=>h' (vld_chk hs hpm),fun _=>trivial⟩
  ·have hv:=vld_no h
   have hd:dcdE a k o=lstE a k o:=by unfold dcdE;rw[hv,if_neg (by omega)]
   have hb:dcdB a k o=false:=by
    unfold dcdB
    rw[hv,beq_false_of_ne h,beq_false_of_ne (by omega)];rfl
   have e2:∀l,bLs false l=[]:=fun l=>rfl
   subst hw
   simp only[hv,hd,hb,e2,h]
   simp[h]
   omega
  ·have e0:=ofE_chk h
   have hs:=alt_ofE (a:=a) (k:=k) (by omega)
   have hc:=cw_no' hs
   have hcv:=chk_vals a k
   refine⟨by omega,by omega,?_,?_,by rw[hc];rfl,by unfold fstL;rw[hc];rfl⟩
   ·unfold cntE;rw[e0,if_neg (by omega)]
   ·unfold fstE;rw[e0,if_neg (by omega)]
end Go.Proofs.YthiammkiobbclaaGreatDoor.X
