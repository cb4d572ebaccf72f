/-
 Cones: the law of deciding.
-/
import Derived.Test.YthiammkiobbclaaGreatDoorO14Z
import Derived.Test.YthiammkiobbclaaGreatDoorC12Z
import Derived.Test.YthiammkiobbclaaGreatDoorP8Z
set_option maxRecDepth 1000000
set_option linter.unusedVariables false
set_option linter.unusedSimpArgs false
namespace Go.Proofs.YthiammkiobbclaaGreatDoor.X
open Go Go.Ab

theorem chkL_kinds:∀(a k k':List Int) (s:Int),a.length=k.length→k'.length=k.length→(∀x∈k',1≤x∧x≤3)→chkL a k s=0→chkL a k' s=0
 |[],k,k',s,_,_,_,_=>by cases k'<;>rfl
 |x::a,[],k',s,h,_,_,_=>by simp at h
 |x::a,y::k,[],s,_,h,_,_=>by simp at h
 |x::a,y::k,z::k',s,h1,h2,h3,h=>by
  have hz:=h3 z (List.mem_cons_self ..)
  simp only[chkL]at h ⊢
  split at h
  ·cases h
  ·rename_i hn
   rw[if_neg (by omega)]
   exact chkL_kinds a k k' _ (by simpa using h1) (by simpa using h2) (fun w hw=>h3 w (List.mem_cons_of_mem _ hw)) h
theorem chk_kinds {a k k':List Int}(h:chk a k=0)(hk:a.length=k.length)(h2:k'.length=a.length)(h3:∀x∈k',1≤x∧x≤3):chk a k'=0:=by
 unfold chk at h ⊢
 rw[if_pos hk]at h
 rw[if_pos h2.symm]
 exact chkL_kinds a k k' 0 hk (by omega) h3 h
theorem kdI_two (n:Int)(rk:List Int)(i:Int):kdI n rk i=1∨kdI n rk i=2:=by
 unfold kdI
 split<;>split<;>simp
theorem kdL_two {a o:List Int}:∀x∈kdL a o,x=1∨x=2:=fun x hx=>by
 unfold kdL at hx
 obtain⟨i,_,rfl⟩:=List.mem_map.1 hx
 exact kdI_two _ _ _
/-- An order in which nothing crosses is right for the kinds that it asks for. -/
theorem dec_ok {a k o:List Int}(h:altS a k=true)(ho:o.Perm (idO a.length))(hc:chkE a k o≠12):
  crsB a.length (raysL a) (rkL o)=false∧dcdE a k o=0∧dcdB a k o=true∧vldE a (kdL a o) o=0:=by
 obtain⟨h1,h2,h3,h4⟩:=alt_facts h
 have A:=alt_of h
 have hv:=vld_chk h ho
 have hcr:crsB a.length (raysL a) (rkL o)=false:=by
  rw[bad_iff A h2 ho]
  cases hb:anyN a.length (badF a.length (raysL a) o)with
  |false=>rfl
  |true=>unfold chkE at hc;rw[hb]at hc;simp at hc
 have hval:chkE a k o=0∨chkE a k o=13:=by
  unfold chkE at hc ⊢
  rw[← bad_iff A h2 ho,hcr]
  split
  ·rename_i h;cases h
  ·split<;>simp
 have hkl:=kdL_len a o
 have hk3:∀x∈kdL a o,1≤x∧x≤3:=fun x hx=>by rcases kdL_two x hx with h|h<;>omega
 have hs':altS a (kdL a o)=true:=altS_iff.2 ⟨chk_kinds (altS_iff.1 h).1 h1 hkl hk3,(altS_iff.1 h).2⟩
 refine⟨hcr,?_,?_,?_⟩
 ·unfold dcdE;rw[hv]
  rcases hval with e|e<;>rw[e]<;>rfl
 ·unfold dcdB;rw[hv]
  rcases hval with e|e<;>rw[e]<;>rfl
 ·rw[vld_chk hs' ho]
  unfold chkE
  rw[← bad_iff A h2 ho,hcr,← wr_iff A h2 hkl hk3 ho,wrg_fit A h2 hkl ho]
  have:fitB (kdL a o) (kdL a o)=true:=by
   unfold fitB
   rw[anyN_noI.2 fun i hi=>?_]
   ·rfl
   ·simp
  rw[this];rfl
theorem dsm_step {h:List Int}{m:Nat}(hm:m<h.length):dsm (h.take (m+1))=dsm (h.take m)+(3-2*gR h m):=by
 have e:gR h (m:Int)=h[m]:=by
  unfold gR;rw[Int.toNat_natCast,List.getElem?_eq_getElem hm];rfl
 unfold dsm
 rw[e,List.take_add_one,List.getElem?_eq_getElem hm,List.map_append,List.sum_append]
 simp
theorem dsm_bd:∀(h:List Int),(∀x∈h,x=1∨x=2)→ -(h.length:Int)≤dsm h∧dsm h≤h.length
 |[],_=>by simp[dsm]
 |x::h,hx=>by
  have h1:=hx x (List.mem_cons_self ..)
  have h2:=dsm_bd h fun y hy=>hx y (List.mem_cons_of_mem _ hy)
  unfold dsm at h2 ⊢
  rw[List.map_cons,List.sum_cons,List.length_cons]
  omega
theorem T7ok:TabOk Tryz.prog G T7:=tabL_ok noCh_ok ⟨ct25,ctc25,ctc13,ctc14,ctc29,ct24,ctc27,ct11t,trivial⟩
theorem sp7 (c l:Int)(ks ys:List Int)(hk:okK ks)(hy:∀y∈ys,0≤y∧y<256):SpecP Tryz.prog G 7 [fV c l ks,.imm (.ints .u8 ys) ys.length none] (.bool true) []:=by
 refine fnP_spec hcm hmx T7ok ok7 rfl (ob_o7 c l ks ys) ?_
 dsimp -failIfUnchanged -proj -eta -iota -zeta only[rd,rdw,qs,ql,qx]
 obtain⟨h1,h2,h3,h4⟩:=of_ok (c:=c) (l:=l) hk
 have hc:=of_chk (c:=c) (l:=l) hk
 generalize ofA c l ks=a at*
 generalize ofK c ks=k at*
 have hp:=ox_perm hy a.length
 rw[h1]at hp
 have hpl:=perm_len hp
 have e1:∀l,bLs true l=l:=fun l=>rfl
 have e2:∀l,bLs false l=[]:=fun l=>rfl
 have hkl:=kdL_len a (oxL ys k.length)
 have hk2:=kdL_two (a:=a) (o:=oxL ys k.length)
 rw[show Int.toNat (k.length:Int)=k.length from Int.toNat_natCast _]
 obtain⟨o,ho⟩:∃o,oxL ys k.length=o:=⟨_,rfl⟩
 rw[ho]at hp hpl hkl hk2 ⊢
 simp only[and_true,true_and]
 refine⟨hk,⟨hy,by omega,by omega⟩,fun hs=>⟨fun h12=>?_,fun h12=>?_⟩,fun hs=>?_⟩
 ·have h12:=beq_iff_eq.1 h12
  have hv:vldE a k o=12:=by rw[vld_chk hs (by rw[h1];exact hp),h12]
  have hd:dcdE a k o=12:=by unfold dcdE;rw[hv];rfl
  have hb:dcdB a k o=false:=by unfold dcdB;rw[hv];rfl
  simp only[hs,h12,hd,hb,e2]
  simp
  exact⟨by omega,⟨h3,h1,by rw[h1];exact hp⟩,by omega,by omega⟩
 ·have h12:=beq_eq_false_iff_ne.1 h12
  obtain⟨d1,d2,d3,d4⟩:=dec_ok hs (by rw[h1];exact hp) h12
  have hin:=kd_in hs (by rw[h1];exact hp) d1
  obtain⟨s1,s2,s3⟩:=ks_two hs _ hin
  generalize hkd:kdL a o=h at*
  simp only[hs,d2,d3,e1,d4,gR0,inR_i64,and_true,true_and,leb_iff,leb_no,ltb_iff,ltb_no,ltn_iff,len'_iff,size_ints,List.length_drop,bne,Bool.not_not,beq_iff_eq,beq_eq_false_iff_ne,ne_eq,Bool.not_eq_true',Bool.not_eq_false',Bool.not_true,forall_const,true_imp_iff,Bool.false_eq_true,Bool.true_eq_false,false_imp_iff,decide_true,beq_self_eq_true]
  have hg:∀m:Nat,m<h.length→gR h (m:Int)=1∨gR h (m:Int)=2:=fun m hm=>by
   have e:gR h (m:Int)=h[m]:=by
    unfold gR;rw[Int.toNat_natCast,List.getElem?_eq_getElem hm];rfl
   rw[e];exact hk2 _ (List.getElem_mem hm)
  refine⟨by omega,⟨h3,h1,by rw[h1];exact hp⟩,h12,⟨by omega,by omega⟩,by omega,by omega,by omega,⟨by omega,by omega⟩,⟨0,rfl,by omega,rfl⟩,?_⟩
  rintro⟨i,d⟩ ⟨m,hi,hm,hd⟩
  simp only at hi hd ⊢
  subst hi hd
  simp only[Int.toNat_natCast]
  refine⟨fun hlt=>?_,fun hge=>⟨fun _=>trivial,fun h0=>⟨fun _=>trivial,fun h2=>⟨fun _=>trivial,fun h2'=>?_⟩⟩⟩⟩
  ·have hmh:m<h.length:=by omega
   have hgm:=hg m hmh
   have hst:=dsm_step hmh
   have hb:=dsm_bd (h.take m) fun x hx=>hk2 x (List.mem_of_mem_take hx)
   rw[List.length_take]at hb
   exact⟨by omega,by omega,by omega,by omega,fun h1'=>⟨by omega,by omega,by omega,by omega,fun h2'=>by omega,fun h2'=>⟨by omega,by omega,by omega,by omega,by omega,by omega,by omega,by omega,by omega,⟨m+1,by omega,by omega,by omega⟩,by omega⟩⟩,fun h1'=>⟨by omega,by omega,by omega,by omega,by omega,by omega,by omega,by omega,by omega,⟨m+1,by omega,by omega,by omega⟩,by omega⟩⟩
  ·rw[List.take_of_length_le (by omega)]at h2 h2'
   rcases s1 with h|h|h
   ·omega
   ·exact h2 h
   ·exact h2' h
 ·have e3:=ofE_14 hc hs
  have e4:lstE a k o=14:=by rw[lst_no (by omega),e3]
  have hv:vldE a k o=14:=by rw[vld_no (by omega),e4]
  have hd:dcdE a k o=14:=by unfold dcdE;rw[hv];rfl
  have hb:dcdB a k o=false:=by unfold dcdB;rw[hv];rfl
  simp only[hs,hd,hb,e2]
  simp
  omega
end Go.Proofs.YthiammkiobbclaaGreatDoor.X
