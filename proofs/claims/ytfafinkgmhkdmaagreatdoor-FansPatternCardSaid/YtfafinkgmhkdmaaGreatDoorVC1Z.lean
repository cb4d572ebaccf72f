/-
 The contracts of the functions on fans: checked, given as data, compared; of places in rings.
-/
import Derived.Test.YtfafinkgmhkdmaaGreatDoorVO1Z
import Derived.Test.YtfafinkgmhkdmaaGreatDoorVMZ
set_option maxRecDepth 1000000
set_option linter.unusedVariables false
set_option linter.unusedSimpArgs false
namespace Go.Proofs.YtfafinkgmhkdmaaGreatDoor.X
open Go Go.Ab

theorem chkL_step {a k:List Int}{n:Nat}{s:Int}(h1:n<a.length)(h2:n<k.length):chkL (a.drop n) (k.drop n) s=if a[n]?.getD 0<1∨8-s<a[n]?.getD 0∨k[n]?.getD 0<1∨3<k[n]?.getD 0 then 1 else chkL (a.drop (n+1)) (k.drop (n+1)) (s+a[n]?.getD 0):=by
 rw[drop_step h1,drop_step h2];rfl
theorem chkL_end {a k:List Int}{n:Nat}{s:Int}(h1:a.length≤n):chkL (a.drop n) (k.drop n) s=0:=by
 rw[List.drop_of_length_le h1];rfl

theorem sp17 (a k:List Int)(hz:a.length<1000000000000):SpecP Tryz.prog G 17 [fanV a k] (.int .i64 (chk a k)) []:=by
 refine fnP_spec hcm hmx T0ok ok17 rfl (ob_o17 a k) ?_
 simp only[bne_iff_ne,ne_eq,bne_eq_false_iff_eq,Int.natCast_inj,and_true,true_and]
 refine⟨fun h=>by simp[chk,h],fun h=>⟨⟨0,rfl,by simp,by decide,by decide,rfl⟩,?_⟩⟩
 rintro⟨i,s⟩ ⟨n,rfl,hn,h0,h8,hc⟩
 have hc':chk a k=chkL (a.drop n) (k.drop n) s:=by rw[← hc];simp[chk,h]
 simp at h0 h8 ⊢
 refine⟨fun hlt=>?_,fun hlt=>by rw[hc',chkL_end (by omega)]⟩
 rw[chkL_step hlt (by omega)]at hc'
 have hb:0<a.length∧0<k.length:=by omega
 refine⟨hlt,by omega,by omega,fun h1=>by rw[hc',if_pos (.inl h1)],fun h1=>⟨by omega,fun h2=>by rw[hc',if_pos (.inr (.inl h2))],fun h2=>?_⟩⟩
 refine⟨by omega,by omega,by omega,fun h3=>by rw[hc',if_pos (by omega)],fun h3=>?_⟩
 refine⟨by omega,by omega,by omega,fun h4=>by rw[hc',if_pos (by omega)],fun h4=>?_⟩
 refine⟨by omega,by omega,⟨n+1,by omega,by omega,by omega,by omega,?_⟩,by omega⟩
 rw[if_neg (by omega)]at hc'
 rw[← hc'];simp[chk,h]
theorem ct17:CtOk Tryz.prog G 17 e17:=by
 intro args r h hp
 unfold e17 at h
 split at h<;>cases h
 obtain⟨rfl,rfl,hz⟩:=hp
 exact(sp17 _ _ hz).caps

theorem fstep_skip {c:Int}{ks:List Int}{s:FS}{n:Nat}(h:(c.fdiv (2 ^ min n 8)).tmod 2=0):fstep c ks s n=s:=by
 unfold fstep;rw[if_pos];simpa[bitZ,IntKind.bits]using h
theorem fstep_on {c:Int}{ks:List Int}{s:FS}{n:Nat}(h:¬ (c.fdiv (2 ^ min n 8)).tmod 2=0)(hl:0≤s.last):fstep c ks s n=⟨n,s.first,s.a++[n-s.last],s.k++[kdOf ks s.k.length]⟩:=by
 unfold fstep;rw[if_neg,if_pos hl];simpa[bitZ,IntKind.bits]using h
theorem fstep_first {c:Int}{ks:List Int}{s:FS}{n:Nat}(h:¬ (c.fdiv (2 ^ min n 8)).tmod 2=0)(hl:s.last<0):fstep c ks s n=⟨n,n,s.a,s.k++[kdOf ks s.k.length]⟩:=by
 unfold fstep;rw[if_neg,if_neg (by omega)];simpa[bitZ,IntKind.bits]using h
theorem kdOf_in {ks:List Int}{n:Nat}(h:n<ks.length):kdOf ks n=1+(ks[n]?.getD 0).tmod 3:=by
 unfold kdOf;rw[if_pos h];simp
theorem kdOf_out {ks:List Int}{n:Nat}(h:ks.length≤n):kdOf ks n=1:=by
 unfold kdOf;rw[if_neg (by omega)]

theorem sp25 (c l:Int)(ks:List Int)(hk:okK ks):SpecP Tryz.prog G 16 [fV c l ks] (.agg [.full 0 (ofA c l ks).length,.full 1 (ofK c ks).length]) [blkI (ofA c l ks),blkK (ofK c ks)]:=by
 refine fnP_spec hcm hmx T0ok ok16 rfl (ob_o25 c l ks) ?_
 simp only[and_true,true_and]
 refine⟨⟨0,rfl,by decide,rfl⟩,?_⟩
 rintro⟨d,la,fi,a,k⟩ ⟨n,rfl,hn,hf⟩
 have hok:=ffold_ok (c:=c) hk n
 have hnext:=ffold_succ c ks n
 rw[← hf]at hok hnext
 have hcl:=fclose_ok hok hn
 obtain⟨i1,i2,i3,i4,i5⟩:=hok
 simp only at i1 i2 i3 i4 i5
 have hfirst: -1≤fi∧fi≤8∧ -1≤la∧la≤8:=by
  by_cases h:0≤la
  ·have:=i2 h;omega
  ·have:=i1 (by omega);omega
 have hal:a.length≤8:=by
  by_cases h:0≤la
  ·have:=i2 h;omega
  ·have:=i1 (by omega);simp[this.2.2.1]
 have hkd:=kdOf_ok hk k.length
 simp only[ltb_iff,ltb_no,leb_iff,leb_no,ltn_iff,ltn_no,len'_iff,len'_no,inR_i64,inR_u8,inR_i32,size_ints,size_bools,size_vals,size_cells,getD_drop,List.getElem?_drop,beq_iff_eq,beq_eq_false_iff_ne,bne_iff_ne,bne_eq_false_iff_eq,ne_eq,Nat.zero_add,Nat.add_zero,Nat.mul_one,Int.toNat_natCast,and_true,true_and,List.length_drop,List.length_append,List.length_cons,List.length_nil,List.length_set,List.getD_eq_getElem?_getD,implies_true,iI,iL,Bool.not_eq_true',Bool.not_eq_false',Int.natCast_inj]
 refine⟨fun hlt=>⟨by omega,fun hb=>⟨by omega,⟨n+1,by omega,by omega,by rw[hnext,fstep_skip hb]⟩,by omega⟩,fun hb=>⟨fun hl=>?_,fun hl=>?_⟩⟩,fun hge=>?_⟩
 ·refine⟨by omega,by omega,⟨fun h1=>?_,fun h1=>?_⟩,?_⟩
  ·rw[kdOf_in (by omega)]at hkd ⊢
   exact⟨by omega,by omega,by omega,by omega,rfl⟩
  ·exact(kdOf_out (by omega)).symm
  ·rintro⟨v⟩ rfl
   exact⟨by omega,by omega,⟨n+1,by omega,by omega,by rw[hnext,fstep_on hb hl]⟩,by omega⟩
 ·refine⟨⟨fun h1=>?_,fun h1=>?_⟩,?_⟩
  ·rw[kdOf_in (by omega)]at hkd ⊢
   exact⟨by omega,by omega,by omega,by omega,rfl⟩
  ·exact(kdOf_out (by omega)).symm
  ·rintro⟨v⟩ rfl
   exact⟨by omega,by omega,⟨n+1,by omega,by omega,by rw[hnext,fstep_first hb hl]⟩,by omega⟩
 ·have h8:n=8:=by omega
  subst h8
  have hfk:k=ofK c ks:=by unfold ofK;rw[← hf]
  refine⟨⟨fun h1=>⟨by omega,by omega,by omega,by rw[hfk],?_⟩,fun h1=>⟨by rw[hfk],?_⟩⟩,?_⟩
  ·rw[← hf];simp[fclose,h1]
  ·rw[← hf];simp[fclose];omega
  ·rintro⟨v⟩ rfl
   rw[hf]at hcl
   have hAl:ofA c l ks=lessL l 0 (fclose (ffold c ks 8)):=rfl
   generalize fclose (ffold c ks 8)=A at*
   obtain⟨hA1,hA2,hA3,hA4⟩:=hcl
   have hll:=lessL_len l 0 A
   refine⟨by rw[hfk],hfk,⟨0,by simp,by simp,by simp⟩,?_⟩
   rintro⟨i,v⟩ ⟨m,rfl,hm,hv⟩
   simp only at hv
   have hvl:v.length=A.length:=by rw[hv];simp;omega
   simp only[ltb_iff,ltb_no,leb_iff,leb_no,ltn_iff,ltn_no,len'_iff,len'_no,inR_i64,inR_u8,inR_i32,size_ints,size_bools,size_vals,size_cells,getD_drop,List.getElem?_drop,beq_iff_eq,beq_eq_false_iff_ne,bne_iff_ne,bne_eq_false_iff_eq,ne_eq,Nat.zero_add,Nat.add_zero,Nat.mul_one,Int.toNat_natCast,and_true,true_and,List.length_drop,List.length_append,List.length_cons,List.length_nil,List.length_set,List.getD_eq_getElem?_getD,implies_true,iI,iL,Bool.not_eq_true',Bool.not_eq_false',Int.natCast_inj]
   refine⟨fun hlt=>?_,fun hge=>?_⟩
   ·have hlt:m<A.length:=by omega
    have hg:v[m]?.getD 0=A[m]?.getD 0:=by rw[hv];exact less_get (l:=l) hlt
    have hs:=less_step (l:=l) hlt
    have hsame:=less_same (l:=l) hlt
    simp only[IntKind.bits]at hs hsame
    rw[← hv]at hs hsame
    have h1:=hA1 _ (getD_mem hlt)
    have h2:A[m]?.getD 0≤8:=by
     have e:=sum_step (l:=A) hlt
     have e2:=sum_nonneg (l:=A.drop (m+1)) fun x hx=>hA1 x (List.mem_of_mem_drop hx)
     have e3:(A.take m).sum+(A.drop m).sum=A.sum:=by rw[← List.sum_append,List.take_append_drop]
     have e4:=sum_nonneg (l:=A.take m) fun x hx=>hA1 x (List.mem_of_mem_take hx)
     omega
    rw[hg]
    refine⟨by omega,fun hb=>⟨by omega,by omega,by omega,fun h3=>?_,fun h3=>?_⟩,fun hb=>?_⟩
    ·simp only[hb,h3,and_self,if_true]at hs
     exact⟨by omega,by omega,by omega,by omega,by omega,by omega,by omega,by omega,⟨m+1,by omega,by omega,hs⟩,by omega⟩
    ·exact⟨by omega,⟨m+1,by omega,by omega,hsame (by omega)⟩,by omega⟩
    ·exact⟨by omega,⟨m+1,by omega,by omega,hsame (by omega)⟩,by omega⟩
   ·have hm':m=A.length:=by omega
    have:v=ofA c l ks:=by
     rw[hv,hm',hAl,← hll]
     simp
     rw[hll];simp
    rw[this]
    exact⟨rfl,rfl,rfl⟩
theorem ct25:CtOk Tryz.prog G 16 e25:=by
 intro args r h hp
 unfold e25 at h
 split at h<;>cases h
 obtain⟨rfl,hk⟩:=hp
 exact(sp25 _ _ _ hk).caps

theorem eqB_step {a b:List Int}{n:Nat}(h:n<a.length)(h2:n<b.length):eqB (a.drop n) (b.drop n)=(decide (a[n]?.getD 0=b[n]?.getD 0)&&eqB (a.drop (n+1)) (b.drop (n+1))):=by
 rw[drop_step h,drop_step h2]
 simp[eqB]
theorem eqB_end {a b:List Int}{n:Nat}(h:a.length≤n)(h2:b.length≤n):eqB (a.drop n) (b.drop n)=true:=by
 rw[List.drop_of_length_le h,List.drop_of_length_le h2];rfl
theorem sp41 (a:List Int):SpecP Tryz.prog G 38 [.imm (.ints .i64 a) a.length none] (.imm (.ints .i64 a) a.length (some a.length)) []:=by
 refine fnP_spec hcm hmx T0ok ok38 rfl (ob_o41 a a.length) ?_
 simp[Cont.size]
theorem ct41:CtOk Tryz.prog G 38 (eClip .i64):=by
 intro args r h hp
 unfold eClip at h
 split at h
 ·rw[cond_eq_ite]at h
  split at h
  ·rename_i hk
   cases h
   cases beqK_ok hk
   obtain rfl:=hp
   exact(sp41 _).caps
  ·cases h
 ·cases h
theorem sp61 (a:List Int):SpecP Tryz.prog G 39 [.imm (.ints .u8 a) a.length none] (.imm (.ints .u8 a) a.length (some a.length)) []:=by
 refine fnP_spec hcm hmx T0ok ok39 rfl (ob_o61 a a.length) ?_
 simp[Cont.size]
theorem ct61:CtOk Tryz.prog G 39 (eClip .u8):=by
 intro args r h hp
 unfold eClip at h
 split at h
 ·rw[cond_eq_ite]at h
  split at h
  ·rename_i hk
   cases h
   cases beqK_ok hk
   obtain rfl:=hp
   exact(sp61 _).caps
  ·cases h
 ·cases h
theorem tlAok:CtsOk Tryz.prog G tlA:=⟨ct17,ct41,ct61,ct25,trivial⟩
end Go.Proofs.YtfafinkgmhkdmaaGreatDoor.X
