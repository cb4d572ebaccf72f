/-
 The contracts of the functions on fans: checked, given as data, compared; of places in rings.
-/
import Derived.Test.YtfafinkgmhkdmaaGreatDoorVO1Z
import Derived.Test.YtfafinkgmhkdmaaGreatDoorFPZ
set_option maxRecDepth 1000000
set_option linter.unusedVariables false
set_option linter.unusedSimpArgs false
namespace Go.Proofs.YtfafinkgmhkdmaaGreatDoor.X
open Go Go.Ab
theorem B55 {a k:List Int}{n:Nat}{s:Int}(h1:n<a.length)(h2:n<k.length):A60 (a.drop n) (k.drop n) s=if a[n]?.getD 0<1\/8-s<a[n]?.getD 0\/k[n]?.getD 0<1\/3<k[n]?.getD 0 then 1 else A60 (a.drop (n+1)) (k.drop (n+1)) (s+a[n]?.getD 0):=by
 rw[A07 h1,A07 h2];rfl
theorem B78 {a k:List Int}{n:Nat}{s:Int}(h1:a.length<=n):A60 (a.drop n) (k.drop n) s=0:=by
 rw[List.drop_of_length_le h1];rfl
theorem D3N (a k:List Int)(hz:a.length<1000000000000):SpecP Tryz.prog G 17 [A3T a k] (.int .i64 (chk a k)) []:=by
 refine A0d hcm hmx A26 D0q rfl (C4v a k) ?_;dsimp -failIfUnchanged -proj -eta -iota -zeta only[rd,rdw,qs,ql,qx];simp only[bne_iff_ne,ne_eq,bne_eq_false_iff_eq,Int.natCast_inj,and_true,true_and];refine⟨fun h=>by simp[chk,h],fun h=>⟨⟨0,rfl,by simp,by decide,by decide,rfl⟩,?_⟩⟩;rintro⟨i,s⟩ ⟨n,rfl,hn,h0,h8,hc⟩;have hc':chk a k=A60 (a.drop n) (k.drop n) s:=by rw[<- hc];simp[chk,h]
 simp at h0 h8 ⊢;refine⟨fun hlt=>?_,fun hlt=>by rw[hc',B78 (by omega)]⟩;rw[B55 hlt (by omega)]at hc';have hb:0<a.length/\0<k.length:=by omega
 refine⟨hlt,by omega,by omega,fun h1=>by rw[hc',if_pos (.inl h1)],fun h1=>⟨by omega,fun h2=>by rw[hc',if_pos (.inr (.inl h2))],fun h2=>?_⟩⟩;refine⟨by omega,by omega,by omega,fun h3=>by rw[hc',if_pos (by omega)],fun h3=>?_⟩;refine⟨by omega,by omega,by omega,fun h4=>by rw[hc',if_pos (by omega)],fun h4=>?_⟩;refine⟨by omega,by omega,⟨n+1,by omega,by omega,by omega,by omega,?_⟩,by omega⟩;rw[if_neg (by omega)]at hc';rw[<- hc'];simp[chk,h]
theorem C1R:A06 Tryz.prog G 17 e17:=by
 intro args r h hp;unfold e17 at h;split at h<;>cases h;obtain⟨rfl,rfl,hz⟩:=hp;exact(D3N _ _ hz).caps
theorem B3T {c:Int}{ks:List Int}{s:FS}{n:Nat}(h:(c.fdiv (2 ^ min n 8)).tmod 2=0):A61 c ks s n=s:=by
 unfold A61;rw[if_pos];simpa[C3p,IntKind.bits]using h
theorem B79 {c:Int}{ks:List Int}{s:FS}{n:Nat}(h:¬ (c.fdiv (2 ^ min n 8)).tmod 2=0)(hl:0<=s.last):A61 c ks s n=⟨n,s.first,s.a++[n-s.last],s.k++[A45 ks s.k.length]⟩:=by
 unfold A61;rw[if_neg,if_pos hl];simpa[C3p,IntKind.bits]using h
theorem B1C {c:Int}{ks:List Int}{s:FS}{n:Nat}(h:¬ (c.fdiv (2 ^ min n 8)).tmod 2=0)(hl:s.last<0):A61 c ks s n=⟨n,n,s.a,s.k++[A45 ks s.k.length]⟩:=by
 unfold A61;rw[if_neg,if_neg (by omega)];simpa[C3p,IntKind.bits]using h
theorem B56 {ks:List Int}{n:Nat}(h:n<ks.length):A45 ks n=1+(ks[n]?.getD 0).tmod 3:=by
 unfold A45;rw[if_pos h];simp
theorem B2Z {ks:List Int}{n:Nat}(h:ks.length<=n):A45 ks n=1:=by
 unfold A45;rw[if_neg (by omega)]
theorem D3O (c l:Int)(ks:List Int)(hk:okK ks):SpecP Tryz.prog G 16 [fV c l ks] (.agg [.full 0 (ofA c l ks).length,.full 1 (ofK c ks).length]) [C1I (ofA c l ks),C1J (ofK c ks)]:=by
 refine A0d hcm hmx A26 D0o rfl (C4w c l ks) ?_;dsimp -failIfUnchanged -proj -eta -iota -zeta only[rd,rdw,qs,ql,qx];simp only[and_true,true_and];refine⟨⟨0,rfl,by decide,rfl⟩,?_⟩;rintro⟨d,la,fi,a,k⟩ ⟨n,rfl,hn,hf⟩;have hok:=A5q (c:=c) hk n;have hnext:=A3B c ks n;rw[<- hf]at hok hnext;have hcl:=A6D hok hn;obtain⟨i1,i2,i3,i4,i5⟩:=hok;simp only at i1 i2 i3 i4 i5;have hfirst: -1<=fi/\fi<=8/\ -1<=la/\la<=8:=by
  by_cases h:0<=la
  ·have:=i2 h;omega
  ·have:=i1 (by omega);omega
 have hal:a.length<=8:=by
  by_cases h:0<=la
  ·have:=i2 h;omega
  ·have:=i1 (by omega);simp[this.2.2.1]
 have hkd:=B1A hk k.length;simp only[A0n,A0K,A0H,A09,A0Q,A1x,A0E,A03,A0w,A1t,A1q,A0F,A0I,A0r,A0J,A0G,List.getElem?_drop,beq_iff_eq,beq_eq_false_iff_ne,bne_iff_ne,bne_eq_false_iff_eq,ne_eq,Nat.zero_add,Nat.add_zero,Nat.mul_one,Int.toNat_natCast,and_true,true_and,List.length_drop,List.length_append,List.length_cons,List.length_nil,List.length_set,List.getD_eq_getElem?_getD,implies_true,iI,iL,Bool.not_eq_true',Bool.not_eq_false',Int.natCast_inj];refine⟨fun hlt=>⟨by omega,fun hb=>⟨by omega,⟨n+1,by omega,by omega,by rw[hnext,B3T hb]⟩,by omega⟩,fun hb=>⟨fun hl=>?_,fun hl=>?_⟩⟩,fun hge=>?_⟩
 ·refine⟨by omega,by omega,⟨fun h1=>?_,fun h1=>?_⟩,?_⟩
  ·rw[B56 (by omega)]at hkd ⊢;exact⟨by omega,by omega,by omega,by omega,rfl⟩
  ·exact(B2Z (by omega)).symm
  ·rintro⟨v⟩ rfl;exact⟨by omega,by omega,⟨n+1,by omega,by omega,by rw[hnext,B79 hb hl]⟩,by omega⟩
 ·refine⟨⟨fun h1=>?_,fun h1=>?_⟩,?_⟩
  ·rw[B56 (by omega)]at hkd ⊢;exact⟨by omega,by omega,by omega,by omega,rfl⟩
  ·exact(B2Z (by omega)).symm
  ·rintro⟨v⟩ rfl;exact⟨by omega,by omega,⟨n+1,by omega,by omega,by rw[hnext,B1C hb hl]⟩,by omega⟩
 ·have h8:n=8:=by omega
  subst h8;have hfk:k=ofK c ks:=by unfold ofK;rw[<- hf]
  refine⟨⟨fun h1=>⟨by omega,by omega,by omega,by rw[hfk],?_⟩,fun h1=>⟨by rw[hfk],?_⟩⟩,?_⟩
  ·rw[<- hf];simp[A0U,h1]
  ·rw[<- hf];simp[A0U];omega
  ·rintro⟨v⟩ rfl;rw[hf]at hcl;have hAl:ofA c l ks=A15 l 0 (A0U (A0P c ks 8)):=rfl;generalize A0U (A0P c ks 8)=A at*;obtain⟨hA1,hA2,hA3,hA4⟩:=hcl;have hll:=A2p l 0 A;refine⟨by rw[hfk],hfk,⟨0,by simp,by simp,by simp⟩,?_⟩;rintro⟨i,v⟩ ⟨m,rfl,hm,hv⟩;simp only at hv;have hvl:v.length=A.length:=by rw[hv];simp;omega
   simp only[A0n,A0K,A0H,A09,A0Q,A1x,A0E,A03,A0w,A1t,A1q,A0F,A0I,A0r,A0J,A0G,List.getElem?_drop,beq_iff_eq,beq_eq_false_iff_ne,bne_iff_ne,bne_eq_false_iff_eq,ne_eq,Nat.zero_add,Nat.add_zero,Nat.mul_one,Int.toNat_natCast,and_true,true_and,List.length_drop,List.length_append,List.length_cons,List.length_nil,List.length_set,List.getD_eq_getElem?_getD,implies_true,iI,iL,Bool.not_eq_true',Bool.not_eq_false',Int.natCast_inj];refine⟨fun hlt=>?_,fun hge=>?_⟩
   ·have hlt:m<A.length:=by omega
    have hg:v[m]?.getD 0=A[m]?.getD 0:=by rw[hv];exact B2V (l:=l) hlt
    have hs:=B0t (l:=l) hlt;have hsame:=B52 (l:=l) hlt;simp only[IntKind.bits]at hs hsame;rw[<- hv]at hs hsame;have h1:=hA1 _ (A8Y hlt);have h2:A[m]?.getD 0<=8:=by
     have e:=B7N (l:=A) hlt;have e2:=A2O (l:=A.drop (m+1)) fun x hx=>hA1 x (List.mem_of_mem_drop hx);have e3:(A.take m).sum+(A.drop m).sum=A.sum:=by rw[<- List.sum_append,List.take_append_drop]
     have e4:=A2O (l:=A.take m) fun x hx=>hA1 x (List.mem_of_mem_take hx);omega
    rw[hg];refine⟨by omega,fun hb=>⟨by omega,by omega,by omega,fun h3=>?_,fun h3=>?_⟩,fun hb=>?_⟩
    ·simp only[hb,h3,and_self,if_true]at hs;exact⟨by omega,by omega,by omega,by omega,by omega,by omega,by omega,by omega,⟨m+1,by omega,by omega,hs⟩,by omega⟩
    ·exact⟨by omega,⟨m+1,by omega,by omega,hsame (by omega)⟩,by omega⟩
    ·exact⟨by omega,⟨m+1,by omega,by omega,hsame (by omega)⟩,by omega⟩
   ·have hm':m=A.length:=by omega
    have:v=ofA c l ks:=by
     rw[hv,hm',hAl,<- hll];simp;rw[hll];simp
    rw[this];exact⟨rfl,rfl,rfl⟩
theorem C6x:A06 Tryz.prog G 16 e25:=by
 intro args r h hp;unfold e25 at h;split at h<;>cases h;obtain⟨rfl,hk⟩:=hp;exact(D3O _ _ _ hk).caps
theorem B20 {a b:List Int}{n:Nat}(h:n<a.length)(h2:n<b.length):eqB (a.drop n) (b.drop n)=(decide (a[n]?.getD 0=b[n]?.getD 0)&&eqB (a.drop (n+1)) (b.drop (n+1))):=by
 rw[A07 h,A07 h2];simp[eqB]
theorem B57 {a b:List Int}{n:Nat}(h:a.length<=n)(h2:b.length<=n):eqB (a.drop n) (b.drop n)=true:=by
 rw[List.drop_of_length_le h,List.drop_of_length_le h2];rfl
theorem D3P (a:List Int):SpecP Tryz.prog G 38 [.imm (.ints .i64 a) a.length none] (.imm (.ints .i64 a) a.length (some a.length)) []:=by
 refine A0d hcm hmx A26 C2b rfl (C4x a a.length) ?_;simp[Cont.size]
theorem D2v:A06 Tryz.prog G 38 (B0k .i64):=by
 intro args r h hp;unfold B0k at h;split at h
 ·rw[cond_eq_ite]at h;split at h
  ·rename_i hk;cases h;cases A0u hk;obtain rfl:=hp;exact(D3P _).caps
  ·cases h
 ·cases h
theorem C8u (a:List Int):SpecP Tryz.prog G 39 [.imm (.ints .u8 a) a.length none] (.imm (.ints .u8 a) a.length (some a.length)) []:=by
 refine A0d hcm hmx A26 C2c rfl (B5O a a.length) ?_;simp[Cont.size]
theorem C6t:A06 Tryz.prog G 39 (B0k .u8):=by
 intro args r h hp;unfold B0k at h;split at h
 ·rw[cond_eq_ite]at h;split at h
  ·rename_i hk;cases h;cases A0u hk;obtain rfl:=hp;exact(C8u _).caps
  ·cases h
 ·cases h
theorem C8R:A1Z Tryz.prog G tlA:=⟨C1R,D2v,C6t,C6x,trivial⟩
end Go.Proofs.YtfafinkgmhkdmaaGreatDoor.X
