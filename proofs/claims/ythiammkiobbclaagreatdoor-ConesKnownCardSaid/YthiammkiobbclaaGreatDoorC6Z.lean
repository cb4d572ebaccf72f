/-
 The contracts of the functions on fans: checked, given as data, compared; of places in rings.
-/
import Derived.Test.YthiammkiobbclaaGreatDoorMZ
set_option maxRecDepth 1000000
set_option linter.unusedVariables false
set_option linter.unusedSimpArgs false
namespace Go.Proofs.YthiammkiobbclaaGreatDoor.X
open Go Go.Ab
theorem B7a {a k:List Int}{n:Nat}{s:Int}(h1:n<a.length)(h2:n<k.length):A4s (a.drop n) (k.drop n) s=if a[n]?.getD 0<1\/8-s<a[n]?.getD 0\/k[n]?.getD 0<1\/3<k[n]?.getD 0 then 1 else A4s (a.drop (n+1)) (k.drop (n+1)) (s+a[n]?.getD 0):=by
 rw[A1A h1,A1A h2];rfl
theorem B9m {a k:List Int}{n:Nat}{s:Int}(h1:a.length<=n):A4s (a.drop n) (k.drop n) s=0:=by
 rw[List.drop_of_length_le h1];rfl
theorem D5U (a k:List Int)(hz:a.length<1000000000000):SpecP Tryz.prog G 30 [A2W a k] (.int .i64 (chk a k)) []:=by
 refine A0e hcm hmx A3w D2Q rfl (C5l a k) ?_;dsimp -failIfUnchanged -proj -eta -iota -zeta only[rd,rdw,qs,ql,qx];simp only[bne_iff_ne,ne_eq,bne_eq_false_iff_eq,Int.natCast_inj,and_true,true_and];refine⟨fun h=>by simp[chk,h],fun h=>⟨⟨0,rfl,by simp,by decide,by decide,rfl⟩,?_⟩⟩;rintro⟨i,s⟩ ⟨n,rfl,hn,h0,h8,hc⟩;have hc':chk a k=A4s (a.drop n) (k.drop n) s:=by rw[<- hc];simp[chk,h]
 simp at h0 h8 ⊢;refine⟨fun hlt=>?_,fun hlt=>by rw[hc',B9m (by omega)]⟩;rw[B7a hlt (by omega)]at hc';have hb:0<a.length/\0<k.length:=by omega
 refine⟨hlt,by omega,by omega,fun h1=>by rw[hc',if_pos (.inl h1)],fun h1=>⟨by omega,fun h2=>by rw[hc',if_pos (.inr (.inl h2))],fun h2=>?_⟩⟩;refine⟨by omega,by omega,by omega,fun h3=>by rw[hc',if_pos (by omega)],fun h3=>?_⟩;refine⟨by omega,by omega,by omega,fun h4=>by rw[hc',if_pos (by omega)],fun h4=>?_⟩;refine⟨by omega,by omega,⟨n+1,by omega,by omega,by omega,by omega,?_⟩,by omega⟩;rw[if_neg (by omega)]at hc';rw[<- hc'];simp[chk,h]
theorem C91:A1j Tryz.prog G 30 e17:=by
 intro args r h hp;unfold e17 at h;split at h<;>cases h;obtain⟨rfl,rfl,hz⟩:=hp;exact(D5U _ _ hz).caps
theorem B5g {c:Int}{ks:List Int}{s:FS}{n:Nat}(h:(c.fdiv (2 ^ min n 8)).tmod 2=0):A9I c ks s n=s:=by
 unfold A9I;rw[if_pos];simpa[C8n,IntKind.bits]using h
theorem B9n {c:Int}{ks:List Int}{s:FS}{n:Nat}(h:¬ (c.fdiv (2 ^ min n 8)).tmod 2=0)(hl:0<=s.last):A9I c ks s n=⟨n,s.first,s.a++[n-s.last],s.k++[A9H ks s.k.length]⟩:=by
 unfold A9I;rw[if_neg,if_pos hl];simpa[C8n,IntKind.bits]using h
theorem B2w {c:Int}{ks:List Int}{s:FS}{n:Nat}(h:¬ (c.fdiv (2 ^ min n 8)).tmod 2=0)(hl:s.last<0):A9I c ks s n=⟨n,n,s.a,s.k++[A9H ks s.k.length]⟩:=by
 unfold A9I;rw[if_neg,if_neg (by omega)];simpa[C8n,IntKind.bits]using h
theorem B7b {ks:List Int}{n:Nat}(h:n<ks.length):A9H ks n=1+(ks[n]?.getD 0).tmod 3:=by
 unfold A9H;rw[if_pos h];simp
theorem B3Y {ks:List Int}{n:Nat}(h:ks.length<=n):A9H ks n=1:=by
 unfold A9H;rw[if_neg (by omega)]
theorem D5V (c l:Int)(ks:List Int)(hk:okK ks):SpecP Tryz.prog G 10 [fV c l ks] (.agg [.full 0 (ofA c l ks).length,.full 1 (ofK c ks).length]) [B8i (ofA c l ks),C35 (ofK c ks)]:=by
 refine A0e hcm hmx A3w D2g rfl (C5m c l ks) ?_;dsimp -failIfUnchanged -proj -eta -iota -zeta only[rd,rdw,qs,ql,qx];simp only[and_true,true_and];refine⟨⟨0,rfl,by decide,rfl⟩,?_⟩;rintro⟨d,la,fi,a,k⟩ ⟨n,rfl,hn,hf⟩;have hok:=A9N (c:=c) hk n;have hnext:=A8r c ks n;rw[<- hf]at hok hnext;have hcl:=B1k hok hn;obtain⟨i1,i2,i3,i4,i5⟩:=hok;simp only at i1 i2 i3 i4 i5;have hfirst: -1<=fi/\fi<=8/\ -1<=la/\la<=8:=by
  by_cases h:0<=la
  ·have:=i2 h;omega
  ·have:=i1 (by omega);omega
 have hal:a.length<=8:=by
  by_cases h:0<=la
  ·have:=i2 h;omega
  ·have:=i1 (by omega);simp[this.2.2.1]
 have hkd:=B68 hk k.length;simp only[A0h,A0x,A0k,A0M,A0u,A2c,A0t,A1u,A0p,A12,A1v,A0i,A0F,A0y,A0H,A0Q,List.getElem?_drop,beq_iff_eq,beq_eq_false_iff_ne,bne_iff_ne,bne_eq_false_iff_eq,ne_eq,Nat.zero_add,Nat.add_zero,Nat.mul_one,Int.toNat_natCast,and_true,true_and,List.length_drop,List.length_append,List.length_cons,List.length_nil,List.length_set,List.getD_eq_getElem?_getD,implies_true,iI,iL,Bool.not_eq_true',Bool.not_eq_false',Int.natCast_inj];refine⟨fun hlt=>⟨by omega,fun hb=>⟨by omega,⟨n+1,by omega,by omega,by rw[hnext,B5g hb]⟩,by omega⟩,fun hb=>⟨fun hl=>?_,fun hl=>?_⟩⟩,fun hge=>?_⟩
 ·refine⟨by omega,by omega,⟨fun h1=>?_,fun h1=>?_⟩,?_⟩
  ·rw[B7b (by omega)]at hkd ⊢;exact⟨by omega,by omega,by omega,by omega,rfl⟩
  ·exact(B3Y (by omega)).symm
  ·rintro⟨v⟩ rfl;exact⟨by omega,by omega,⟨n+1,by omega,by omega,by rw[hnext,B9n hb hl]⟩,by omega⟩
 ·refine⟨⟨fun h1=>?_,fun h1=>?_⟩,?_⟩
  ·rw[B7b (by omega)]at hkd ⊢;exact⟨by omega,by omega,by omega,by omega,rfl⟩
  ·exact(B3Y (by omega)).symm
  ·rintro⟨v⟩ rfl;exact⟨by omega,by omega,⟨n+1,by omega,by omega,by rw[hnext,B2w hb hl]⟩,by omega⟩
 ·have h8:n=8:=by omega
  subst h8;have hfk:k=ofK c ks:=by unfold ofK;rw[<- hf]
  refine⟨⟨fun h1=>⟨by omega,by omega,by omega,by rw[hfk],?_⟩,fun h1=>⟨by rw[hfk],?_⟩⟩,?_⟩
  ·rw[<- hf];simp[A01,h1]
  ·rw[<- hf];simp[A01];omega
  ·rintro⟨v⟩ rfl;rw[hf]at hcl;have hAl:ofA c l ks=A2z l 0 (A01 (A1k c ks 8)):=rfl;generalize A01 (A1k c ks 8)=A at*;obtain⟨hA1,hA2,hA3,hA4⟩:=hcl;have hll:=A2L l 0 A;refine⟨by rw[hfk],hfk,⟨0,by simp,by simp,by simp⟩,?_⟩;rintro⟨i,v⟩ ⟨m,rfl,hm,hv⟩;simp only at hv;have hvl:v.length=A.length:=by rw[hv];simp;omega
   simp only[A0h,A0x,A0k,A0M,A0u,A2c,A0t,A1u,A0p,A12,A1v,A0i,A0F,A0y,A0H,A0Q,List.getElem?_drop,beq_iff_eq,beq_eq_false_iff_ne,bne_iff_ne,bne_eq_false_iff_eq,ne_eq,Nat.zero_add,Nat.add_zero,Nat.mul_one,Int.toNat_natCast,and_true,true_and,List.length_drop,List.length_append,List.length_cons,List.length_nil,List.length_set,List.getD_eq_getElem?_getD,implies_true,iI,iL,Bool.not_eq_true',Bool.not_eq_false',Int.natCast_inj];refine⟨fun hlt=>?_,fun hge=>?_⟩
   ·have hlt:m<A.length:=by omega
    have hg:v[m]?.getD 0=A[m]?.getD 0:=by rw[hv];exact B3X (l:=l) hlt
    have hs:=B1m (l:=l) hlt;have hsame:=B69 (l:=l) hlt;simp only[IntKind.bits]at hs hsame;rw[<- hv]at hs hsame;have h1:=hA1 _ (A6a hlt);have h2:A[m]?.getD 0<=8:=by
     have e:=B9l (l:=A) hlt;have e2:=A1o (l:=A.drop (m+1)) fun x hx=>hA1 x (List.mem_of_mem_drop hx);have e3:(A.take m).sum+(A.drop m).sum=A.sum:=by rw[<- List.sum_append,List.take_append_drop]
     have e4:=A1o (l:=A.take m) fun x hx=>hA1 x (List.mem_of_mem_take hx);omega
    rw[hg];refine⟨by omega,fun hb=>⟨by omega,by omega,by omega,fun h3=>?_,fun h3=>?_⟩,fun hb=>?_⟩
    ·simp only[hb,h3,and_self,if_true]at hs;exact⟨by omega,by omega,by omega,by omega,by omega,by omega,by omega,by omega,⟨m+1,by omega,by omega,hs⟩,by omega⟩
    ·exact⟨by omega,⟨m+1,by omega,by omega,hsame (by omega)⟩,by omega⟩
    ·exact⟨by omega,⟨m+1,by omega,by omega,hsame (by omega)⟩,by omega⟩
   ·have hm':m=A.length:=by omega
    have:v=ofA c l ks:=by
     rw[hv,hm',hAl,<- hll];simp;rw[hll];simp
    rw[this];exact⟨rfl,rfl,rfl⟩
theorem C2l:A1j Tryz.prog G 10 e25:=by
 intro args r h hp;unfold e25 at h;split at h<;>cases h;obtain⟨rfl,hk⟩:=hp;exact(D5V _ _ _ hk).caps
theorem A3g {x:Int}{k:List Int}{n:Nat}(h:n<k.length):A2P x (k.drop n) n=if x=k[n]?.getD 0 then(n:Int)else A2P x (k.drop (n+1)) ((n+1:Nat):Int):=by
 rw[A1A h];rfl
theorem A9O {x:Int}{k:List Int}{n:Nat}(h:k.length<=n):A2P x (k.drop n) n= -1:=by
 rw[List.drop_of_length_le h];rfl
theorem D5W (k:List Int)(x:Int)(hz:k.length<1000000000000):SpecP Tryz.prog G 105 [.imm (.ints .u8 k) k.length none,.int .u8 x] (.int .i64 (A2P x k 0)) []:=by
 refine A0e hcm hmx A3w C4O rfl (C5n k x) ?_;dsimp -failIfUnchanged -proj -eta -iota -zeta only[rd,rdw,qs,ql,qx];simp only[A0h,A0x,A0k,A0M,A0u,A2c,A0t,A1u,A0p,A12,A1v,A0i,A0F,A0y,A0H,A0Q,List.getElem?_drop,beq_iff_eq,beq_eq_false_iff_ne,bne_iff_ne,bne_eq_false_iff_eq,ne_eq,Nat.zero_add,Nat.add_zero,Nat.mul_one,Int.toNat_natCast,and_true,true_and,List.length_drop,List.length_append,List.length_cons,List.length_nil,List.length_set,List.getD_eq_getElem?_getD,implies_true,iI,iL,Bool.not_eq_true',Bool.not_eq_false',Int.natCast_inj];refine⟨⟨0,rfl,by omega,rfl⟩,?_⟩;rintro⟨i⟩ ⟨n,rfl,hn,hi⟩;simp only[Int.toNat_natCast]at hi ⊢;refine⟨fun hlt=>⟨by omega,by omega,by omega,by omega,fun he=>?_,fun he=>⟨by omega,⟨n+1,by omega,by omega,?_⟩,by omega⟩⟩,fun hge=>?_⟩
 ·rw[A3g (by omega),if_pos he]at hi;exact hi
 ·rw[A3g (by omega),if_neg he]at hi;exact hi
 ·rw[A9O (by omega)]at hi;exact hi
theorem D5X (k:List Int)(x:Int)(hz:k.length<1000000000000):SpecP Tryz.prog G 90 [.imm (.ints .i64 k) k.length none,.int .i64 x] (.int .i64 (A2P x k 0)) []:=by
 refine A0e hcm hmx A3w C9a rfl (C5o k x) ?_;dsimp -failIfUnchanged -proj -eta -iota -zeta only[rd,rdw,qs,ql,qx];simp only[A0h,A0x,A0k,A0M,A0u,A2c,A0t,A1u,A0p,A12,A1v,A0i,A0F,A0y,A0H,A0Q,List.getElem?_drop,beq_iff_eq,beq_eq_false_iff_ne,bne_iff_ne,bne_eq_false_iff_eq,ne_eq,Nat.zero_add,Nat.add_zero,Nat.mul_one,Int.toNat_natCast,and_true,true_and,List.length_drop,List.length_append,List.length_cons,List.length_nil,List.length_set,List.getD_eq_getElem?_getD,implies_true,iI,iL,Bool.not_eq_true',Bool.not_eq_false',Int.natCast_inj];refine⟨⟨0,rfl,by omega,rfl⟩,?_⟩;rintro⟨i⟩ ⟨n,rfl,hn,hi⟩;simp only[Int.toNat_natCast]at hi ⊢;refine⟨fun hlt=>⟨by omega,by omega,by omega,by omega,fun he=>?_,fun he=>⟨by omega,⟨n+1,by omega,by omega,?_⟩,by omega⟩⟩,fun hge=>?_⟩
 ·rw[A3g (by omega),if_pos he]at hi;exact hi
 ·rw[A3g (by omega),if_neg he]at hi;exact hi
 ·rw[A9O (by omega)]at hi;exact hi
theorem D5Y:A1j Tryz.prog G 105 (C36 .u8):=by
 intro args r h hp;unfold C36 at h;split at h
 ·rw[cond_eq_ite]at h;split at h
  ·rename_i hk;rw[Bool.and_eq_true]at hk;cases h;cases A0J hk.1;cases A0J hk.2;obtain⟨rfl,hz⟩:=hp;exact(D5W _ _ hz).caps
  ·cases h
 ·cases h
theorem D5Z:A1j Tryz.prog G 90 (C36 .i64):=by
 intro args r h hp;unfold C36 at h;split at h
 ·rw[cond_eq_ite]at h;split at h
  ·rename_i hk;rw[Bool.and_eq_true]at hk;cases h;cases A0J hk.1;cases A0J hk.2;obtain⟨rfl,hz⟩:=hp;exact(D5X _ _ hz).caps
  ·cases h
 ·cases h
theorem A37 {a b:List Int}{n:Nat}(h:n<a.length)(h2:n<b.length):eqB (a.drop n) (b.drop n)=(decide (a[n]?.getD 0=b[n]?.getD 0)&&eqB (a.drop (n+1)) (b.drop (n+1))):=by
 rw[A1A h,A1A h2];simp[eqB]
theorem B2x {a b:List Int}{n:Nat}(h:a.length<=n)(h2:b.length<=n):eqB (a.drop n) (b.drop n)=true:=by
 rw[List.drop_of_length_le h,List.drop_of_length_le h2];rfl
theorem B2y {a b:List Int}(h:a.length≠b.length):eqB a b=false:=by
 simp only[eqB,decide_eq_false_iff_not];rintro rfl;exact h rfl
theorem D50 (a b:List Int)(hz:a.length<1000000000000):SpecP Tryz.prog G 44 [.imm (.ints .i64 a) a.length none,.imm (.ints .i64 b) b.length none] (.bool (eqB a b)) []:=by
 refine A0e hcm hmx A3w D3f rfl (C5p a b) ?_;dsimp -failIfUnchanged -proj -eta -iota -zeta only[rd,rdw,qs,ql,qx];simp only[A0h,A0x,A0k,A0M,A0u,A2c,A0t,A1u,A0p,A12,A1v,A0i,A0F,A0y,A0H,A0Q,List.getElem?_drop,beq_iff_eq,beq_eq_false_iff_ne,bne_iff_ne,bne_eq_false_iff_eq,ne_eq,Nat.zero_add,Nat.add_zero,Nat.mul_one,Int.toNat_natCast,and_true,true_and,List.length_drop,List.length_append,List.length_cons,List.length_nil,List.length_set,List.getD_eq_getElem?_getD,implies_true,iI,iL,Bool.not_eq_true',Bool.not_eq_false',Int.natCast_inj];refine⟨fun h=>(B2y h).symm,fun hl=>⟨⟨0,rfl,by omega,rfl⟩,?_⟩⟩;rintro⟨i⟩ ⟨n,rfl,hn,hi⟩;simp only[Int.toNat_natCast]at hi ⊢;refine⟨fun hlt=>⟨by omega,by omega,by omega,by omega,by omega,by omega,by omega,by omega,fun he=>?_,fun he=>⟨by omega,⟨n+1,by omega,by omega,?_⟩,by omega⟩⟩,fun hge=>?_⟩
 ·rw[A37 (by omega) (by omega),decide_eq_false he]at hi;exact hi
 ·rw[A37 (by omega) (by omega),decide_eq_true he]at hi;exact hi
 ·rw[B2x (by omega) (by omega)]at hi;exact hi
theorem D51 (a b:List Int)(hz:a.length<1000000000000):SpecP Tryz.prog G 45 [.imm (.ints .u8 a) a.length none,.imm (.ints .u8 b) b.length none] (.bool (eqB a b)) []:=by
 refine A0e hcm hmx A3w D3h rfl (C5q a b) ?_;dsimp -failIfUnchanged -proj -eta -iota -zeta only[rd,rdw,qs,ql,qx];simp only[A0h,A0x,A0k,A0M,A0u,A2c,A0t,A1u,A0p,A12,A1v,A0i,A0F,A0y,A0H,A0Q,List.getElem?_drop,beq_iff_eq,beq_eq_false_iff_ne,bne_iff_ne,bne_eq_false_iff_eq,ne_eq,Nat.zero_add,Nat.add_zero,Nat.mul_one,Int.toNat_natCast,and_true,true_and,List.length_drop,List.length_append,List.length_cons,List.length_nil,List.length_set,List.getD_eq_getElem?_getD,implies_true,iI,iL,Bool.not_eq_true',Bool.not_eq_false',Int.natCast_inj];refine⟨fun h=>(B2y h).symm,fun hl=>⟨⟨0,rfl,by omega,rfl⟩,?_⟩⟩;rintro⟨i⟩ ⟨n,rfl,hn,hi⟩;simp only[Int.toNat_natCast]at hi ⊢;refine⟨fun hlt=>⟨by omega,by omega,by omega,by omega,by omega,by omega,by omega,by omega,fun he=>?_,fun he=>⟨by omega,⟨n+1,by omega,by omega,?_⟩,by omega⟩⟩,fun hge=>?_⟩
 ·rw[A37 (by omega) (by omega),decide_eq_false he]at hi;exact hi
 ·rw[A37 (by omega) (by omega),decide_eq_true he]at hi;exact hi
 ·rw[B2x (by omega) (by omega)]at hi;exact hi
theorem D52:A1j Tryz.prog G 44 (eEq .i64):=by
 intro args r h hp;unfold eEq at h;split at h
 ·rw[cond_eq_ite]at h;split at h
  ·rename_i hk;rw[Bool.and_eq_true]at hk;cases h;cases A0J hk.1;cases A0J hk.2;obtain⟨rfl,rfl,hz⟩:=hp;exact(D50 _ _ hz).caps
  ·cases h
 ·cases h
theorem D53:A1j Tryz.prog G 45 (eEq .u8):=by
 intro args r h hp;unfold eEq at h;split at h
 ·rw[cond_eq_ite]at h;split at h
  ·rename_i hk;rw[Bool.and_eq_true]at hk;cases h;cases A0J hk.1;cases A0J hk.2;obtain⟨rfl,rfl,hz⟩:=hp;exact(D51 _ _ hz).caps
  ·cases h
 ·cases h
theorem D54 (a:List Int):SpecP Tryz.prog G 40 [.imm (.ints .i64 a) a.length none] (.imm (.ints .i64 a) a.length (some a.length)) []:=by
 refine A0e hcm hmx A3w C7S rfl (C5r a a.length) ?_;simp[Cont.size]
theorem C8w:A1j Tryz.prog G 40 (A9J .i64):=by
 intro args r h hp;unfold A9J at h;split at h
 ·rw[cond_eq_ite]at h;split at h
  ·rename_i hk;cases h;cases A0J hk;obtain rfl:=hp;exact(D54 _).caps
  ·cases h
 ·cases h
theorem D55 (a:List Int):SpecP Tryz.prog G 67 [.imm (.ints .u8 a) a.length none] (.imm (.ints .u8 a) a.length (some a.length)) []:=by
 refine A0e hcm hmx A3w C8a rfl (C5s a a.length) ?_;simp[Cont.size]
theorem D56:A1j Tryz.prog G 67 (A9J .u8):=by
 intro args r h hp;unfold A9J at h;split at h
 ·rw[cond_eq_ite]at h;split at h
  ·rename_i hk;cases h;cases A0J hk;obtain rfl:=hp;exact(D55 _).caps
  ·cases h
 ·cases h
theorem D57 (i n:Int)(h0:0<n)(h1:n<1000000000000)(h2: -1000000000000<i)(h3:i<1000000000000):SpecP Tryz.prog G 106 [.int .i64 i,.iptr (.vals [.int .i64 n])] (.int .i64 ((i+n).tmod n)) []:=by
 refine A0e hcm hmx A3w C4Q rfl (C5t i n) ?_;simp;omega
theorem D58:A1j Tryz.prog G 106 e84:=by
 intro args r h hp;unfold e84 at h;split at h<;>cases h;obtain⟨h0,h1,h2,h3⟩:=hp;exact D57 _ _ h0 h1 h2 h3
theorem D59 (n:Int):SpecP Tryz.prog G 87 [.int .i64 n] (.fn 106 [] [.ptr 0 0]) [C9F n]:=by
 refine A0e hcm hmx A3w D4j rfl (C5u n) ?_;simp
theorem D6a:A1j Tryz.prog G 87 e63:=by
 intro args r h hp;unfold e63 at h;split at h<;>cases h;exact D59 _
theorem C5A:A3W Tryz.prog G tlA:=⟨C91,D5Y,D5Z,D52,D53,C8w,D56,D58,D6a,C2l,trivial⟩
theorem C8x:TabOk Tryz.prog G TA:=A0q A0C C5A
theorem D6b (k:List Int)(x:Int)(hz:k.length<1000000000000):SpecP Tryz.prog G 86 [.imm (.ints .u8 k) k.length none,.int .u8 x] (.bool (A1q k x)) []:=by
 refine A0e hcm hmx C8x D4h rfl (C5v k x) ?_;simp[hz,A1q]
theorem D6c:A1j Tryz.prog G 86 (C1Q .u8):=by
 intro args r h hp;unfold C1Q at h;split at h
 ·rw[cond_eq_ite]at h;split at h
  ·rename_i hk;rw[Bool.and_eq_true]at hk;cases h;cases A0J hk.1;cases A0J hk.2;obtain⟨rfl,hz⟩:=hp;exact(D6b _ _ hz).caps
  ·cases h
 ·cases h
theorem D6d (k:List Int)(x:Int)(hz:k.length<1000000000000):SpecP Tryz.prog G 72 [.imm (.ints .i64 k) k.length none,.int .i64 x] (.bool (A1q k x)) []:=by
 refine A0e hcm hmx C8x C84 rfl (C5w k x) ?_;simp[hz,A1q]
theorem D4I:A1j Tryz.prog G 72 (C1Q .i64):=by
 intro args r h hp;unfold C1Q at h;split at h
 ·rw[cond_eq_ite]at h;split at h
  ·rename_i hk;rw[Bool.and_eq_true]at hk;cases h;cases A0J hk.1;cases A0J hk.2;obtain⟨rfl,hz⟩:=hp;exact(D6d _ _ hz).caps
  ·cases h
 ·cases h
theorem D6e (a k b j:List Int)(hz:a.length<1000000000000)(hk:k.length<1000000000000):SpecP Tryz.prog G 21 [A2W a k,A2W b j] (.bool (eqB a b&&eqB k j)) []:=by
 refine A0e hcm hmx C8x D2A rfl (C5x a k b j) ?_;simp only[A0h,A0x,A0k,A0M,A0u,A2c,A0t,A1u,A0p,A12,A1v,A0i,A0F,A0y,A0H,A0Q,List.getElem?_drop,beq_iff_eq,beq_eq_false_iff_ne,bne_iff_ne,bne_eq_false_iff_eq,ne_eq,Nat.zero_add,Nat.add_zero,Nat.mul_one,Int.toNat_natCast,and_true,true_and,List.length_drop,List.length_append,List.length_cons,List.length_nil,List.length_set,List.getD_eq_getElem?_getD,implies_true,iI,iL,Bool.not_eq_true',Bool.not_eq_false',Int.natCast_inj];exact⟨hz,fun h=>⟨hk,by rw[h,Bool.true_and]⟩,fun h=>by rw[h,Bool.false_and]⟩
theorem D4J:A1j Tryz.prog G 21 e32:=by
 intro args r h hp;unfold e32 at h;split at h<;>cases h;obtain⟨rfl,rfl,rfl,rfl,h1,h2⟩:=hp;exact(D6e _ _ _ _ h1 h2).caps
theorem D6f (a b:List Int)(hz:a.length<1000000000000):SpecP Tryz.prog G 18 [.imm (.ints .i64 a) a.length (some a.length),.imm (.ints .i64 b) b.length none] (.bool (eqB a b)) []:=by
 refine A0e hcm hmx C8x D2u rfl (C5y a b a.length) ?_;dsimp -failIfUnchanged -proj -eta -iota -zeta only[rd,rdw,qs,ql,qx];simp only[A0h,A0x,A0k,A0M,A0u,A2c,A0t,A1u,A0p,A12,A1v,A0i,A0F,A0y,A0H,A0Q,List.getElem?_drop,beq_iff_eq,beq_eq_false_iff_ne,bne_iff_ne,bne_eq_false_iff_eq,ne_eq,Nat.zero_add,Nat.add_zero,Nat.mul_one,Int.toNat_natCast,and_true,true_and,List.length_drop,List.length_append,List.length_cons,List.length_nil,List.length_set,List.getD_eq_getElem?_getD,implies_true,iI,iL,Bool.not_eq_true',Bool.not_eq_false',Int.natCast_inj];refine⟨fun h=>(B2y h).symm,fun hl=>⟨fun h=>absurd trivial h,fun _=>⟨⟨0,rfl,by omega,rfl⟩,?_⟩⟩⟩;rintro⟨i⟩ ⟨n,rfl,hn,hi⟩;simp only[Int.toNat_natCast]at hi ⊢;refine⟨fun hlt=>⟨by omega,by omega,by omega,by omega,by omega,by omega,by omega,by omega,fun he=>?_,fun he=>⟨by omega,⟨n+1,by omega,by omega,?_⟩,by omega⟩⟩,fun hge=>?_⟩
 ·rw[A37 (by omega) (by omega),decide_eq_false he]at hi;exact hi
 ·rw[A37 (by omega) (by omega),decide_eq_true he]at hi;exact hi
 ·rw[B2x (by omega) (by omega)]at hi;exact hi
theorem RelI.capN {w:World}{F:Nat->Prop}{c:Cont}{l:Nat}{cap:Option Nat}{x:Value}(h:RelI w F (.imm c l cap) x):RelI w F (.imm c l none) x:=h.caps
theorem C8y:A1j Tryz.prog G 18 e24:=by
 intro args r h hp;unfold e24 at h;split at h<;>cases h;obtain⟨rfl,rfl,rfl,h1⟩:=hp;refine(D6f _ _ h1).args fun w F xs hr=>?_;cases hr with
 |cons _ _ _ _ r1 rs=>cases rs with
  |cons _ _ _ _ r2 rs2=>exact .cons _ _ _ _ r1 (.cons _ _ _ _ (RelI.capN r2) rs2)
theorem C5B:A3W Tryz.prog G tlB:=⟨D6c,D4I,D4J,C8y,C5A⟩
theorem C2m:TabOk Tryz.prog G TB1:=A0q A0C C5B
theorem D6g (a k:List Int)(hz:a.length<1000000000000)(hk:k.length<1000000000000):SpecP Tryz.prog G 63 [A2W a k] (.int .i64 (dcd a k)) []:=by
 refine A0e hcm hmx C2m D3J rfl (C5z a k) ?_;simp only[A0h,A0x,A0k,A0M,A0u,A2c,A0t,A1u,A0p,A12,A1v,A0i,A0F,A0y,A0H,A0Q,List.getElem?_drop,beq_iff_eq,beq_eq_false_iff_ne,bne_iff_ne,bne_eq_false_iff_eq,ne_eq,Nat.zero_add,Nat.add_zero,Nat.mul_one,Int.toNat_natCast,and_true,true_and,List.length_drop,List.length_append,List.length_cons,List.length_nil,List.length_set,List.getD_eq_getElem?_getD,implies_true,iI,iL,Bool.not_eq_true',Bool.not_eq_false',Int.natCast_inj];refine⟨hz,fun h=>by simp[dcd,h],fun h=>⟨hk,fun h2=>by simp[dcd,h,h2,bI],fun h2=>by simp[dcd,h,h2,bI]⟩⟩
theorem D6h:A1j Tryz.prog G 63 e37:=by
 intro args r h hp;unfold e37 at h;split at h<;>cases h;obtain⟨rfl,rfl,h1,h2⟩:=hp;exact(D6g _ _ h1 h2).caps
theorem C5C {n c:Int}(h0:0<=c)(h1:c<n):bfI n c=if c=0 then n-1 else c-1:=by
 unfold bfI;rw[Int.tmod_eq_emod_of_nonneg (by omega)];split
 ·rename_i h;subst h;rw[show 0+n-1=n-1 by omega,Int.emod_eq_of_lt (by omega) (by omega)]
 ·rw[show c+n-1=(c-1)+n by omega,Int.add_emod_right,Int.emod_eq_of_lt (by omega) (by omega)]
theorem A5o {n c:Int}(h0:0<=c)(h1:c<n):0<=bfI n c/\bfI n c<n:=by
 rw[C5C h0 h1];split<;>omega
theorem B2z {x0 x1 x2 x3 x4 x5 x6 x7 c:Int}(h0:0<=c)(h1:c<8):([.int .i64 x0,.int .i64 x1,.int .i64 x2,.int .i64 x3,.int .i64 x4,.int .i64 x5,.int .i64 x6,.int .i64 x7]:List AV)[c.toNat]? =some (.int .i64 (gR [x0,x1,x2,x3,x4,x5,x6,x7] c)):=by
 have hc:c=0\/c=1\/c=2\/c=3\/c=4\/c=5\/c=6\/c=7:=by omega
 rcases hc with rfl|rfl|rfl|rfl|rfl|rfl|rfl|rfl<;>rfl
theorem gR0 {r:List Int}{c:Int}:(List.drop c.toNat r).getD 0 0=gR r c:=by
 unfold gR;rw[List.getD_eq_getElem?_getD,List.getElem?_drop,Nat.add_zero]
theorem bt1 (x:Bool):((bif x then(x&&true)else true)=true)=True:=by cases x<;>simp
theorem B2A {n:Nat}{f:Int->Bool}(h:∀j:Nat,j<n->f j=false):A5P n f=false:=by
 unfold A5P;rw[List.any_eq_false];intro x hx;rw[h x (List.mem_range.1 hx)];simp
theorem A4Y {n:Nat}{f:Int->Bool}{j:Nat}(h:j<n)(hf:f j=true):A5P n f=true:=by
 unfold A5P;rw[List.any_eq_true];exact⟨j,List.mem_range.2 h,hf⟩
theorem A2d {f:Nat}{a k r:List Int}{n m p:Nat}{c1 c2 c3:Option Nat}{rest:List AV}{v:AV}{bs:List Blk}(h:SpecP Tryz.prog G f (.agg [.imm (.ints .i64 a) n none,.imm (.ints .u8 k) m none,.imm (.ints .i64 r) p none]::rest) v bs):
  SpecP Tryz.prog G f (.agg [.imm (.ints .i64 a) n c1,.imm (.ints .u8 k) m c2,.imm (.ints .i64 r) p c3]::rest) v bs:=h.args fun w F xs h=>by
 cases h with
 |cons _ _ _ _ h1 h2=>exact .cons _ _ _ _ h1.caps h2
theorem A2e (a k r:List Int):cok a k r a.length k.length r.length:=⟨rfl,rfl,rfl⟩
theorem D4K:A1j Tryz.prog G 73 e73:=by
 intro args r h hp;unfold e73 at h;split at h<;>cases h;rename_i a n _ k m _ r p _ c;obtain⟨⟨rfl,rfl,rfl⟩,h1,h2,h3,h4⟩:=hp;refine A2d (A0e hcm hmx A3w D3Y rfl (C5c a k r c) ?_);have:((a.length:Int)==0)=false:=by rw[beq_eq_false_iff_ne];omega
 simp only[A0p,and_true,true_and,Bool.not_eq_true',this]
 and_intros<;>first|omega|rfl
theorem D6i:A1j Tryz.prog G 74 e74:=by
 intro args r h hp;unfold e74 at h;split at h<;>cases h;rename_i a n _ k m _ r p _ y s;obtain⟨⟨rfl,rfl,rfl⟩,h1,h2,h3⟩:=hp;refine A2d (A0e hcm hmx A3w D30 rfl (C5d a k r y s) ?_);dsimp -failIfUnchanged -proj -eta -iota -zeta only[rd,rdw,qs,ql,qx];simp only[A0p,and_true,true_and,A0h,A0k,A0u,A0i,List.length_drop,gR0]
 and_intros
 any_goals omega
 ·intro h;show _=(_&&_);rw[show ltb (mnI (gR r s) (gR r (s+1))) y=true from A0h.2 h];rfl
 ·intro h;show _=(_&&_);rw[show ltb (mnI (gR r s) (gR r (s+1))) y=false from h];rfl
theorem D6j:A1j Tryz.prog G 76 e76:=by
 intro args r h hp;unfold e76 at h;split at h<;>cases h;rename_i a n _ k m _ r p _ c;obtain⟨⟨rfl,rfl,rfl⟩,h1,h2,h3⟩:=hp;refine A2d (A0e hcm hmx A3w D34 rfl (C5e a k r c) ?_);dsimp -failIfUnchanged -proj -eta -iota -zeta only[rd,rdw,qs,ql,qx];simp only[A0p,and_true,true_and,A0h,A0k,A0u,A0i,List.length_drop,gR0]
 and_intros<;>first|omega|rfl
theorem D4L:A1j Tryz.prog G 82 e82:=by
 intro args r h hp;unfold e82 at h;split at h<;>cases h;rename_i a n _ k m _ r p _ c d;obtain⟨⟨rfl,rfl,rfl⟩,h1,h2,h3,h4,h5⟩:=hp;refine A2d (A0e hcm hmx A3w D4b rfl (C5f a k r c d) ?_);dsimp -failIfUnchanged -proj -eta -iota -zeta only[rd,rdw,qs,ql,qx];simp only[A0p,and_true,true_and,A0h,A0k,A0u,A0i,List.length_drop,gR0]
 and_intros<;>first|omega|rfl
theorem C5D:TabOk Tryz.prog G TA1:=A0q A0C ⟨D4K,trivial⟩
theorem D6k:A1j Tryz.prog G 75 e75:=by
 intro args r h hp;unfold e75 at h;split at h<;>cases h;rename_i a n _ k m _ r p _ x0 x1 x2 x3 x4 x5 x6 x7 c s;obtain⟨⟨rfl,rfl,rfl⟩,h1,h2,h3,h4,h5,h6⟩:=hp;refine A2d (A0e hcm hmx C5D D32 rfl (C5g a k r x0 x1 x2 x3 x4 x5 x6 x7 c s) ?_);dsimp -failIfUnchanged -proj -eta -iota -zeta only[rd,rdw,qs,ql,qx];have hb:=A5o h3 h4;have g1:=B2z (x0:=x0) (x1:=x1) (x2:=x2) (x3:=x3) (x4:=x4) (x5:=x5) (x6:=x6) (x7:=x7) hb.1 (by omega);have g2:=B2z (x0:=x0) (x1:=x1) (x2:=x2) (x3:=x3) (x4:=x4) (x5:=x5) (x6:=x6) (x7:=x7) h3 (by omega);have g3:=B2z (x0:=x0) (x1:=x1) (x2:=x2) (x3:=x3) (x4:=x4) (x5:=x5) (x6:=x6) (x7:=x7) h5 (by omega);generalize hX:[x0,x1,x2,x3,x4,x5,x6,x7]=X at*;rw[g1,g2,g3];simp only[and_true,true_and,A0k,A0h];have d1:(if gR X c<gR X (bfI a.length c)then gR X c else gR X (bfI a.length c))=mnI (gR X (bfI a.length c)) (gR X c):=rfl;have d2:(if gR X c>gR X (bfI a.length c)then gR X c else gR X (bfI a.length c))=mxI (gR X (bfI a.length c)) (gR X c):=rfl;simp only[d1,d2];unfold A7g;generalize mnI (gR X (bfI a.length c)) (gR X c)=lo;generalize mxI (gR X (bfI a.length c)) (gR X c)=hi;refine⟨⟨A2e _ _ _,h1,h2,h3,h4⟩,by omega,by omega,by omega,by omega,by omega,by omega,by omega,by omega,fun e=>⟨by omega,by omega,fun f=>⟨by omega,by omega,?_⟩,fun f=>?_⟩,fun e=>?_⟩
 ·rw[A0k.2 e,A0h.2 f];rfl
 ·rw[f];cases leb 0 lo<;>rfl
 ·rw[e];rfl
theorem D4M:A1j Tryz.prog G 54 e54:=by
 intro args r h hp;unfold e54 at h;split at h<;>cases h;rename_i a n _ k m _ r p _ x0 x1 x2 x3 x4 x5 x6 x7 c;obtain⟨⟨rfl,rfl,rfl⟩,h1,h2,h3,h4⟩:=hp;refine A2d (A0e hcm hmx C5D D3w rfl (C5h a k r x0 x1 x2 x3 x4 x5 x6 x7 c) ?_);dsimp -failIfUnchanged -proj -eta -iota -zeta only[rd,rdw,qs,ql,qx];have hb:=A5o h3 h4;have g1:=B2z (x0:=x0) (x1:=x1) (x2:=x2) (x3:=x3) (x4:=x4) (x5:=x5) (x6:=x6) (x7:=x7) hb.1 (by omega);have g2:=B2z (x0:=x0) (x1:=x1) (x2:=x2) (x3:=x3) (x4:=x4) (x5:=x5) (x6:=x6) (x7:=x7) h3 (by omega);generalize hX:[x0,x1,x2,x3,x4,x5,x6,x7]=X at*;rw[g1,g2];have hc:=A2e a k r;unfold kdI;generalize bfI a.length c=d at*;simp only[and_true,true_and,A0k,A0h,A0x,beq_iff_eq,beq_eq_false_iff_ne,ne_eq];refine⟨⟨hc,h1,h2,h3,h4⟩,fun e=>⟨e,by omega,by omega,by omega,by omega,fun f=>?_,fun f=>?_⟩,fun e=>⟨e,by omega,by omega,by omega,by omega,fun f=>?_,fun f=>?_⟩⟩
 ·rw[if_pos e,if_pos f]
 ·rw[if_pos e,if_neg (by omega)]
 ·rw[if_neg e,if_pos f]
 ·rw[if_neg e,if_neg (by omega)]
theorem C5E:TabOk Tryz.prog G TA2:=A0q A0C ⟨D6i,D6k,D6j,D4L,D4M,D4K,trivial⟩
theorem C92 (x y:Bool):(bif x then y else false)=(x&&y):=by cases x<;>rfl
theorem C93:A1j Tryz.prog G 52 e52:=by
 intro args r h hp;unfold e52 at h;split at h<;>cases h;rename_i a n _ k m _ r p _ x0 x1 x2 x3 x4 x5 x6 x7;obtain⟨⟨rfl,rfl,rfl⟩,h1,h2⟩:=hp;refine A2d (A0e hcm hmx C5E D3s rfl (C5j a k r x0 x1 x2 x3 x4 x5 x6 x7) ?_);dsimp -failIfUnchanged -proj -eta -iota -zeta only[rd,rdw,qs,ql,qx];have hc:=A2e a k r;have G8:=fun(c:Int) (u:0<=c) (v:c<8)=>B2z (x0:=x0) (x1:=x1) (x2:=x2) (x3:=x3) (x4:=x4) (x5:=x5) (x6:=x6) (x7:=x7) u v;generalize hX:[x0,x1,x2,x3,x4,x5,x6,x7]=X at*;simp only[A0p,and_true,true_and,A0k,A0h,A0x,A0u,iI,A0i,List.length_drop,gR0,bt1,imp_self,C92];refine⟨⟨0,rfl,by omega,fun j hj=>by omega⟩,?_⟩;rintro⟨i⟩ ⟨m,hi,hm,hf⟩;simp only at hi hf ⊢;subst hi;simp only[Int.toNat_natCast];refine⟨fun hlt=>⟨⟨0,rfl,by omega,fun j hj=>by omega⟩,?_⟩,fun hge=>(B2A fun j hj=>hf j (by omega)).symm⟩;rintro⟨i⟩ ⟨q,hi,hq,hg⟩;simp only at hi hg ⊢;subst hi;simp only[Int.toNat_natCast];refine⟨fun hlq=>?_,fun hge=>⟨by omega,⟨m+1,by omega,by omega,fun j hj=>?_⟩,by omega⟩⟩
 ·have e1:=A5o (n:=a.length) (c:=q) (by omega) (by omega);have e2:=A5o (n:=a.length) (c:=m) (by omega) (by omega);have g1:=G8 _ e1.1 (by omega);have g2:=G8 q (by omega) (by omega);rw[Int.toNat_natCast]at g2;have d1:(if gR X q<gR X (bfI a.length q)then gR X q else gR X (bfI a.length q))=mnI (gR X (bfI a.length q)) (gR X q):=rfl;simp only[d1,g1,g2,and_true,true_and];have A:cok a k r a.length k.length r.length/\0<a.length/\a.length<=8/\(0:Int)<=m/\(m:Int)<a.length/\(0:Int)<=q/\(q:Int)<a.length:=⟨hc,by omega,h1,by omega,by omega,by omega,by omega⟩;have B:cok a k r a.length k.length r.length/\0<a.length/\a.length<=8/\(0:Int)<=m/\(m:Int)<a.length/\0<=bfI a.length q/\bfI a.length q<a.length:=⟨hc,by omega,h1,by omega,by omega,by omega,by omega⟩;refine⟨⟨hc,by omega,by omega,by omega,by omega⟩,by omega,by omega,by omega,by omega,⟨hc,by omega,by omega,by omega⟩,fun _=>A,fun h=>?_,fun h=>⟨fun _=>by omega,fun _=>by omega,fun _=>by omega,fun _=>by omega,fun _=>by omega,fun _=>by omega,fun _=>by omega,fun _=>by omega,fun _=>⟨hc,by omega,by omega,by omega⟩,fun _=>⟨hc,by omega,by omega,by omega⟩,fun _=>by omega,fun _=>by omega,fun _=>trivial,fun _=>by omega,fun _=>by omega,fun _=>trivial,fun _=>B,fun _=>A,fun h'=>?_,fun h'=>⟨by omega,⟨q+1,by omega,by omega,fun j hj=>?_⟩,by omega⟩⟩⟩
  ·refine(A4Y (j:=m) (by omega) (A4Y (j:=q) (by omega) ?_)).symm;unfold A9K;rw[h];rfl
  ·refine(A4Y (j:=m) (by omega) (A4Y (j:=q) (by omega) ?_)).symm;unfold A9K;rw[h,<- h',Bool.false_or];simp only[bne,Bool.and_assoc]
  ·by_cases hj':j<q
   ·exact hg j hj'
   ·rw[show j=q by omega];refine Eq.trans ?_ h';unfold A9K;rw[h,Bool.false_or];simp only[bne,Bool.and_assoc]
 ·by_cases hj':j<m
  ·exact hf j hj'
  ·rw[show j=m by omega];exact B2A fun i hi=>hg i (by omega)
theorem C94:A1j Tryz.prog G 53 e53:=by
 intro args r h hp;unfold e53 at h;split at h<;>cases h;rename_i a n _ k m _ r p _ x0 x1 x2 x3 x4 x5 x6 x7;obtain⟨⟨rfl,rfl,rfl⟩,h1,h2⟩:=hp;refine A2d (A0e hcm hmx C5E D3u rfl (C5k a k r x0 x1 x2 x3 x4 x5 x6 x7) ?_);dsimp -failIfUnchanged -proj -eta -iota -zeta only[rd,rdw,qs,ql,qx];have hc:=A2e a k r;have G8:=fun(c:Int) (u:0<=c) (v:c<8)=>B2z (x0:=x0) (x1:=x1) (x2:=x2) (x3:=x3) (x4:=x4) (x5:=x5) (x6:=x6) (x7:=x7) u v;generalize hX:[x0,x1,x2,x3,x4,x5,x6,x7]=X at*;simp only[A0p,and_true,true_and,A0k,A0h,A0x,A0u,iI,A0i,List.length_drop,gR0,bt1,imp_self,C92];refine⟨⟨0,rfl,by omega,fun j hj=>by omega⟩,?_⟩;rintro⟨i⟩ ⟨m,hi,hm,hf⟩;simp only at hi hf ⊢;subst hi;simp only[Int.toNat_natCast];refine⟨fun hlt=>?_,fun hge=>(B2A fun j hj=>hf j (by omega)).symm⟩;have e1:=A5o (n:=a.length) (c:=m) (by omega) (by omega);have g1:=G8 _ e1.1 (by omega);have g2:=G8 m (by omega) (by omega);rw[Int.toNat_natCast]at g2;have d1:(if gR X m<gR X (bfI a.length m)then gR X m else gR X (bfI a.length m))=mnI (gR X (bfI a.length m)) (gR X m):=rfl;simp only[d1,g1,g2,and_true,true_and,implies_true];have ek:((a.length:Nat):Int)=(k.length:Nat):=by omega
 refine⟨by omega,by omega,by omega,by omega,⟨hc,by omega,by omega,by omega,by omega⟩,fun _=>by omega,fun _=>by omega,fun _=>by omega,fun _=>by omega,fun _=>⟨hc,by omega,by omega,by omega,by omega⟩,fun h=>?_,fun h=>⟨by omega,⟨m+1,by omega,by omega,fun j hj=>?_⟩,by omega⟩⟩
 ·refine(A4Y (j:=m) (by omega) ?_).symm;unfold B1O;rw[<- h,ek];simp only[bne,Bool.and_assoc]
 ·by_cases hj':j<m
  ·exact hf j hj'
  ·rw[show j=m by omega];unfold B1O;rw[<- h,ek];simp only[bne,Bool.and_assoc]
theorem B9o {l:List Int}{i:Nat}{x:Int}(h:l.length=8):(l.set i x).length=8:=by rw[List.length_set];exact h
theorem C5F:A1j Tryz.prog G 51 e51:=by
 intro args r h hp;unfold e51 at h;split at h<;>cases h;rename_i o n _;obtain⟨rfl,h1,h2⟩:=hp;refine(A0e hcm hmx A3w C8V rfl (C5i o) ?_:SpecP Tryz.prog G 51 [.imm (.ints .i64 o) o.length none] _ []).caps;dsimp -failIfUnchanged -proj -eta -iota -zeta only[rd,rdw,qs,ql,qx];simp only[A0p,and_true,true_and,A0k,A0h,A0x,A0u,A0t,iI,A0i,List.length_drop];refine⟨⟨0,rfl,by omega,rfl⟩,?_⟩;rintro⟨i,rk⟩ ⟨m,hi,hm,hl,he⟩;simp only at hi hl he ⊢;subst hi;simp only[Int.toNat_natCast];refine⟨fun hlt=>?_,fun hge=>?_⟩
 ·have g:m<o.length:=by omega
  have ex:List.getD (List.drop m o) 0 0=o[m]:=by rw[List.getD_eq_getElem?_getD,List.getElem?_drop,Nat.add_zero,List.getElem?_eq_getElem g];rfl
  have hx:=h2 _ (List.getElem_mem g);rw[List.drop_eq_getElem_cons g]at he;rw[ex];refine⟨by omega,by omega,by omega,by omega,by omega,by omega,by omega,by omega,⟨m+1,by omega,by omega,B9o hl,he⟩,by omega⟩
 ·rw[List.drop_eq_nil_of_le (by omega)]at he;have he:rk=rkF o:=he;subst he;refine⟨by omega,?_⟩;simp only[List.getD_eq_getElem?_getD];exact⟨rfl,rfl,rfl,rfl,rfl,rfl,rfl,rfl⟩
theorem C95:A1j Tryz.prog G 51 D4C:=by
 intro args r h hp;unfold D4C at h;split at h<;>cases h;refine A0e hcm hmx A3w C8V rfl C2k ?_;decide
end Go.Proofs.YthiammkiobbclaaGreatDoor.X
