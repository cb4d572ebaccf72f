/-
 The contracts of comparisons, of turns by value.
-/
import Derived.Test.YtfafinkgmhkdmaaGreatDoorVO7Z
import Derived.Test.YtfafinkgmhkdmaaGreatDoorVC6hZ
set_option maxRecDepth 1000000
set_option linter.unusedVariables false
set_option linter.unusedSimpArgs false
namespace Go.Proofs.YtfafinkgmhkdmaaGreatDoor.X
open Go Go.Ab
theorem D2B:A06 Tryz.prog G 51 (B2O .i64):=by
 intro args r h hp;unfold B2O at h;split at h
 ·rw[cond_eq_ite]at h;split at h
  ·rename_i hk;cases A0u hk;cases h;refine A0d hcm hmx A26 C6X rfl (C4f _) ?_;simp
  ·cases h
 ·cases h
theorem C6u:A06 Tryz.prog G 128 (B2O .u8):=by
 intro args r h hp;unfold B2O at h;split at h
 ·rw[cond_eq_ite]at h;split at h
  ·rename_i hk;cases A0u hk;cases h;refine A0d hcm hmx A26 C2Y rfl (B5R _) ?_;simp
  ·cases h
 ·cases h
theorem D2C:TabOk Tryz.prog G WN:=A0m A0s ⟨D2B,C6u,trivial⟩
theorem B22 (x y:Int):((ltb x y=true-> -1=A28 x y/\True)/\(ltb x y=false->(ltb y x=true->1=A28 x y/\True)/\(ltb y x=false->0=A28 x y/\True))):=by
 simp only[A0n,A0K,and_true,A28];refine⟨fun h=>by rw[if_pos h],fun h=>⟨fun h2=>by rw[if_neg (by omega),if_pos h2],fun h2=>by rw[if_neg (by omega),if_neg (by omega)]⟩⟩
theorem D4d:A06 Tryz.prog G 22 (A46 .i64):=by
 intro args r h hp;unfold A46 at h;split at h
 ·rw[cond_eq_ite]at h;split at h
  ·rename_i hk;rw[Bool.and_eq_true]at hk;cases A0u hk.1;cases A0u hk.2;cases h;exact A0d hcm hmx D2C C6P rfl (C4g _ _) (B22 _ _)
  ·cases h
 ·cases h
theorem D4e:A06 Tryz.prog G 109 (A46 .u8):=by
 intro args r h hp;unfold A46 at h;split at h
 ·rw[cond_eq_ite]at h;split at h
  ·rename_i hk;rw[Bool.and_eq_true]at hk;cases A0u hk.1;cases A0u hk.2;cases h;exact A0d hcm hmx D2C C2y rfl (C4h _ _) (B22 _ _)
  ·cases h
 ·cases h
theorem D4f (x y:Int):SpecP Tryz.prog G 21 [.imm (.ints .i64 [x,y]) 2 none] (.int .i64 (orI x y)) []:=by
 refine A0d hcm hmx A26 C6O rfl (C4i x y) ?_
 by_cases hx:x=0
 ·by_cases hy:y=0<;>simp[orI,hx,hy]
 ·simp[orI,hx]
theorem D4g:A06 Tryz.prog G 21 e47:=by
 intro args r h hp;unfold e47 at h;split at h<;>cases h;exact(D4f _ _).caps
theorem D2D:A1Z Tryz.prog G wA:=⟨D4d,D4e,D2B,C6u,D4g,C4C⟩
theorem D2E:TabOk Tryz.prog G WA:=A0m A0s D2D
theorem B0u {a b:List Int}{n:Nat}(h:n<a.length)(h2:n<b.length):A1d (a.drop n) (b.drop n)=if A28 (a[n]?.getD 0) (b[n]?.getD 0)=0 then A1d (a.drop (n+1)) (b.drop (n+1))else A28 (a[n]?.getD 0) (b[n]?.getD 0):=by
 rw[A07 h,A07 h2];simp only[A1d,A28];split
 ·rfl
 ·split
  ·rfl
  ·rfl
theorem B0v {a b:List Int}{n:Nat}(h:n<a.length)(h2:b.length<=n):A1d (a.drop n) (b.drop n)=1:=by
 rw[A07 h,List.drop_of_length_le h2];rfl
theorem B0w {a b:List Int}{n:Nat}(h:a.length<=n)(h2:n<b.length):A1d (a.drop n) (b.drop n)= -1:=by
 rw[A07 h2,List.drop_of_length_le h];rfl
theorem B0x {a b:List Int}{n:Nat}(h:a.length<=n)(h2:b.length<=n):A1d (a.drop n) (b.drop n)=0:=by
 rw[List.drop_of_length_le h,List.drop_of_length_le h2];rfl
theorem D4h (a b:List Int)(hz:a.length<1000000000000)(hb:b.length<1000000000000):SpecP Tryz.prog G 69 [.imm (.ints .i64 a) a.length none,.imm (.ints .i64 b) b.length none] (.int .i64 (A1d a b)) []:=by
 refine A0d hcm hmx D2E D1L rfl (C4j a b) ?_;dsimp -failIfUnchanged -proj -eta -iota -zeta only[rd,rdw,qs,ql,qx];simp only[A0n,A0K,A0H,A09,A0Q,A1x,A0E,A03,A0w,A1t,A1q,A0F,A0I,A0r,A0J,A0G,List.getElem?_drop,beq_iff_eq,beq_eq_false_iff_ne,bne_iff_ne,bne_eq_false_iff_eq,ne_eq,Nat.zero_add,Nat.add_zero,Nat.mul_one,Int.toNat_natCast,and_true,true_and,List.length_drop,List.length_append,List.length_cons,List.length_nil,List.length_set,List.getD_eq_getElem?_getD,implies_true,iI,iL,Bool.not_eq_true',Bool.not_eq_false',Int.natCast_inj];refine⟨⟨0,rfl,by omega,by omega,rfl⟩,?_⟩;rintro⟨i⟩ ⟨n,rfl,h1,h2,h3⟩;simp only[Int.toNat_natCast]at h3 ⊢;refine⟨fun hlt=>⟨by omega,by omega,by omega,by omega,fun hge=>?_,fun hlb=>?_⟩,fun hge=>⟨fun hl=>?_,fun hl=>?_⟩⟩
 ·rw[<- h3,B0v (by omega) (by omega)]
 ·have hs:=B0u (a:=a) (b:=b) (n:=n) (by omega) (by omega);refine⟨by omega,by omega,by omega,by omega,fun hc=>?_,fun hc=>⟨by omega,⟨n+1,by omega,by omega,by omega,?_⟩,by omega⟩⟩
  ·rw[if_neg hc]at hs;rw[<- h3,hs]
  ·rw[if_pos hc]at hs;rw[<- h3,hs]
 ·rw[<- h3,B0w (by omega) (by omega)]
 ·rw[<- h3,B0x (by omega) (by omega)]
theorem D4i (a b:List Int)(hz:a.length<1000000000000)(hb:b.length<1000000000000):SpecP Tryz.prog G 70 [.imm (.ints .u8 a) a.length none,.imm (.ints .u8 b) b.length none] (.int .i64 (A1d a b)) []:=by
 refine A0d hcm hmx D2E D1N rfl (C4k a b) ?_;dsimp -failIfUnchanged -proj -eta -iota -zeta only[rd,rdw,qs,ql,qx];simp only[A0n,A0K,A0H,A09,A0Q,A1x,A0E,A03,A0w,A1t,A1q,A0F,A0I,A0r,A0J,A0G,List.getElem?_drop,beq_iff_eq,beq_eq_false_iff_ne,bne_iff_ne,bne_eq_false_iff_eq,ne_eq,Nat.zero_add,Nat.add_zero,Nat.mul_one,Int.toNat_natCast,and_true,true_and,List.length_drop,List.length_append,List.length_cons,List.length_nil,List.length_set,List.getD_eq_getElem?_getD,implies_true,iI,iL,Bool.not_eq_true',Bool.not_eq_false',Int.natCast_inj];refine⟨⟨0,rfl,by omega,by omega,rfl⟩,?_⟩;rintro⟨i⟩ ⟨n,rfl,h1,h2,h3⟩;simp only[Int.toNat_natCast]at h3 ⊢;refine⟨fun hlt=>⟨by omega,by omega,by omega,by omega,fun hge=>?_,fun hlb=>?_⟩,fun hge=>⟨fun hl=>?_,fun hl=>?_⟩⟩
 ·rw[<- h3,B0v (by omega) (by omega)]
 ·have hs:=B0u (a:=a) (b:=b) (n:=n) (by omega) (by omega);refine⟨by omega,by omega,by omega,by omega,fun hc=>?_,fun hc=>⟨by omega,⟨n+1,by omega,by omega,by omega,?_⟩,by omega⟩⟩
  ·rw[if_neg hc]at hs;rw[<- h3,hs]
  ·rw[if_pos hc]at hs;rw[<- h3,hs]
 ·rw[<- h3,B0w (by omega) (by omega)]
 ·rw[<- h3,B0x (by omega) (by omega)]
theorem D4j:A06 Tryz.prog G 69 (C1N .i64):=by
 intro args r h hp;unfold C1N at h;split at h
 ·rw[cond_eq_ite]at h;split at h
  ·rename_i hk;rw[Bool.and_eq_true]at hk;cases A0u hk.1;cases A0u hk.2;cases h;obtain⟨rfl,rfl,h1,h2⟩:=hp;exact(D4h _ _ h1 h2).caps
  ·cases h
 ·cases h
theorem D4k:A06 Tryz.prog G 70 (C1N .u8):=by
 intro args r h hp;unfold C1N at h;split at h
 ·rw[cond_eq_ite]at h;split at h
  ·rename_i hk;rw[Bool.and_eq_true]at hk;cases A0u hk.1;cases A0u hk.2;cases h;obtain⟨rfl,rfl,h1,h2⟩:=hp;exact(D4i _ _ h1 h2).caps
  ·cases h
 ·cases h
theorem C88:evM G (aget xpl) B0l me0 100000 1000 1 [] (.fn 38 [] []) [AV.imm (Cont.ints IntKind.i64 []) 0 none]=some ⟨AV.imm (Cont.ints IntKind.i64 []) 0 (some 0),[],[],[]⟩:=by kernel_rfl
theorem C89:evM G (aget xpl) B0l me0 100000 1000 1 [] (.fn 39 [] []) [AV.imm (Cont.ints IntKind.u8 []) 0 none]=some ⟨AV.imm (Cont.ints IntKind.u8 []) 0 (some 0),[],[],[]⟩:=by kernel_rfl
def C6z:List Mem:=[⟨38,[AV.imm (Cont.ints IntKind.i64 []) 0 none],AV.imm (Cont.ints IntKind.i64 []) 0 (some 0),[]⟩,⟨39,[AV.imm (Cont.ints IntKind.u8 []) 0 none],AV.imm (Cont.ints IntKind.u8 []) 0 (some 0),[]⟩]
theorem C4D:B7l Tryz.prog G C6z:=⟨A0A hcm hmx B0O A1W A6y C88 rfl,A0A hcm hmx B0O A1W A6y C89 rfl,trivial⟩
theorem C4E:B2x Tryz.prog G (A6Z (B9B C6z)):=A5n (B1v C4D)
theorem D4l:evM G (aget xpl) B0l (A6Z (B9B C6z)) 100000 1000 1 [] (.fn 42 [] []) [AV.imm (Cont.ints IntKind.i64 []) 0 none,.int .i64 0]=some ⟨AV.imm (Cont.ints IntKind.i64 []) 0 (some 0),[],[],[]⟩:=by kernel_rfl
theorem D4m:evM G (aget xpl) B0l (A6Z (B9B C6z)) 100000 1000 1 [] (.fn 43 [] []) [AV.imm (Cont.ints IntKind.u8 []) 0 none,.int .i64 0]=some ⟨AV.imm (Cont.ints IntKind.u8 []) 0 (some 0),[],[],[]⟩:=by kernel_rfl
theorem C9a (a:List Int)(i:Int)(hl:a.length<100000000000)(h1:0<=i)(h2:i<=a.length):SpecP Tryz.prog G 42 [.imm (.ints .i64 a) a.length none,.int .i64 i] (A7F .i64 (rotL' a i.toNat)) []:=by
 by_cases h:a=[]
 ·subst h;obtain rfl:i=0:=by simp at h2;omega
  exact A0A hcm hmx B0O A1W C4E D4l rfl
 ·have h0:0<a.length:=List.length_pos_iff.2 h;refine A0d hcm hmx B81 C6R rfl (C0C a i) ?_;dsimp -failIfUnchanged -proj -eta -iota -zeta only[rd,rdw,qs,ql,qx];simp[rotL',h1];omega
theorem C9b (a:List Int)(i:Int)(hl:a.length<100000000000)(h1:0<=i)(h2:i<=a.length):SpecP Tryz.prog G 43 [.imm (.ints .u8 a) a.length none,.int .i64 i] (A7F .u8 (rotL' a i.toNat)) []:=by
 by_cases h:a=[]
 ·subst h;obtain rfl:i=0:=by simp at h2;omega
  exact A0A hcm hmx B0O A1W C4E D4m rfl
 ·have h0:0<a.length:=List.length_pos_iff.2 h;refine A0d hcm hmx B82 C6S rfl (C0D a i) ?_;dsimp -failIfUnchanged -proj -eta -iota -zeta only[rd,rdw,qs,ql,qx];simp[rotL',h1];omega
theorem C4F:A06 Tryz.prog G 42 (B0n .i64):=by
 intro args r h hp;unfold B0n at h;split at h
 ·rw[cond_eq_ite]at h;split at h
  ·rename_i hk;cases A0u hk;cases h;obtain⟨rfl,hl,h1,h2⟩:=hp;exact(C9a _ _ hl h1 h2).caps
  ·cases h
 ·cases h
theorem C4G:A06 Tryz.prog G 43 (B0n .u8):=by
 intro args r h hp;unfold B0n at h;split at h
 ·rw[cond_eq_ite]at h;split at h
  ·rename_i hk;cases A0u hk;cases h;obtain⟨rfl,hl,h1,h2⟩:=hp;exact(C9b _ _ hl h1 h2).caps
  ·cases h
 ·cases h
theorem C9c:A1Z Tryz.prog G wB:=⟨C4F,C4G,D4j,D4k,D2D⟩
theorem D2F:TabOk Tryz.prog G WB:=A0m A0s C9c
theorem C0W (a k:List Int)(i:Int)(hl:a.length<100000000000)(hc:chk a k=0):SpecP Tryz.prog G 12 [A3T a k,.int .i64 i] (.tup [.agg [A7F .i64 (bLt (tOk a i) (rotL' a i.toNat)),A7F .u8 (bLt (tOk a i) (rotL' k i.toNat))],.int .i64 (bI (tOk a i) 0 1)]) []:=by
 refine A0d hcm hmx D2F D0g rfl (C0E a k i) ?_;have hk:=B58 hc;simp only[A0n,A0K,A0H,A09,A0Q,A1x,A0E,A03,A0w,A1t,A1q,A0F,A0I,A0r,A0J,A0G,List.getElem?_drop,beq_iff_eq,beq_eq_false_iff_ne,bne_iff_ne,bne_eq_false_iff_eq,ne_eq,Nat.zero_add,Nat.add_zero,Nat.mul_one,Int.toNat_natCast,and_true,true_and,List.length_drop,List.length_append,List.length_cons,List.length_nil,List.length_set,List.getD_eq_getElem?_getD,implies_true,iI,iL,Bool.not_eq_true',Bool.not_eq_false',Int.natCast_inj];refine⟨by omega,fun h=>absurd hc h,fun _=>⟨fun h=>?_,fun h=>⟨fun h2=>?_,fun h2=>?_⟩⟩⟩
 ·have e:tOk a i=false:=by unfold tOk;rw[decide_eq_false_iff_not];omega
  simp[e,bLt,bI]
 ·have e:tOk a i=false:=by
   unfold tOk;rw[decide_eq_false_iff_not];split at h2<;>omega
  simp[e,bLt,bI]
 ·have e:tOk a i=true:=by
   unfold tOk;rw[decide_eq_true_eq];split at h2<;>omega
  have hi:i<=a.length:=by
   split at h2<;>omega
  simp[e,bLt,bI];omega
theorem C0X:A06 Tryz.prog G 12 C3w:=by
 intro args r h hp;unfold C3w at h;split at h<;>cases h;obtain⟨rfl,rfl,h1,h2⟩:=hp;exact(C0W _ _ _ h1 h2).caps
theorem D4n (a k:List Int):SpecP Tryz.prog G 68 [A3T a k] (.fn 108 [] [.iptr (B1w a k)]) []:=by
 refine A0d hcm hmx A26 D1J rfl (C4l a k) ?_;simp
theorem D4o:A06 Tryz.prog G 68 e46:=by
 intro args r h hp;unfold e46 at h;split at h<;>cases h;obtain⟨rfl,rfl⟩:=hp;exact(D4n _ _).caps
end Go.Proofs.YtfafinkgmhkdmaaGreatDoor.X
