/-
 The contracts of slices joined, cloned, reversed; of fans turned, mirrored, turned over.
-/
import Derived.Test.YtfafinkgmhkdmaaGreatDoorVO3Z
import Derived.Test.YtfafinkgmhkdmaaGreatDoorVC1Z
set_option maxRecDepth 1000000
set_option linter.unusedVariables false
set_option linter.unusedSimpArgs false
namespace Go.Proofs.YtfafinkgmhkdmaaGreatDoor.X
open Go Go.Ab
theorem C0T (l:List Int)(i:Nat):(rotL' l i).length=l.length:=by simp[rotL'];omega
theorem A6E (l:List Int):(A0k l).length=l.length:=by rw[A0k,C0T,List.length_reverse]
theorem A6F (l:List Int):(A17 l).length=l.length:=by simp[A17]
theorem B58 {a k:List Int}(h:chk a k=0):a.length=k.length:=(A2y h).1
theorem B8Y {k:List Int}{j:Nat}(hj:j<k.length):(A17 k)[j]?.getD 0=if k[j]?.getD 0=1\/k[j]?.getD 0=2 then 3-k[j]?.getD 0 else k[j]?.getD 0:=by
 rw[A17,List.getElem?_map,List.getElem?_eq_getElem hj];rfl
theorem C0U {a:List Int}{m:Nat}(h:m<a.length):a.reverse[m]?.getD 0=a[a.length-1-m]?.getD 0:=by
 rw[List.getElem?_reverse h]
theorem B8a {a b:List Int}(hl:a.length=b.length)(h:∀m,m<a.length->a[m]?.getD 0=b[m]?.getD 0):a=b:=by
 refine List.ext_getElem hl fun m h1 h2=>?_;have:=h m h1
 rwa [List.getElem?_eq_getElem h1,List.getElem?_eq_getElem h2]at this
theorem B21 {l:List Int}{i m:Nat}{v:Int}(h:i<l.length):(l.set i v)[m]?.getD 0=if i=m then v else l[m]?.getD 0:=by
 rw[List.getElem?_set];split
 ·simp_all
 ·rfl
theorem B59 {a l:List Int}{n:Nat}(hl:l.length=a.length)(hn:n<a.length-1-n)(h:∀m,m<a.length->l[m]?.getD 0=if m<n\/a.length<=m+n then a[a.length-1-m]?.getD 0 else a[m]?.getD 0):
  ∀m,m<a.length->((l.set n (l[a.length-1-n]?.getD 0)).set (a.length-1-n) (l[n]?.getD 0))[m]?.getD 0=if m<n+1\/a.length<=m+(n+1)then a[a.length-1-m]?.getD 0 else a[m]?.getD 0:=by
 intro m hm;rw[B21 (by simp;omega),B21 (by omega)];have h1:=h n (by omega);have h2:=h (a.length-1-n) (by omega);rw[if_neg (by omega)]at h1 h2
 by_cases e1:a.length-1-n=m
 ·rw[if_pos e1,if_pos (by omega),h1];congr 2;omega
 ·rw[if_neg e1]
  by_cases e2:n=m
  ·rw[if_pos e2,if_pos (by omega),h2,e2]
  ·rw[if_neg e2,h m hm]
   by_cases e3:m<n\/a.length<=m+n
   ·rw[if_pos e3,if_pos (by omega)]
   ·rw[if_neg e3,if_neg (by omega)]
theorem B8Z {a l:List Int}{n:Nat}(hl:l.length=a.length)(hn:a.length<=2*n+1)(h:∀m,m<a.length->l[m]?.getD 0=if m<n\/a.length<=m+n then a[a.length-1-m]?.getD 0 else a[m]?.getD 0):l=a.reverse:=by
 refine B8a (by simp[hl]) fun m hm=>?_;rw[C0U (by omega),h m (by omega)];split
 ·rfl
 ·congr 2;omega
theorem D3Q (n:Int)(h0:0<n)(h1:n<1000000000000):SpecP Tryz.prog G 106 [.nils,.int .i64 n] (.full 0 0) [A2d .i64 []]:=by
 refine A0d hcm hmx A26 C2s rfl (C4o n) ?_;simp;omega
theorem D3R:A06 Tryz.prog G 106 (B3O .i64 8):=by
 intro args r h hp;unfold B3O at h;split at h<;>cases h;obtain⟨h0,h1⟩:=hp;exact D3Q _ h0 h1
theorem D3S (n:Int)(h0:0<n)(h1:n<1000000000000):SpecP Tryz.prog G 107 [.nils,.int .i64 n] (.full 0 0) [A2d .u8 []]:=by
 refine A0d hcm hmx A26 C2u rfl (C4p n) ?_;simp;omega
theorem D3T:A06 Tryz.prog G 107 (B3O .u8 1):=by
 intro args r h hp;unfold B3O at h;split at h<;>cases h;obtain⟨h0,h1⟩:=hp;exact D3S _ h0 h1
theorem D2w:A1Z Tryz.prog G uA:=⟨D3R,D3T,C8R⟩
theorem D2x:TabOk Tryz.prog G UA:=A0m A0s D2w
theorem C8y (x y:List Int)(h0:0<x.length+y.length)(h1:x.length+y.length<100000000000):SpecP Tryz.prog G 66 [.imm (.vals [.imm (.ints .i64 x) x.length none,.imm (.ints .i64 y) y.length none]) 2 none] (.full 0 (x++y).length) [A2d .i64 (x++y)]:=by
 refine A0d hcm hmx D2x D1F rfl (B5Q x y) ?_;simp;omega
theorem C8z:A06 Tryz.prog G 66 (C1K .i64):=by
 intro args r h hp;unfold C1K at h;split at h
 ·rw[cond_eq_ite]at h;split at h
  ·rename_i hk;rw[Bool.and_eq_true]at hk;cases h;obtain⟨rfl,rfl,h0,h1⟩:=hp;cases A0u hk.1;cases A0u hk.2;exact(C8y _ _ h0 h1).caps
  ·cases h
 ·cases h
theorem D3U (x y:List Int)(h0:0<x.length+y.length)(h1:x.length+y.length<100000000000):SpecP Tryz.prog G 67 [.imm (.vals [.imm (.ints .u8 x) x.length none,.imm (.ints .u8 y) y.length none]) 2 none] (.full 0 (x++y).length) [A2d .u8 (x++y)]:=by
 refine A0d hcm hmx D2x D1H rfl (B5P x y) ?_;simp;omega
theorem C8v:A06 Tryz.prog G 67 (C1K .u8):=by
 intro args r h hp;unfold C1K at h;split at h
 ·rw[cond_eq_ite]at h;split at h
  ·rename_i hk;rw[Bool.and_eq_true]at hk;cases h;obtain⟨rfl,rfl,h0,h1⟩:=hp;cases A0u hk.1;cases A0u hk.2;exact(D3U _ _ h0 h1).caps
  ·cases h
 ·cases h
theorem C4y:A1Z Tryz.prog G uB:=⟨C8z,C8v,D2w⟩
theorem C8S (a:List Int):SpecD Tryz.prog G (.fn 38 [] []) [.full 8640 a.length] [(8640,.blk (A2d .i64 a))] (.fullc 8640 a.length a.length) [] []:=by
 refine A1I hcm hmx A26 C2b rfl (B74 a) ?_;simp
theorem C8T (a:List Int):SpecD Tryz.prog G (.fn 38 [] []) [.full 8256 a.length] [(8256,.blk (A2d .i64 a))] (.fullc 8256 a.length a.length) [] []:=by
 refine A1I hcm hmx A26 C2b rfl (B76 a) ?_;simp
theorem D3V (a:List Int)(hl:a.length<1000000000000):SpecD Tryz.prog G (.fn 103 [] []) [.fullc 8256 a.length a.length] [(8256,.blk (A2d .i64 a))] (.tup []) [(8256,.blk (A2d .i64 a.reverse))] []:=by
 refine A1I hcm hmx A26 B9K rfl (C0F a) ?_;dsimp -failIfUnchanged -proj -eta -iota -zeta only[rd,rdw,qs,ql,qx];simp only[A0n,A0K,A0H,A09,A0Q,A1x,A0E,A03,A0w,A1t,A1q,A0F,A0I,A0r,A0J,A0G,List.getElem?_drop,beq_iff_eq,beq_eq_false_iff_ne,bne_iff_ne,bne_eq_false_iff_eq,ne_eq,Nat.zero_add,Nat.add_zero,Nat.mul_one,Int.toNat_natCast,and_true,true_and,List.length_drop,List.length_append,List.length_cons,List.length_nil,List.length_set,List.getD_eq_getElem?_getD,implies_true,iI,iL,Bool.not_eq_true',Bool.not_eq_false',Int.natCast_inj];refine⟨by omega,⟨0,rfl,by omega,by omega,fun m hm=>by rw[if_neg (by omega)]⟩,?_⟩;rintro⟨i,j,l⟩ ⟨n,rfl,rfl,h1,h2,h3⟩;simp only[Int.toNat_natCast]at h2 h3 ⊢;refine⟨fun hlt=>?_,fun hge=>?_⟩
 ·have ej:((a.length:Int)-1-n).toNat=a.length-1-n:=by omega
  rw[ej];have hs:=B59 h2 (by omega) h3;refine⟨by omega,by omega,by omega,by omega,by omega,by omega,by omega,by omega,by omega,by omega,by omega,by omega,by omega,by omega,by omega,by omega,by omega,by omega,by omega,by omega,by omega,by omega,⟨n+1,by omega,by omega,by omega,by omega,hs⟩,by omega⟩
 ·have:=B8Z h2 (by omega) h3;exact⟨by rw[this],this⟩
theorem C8U (a:List Int):SpecD Tryz.prog G (.fn 39 [] []) [.full 8640 a.length] [(8640,.blk (A2d .u8 a))] (.fullc 8640 a.length a.length) [] []:=by
 refine A1I hcm hmx A26 C2c rfl (B75 a) ?_;simp
theorem C8V (a:List Int):SpecD Tryz.prog G (.fn 39 [] []) [.full 8256 a.length] [(8256,.blk (A2d .u8 a))] (.fullc 8256 a.length a.length) [] []:=by
 refine A1I hcm hmx A26 C2c rfl (B77 a) ?_;simp
theorem C8j (a:List Int)(hl:a.length<1000000000000):SpecD Tryz.prog G (.fn 105 [] []) [.fullc 8256 a.length a.length] [(8256,.blk (A2d .u8 a))] (.tup []) [(8256,.blk (A2d .u8 a.reverse))] []:=by
 refine A1I hcm hmx A26 B9M rfl (C0G a) ?_;dsimp -failIfUnchanged -proj -eta -iota -zeta only[rd,rdw,qs,ql,qx];simp only[A0n,A0K,A0H,A09,A0Q,A1x,A0E,A03,A0w,A1t,A1q,A0F,A0I,A0r,A0J,A0G,List.getElem?_drop,beq_iff_eq,beq_eq_false_iff_ne,bne_iff_ne,bne_eq_false_iff_eq,ne_eq,Nat.zero_add,Nat.add_zero,Nat.mul_one,Int.toNat_natCast,and_true,true_and,List.length_drop,List.length_append,List.length_cons,List.length_nil,List.length_set,List.getD_eq_getElem?_getD,implies_true,iI,iL,Bool.not_eq_true',Bool.not_eq_false',Int.natCast_inj];refine⟨by omega,⟨0,rfl,by omega,by omega,fun m hm=>by rw[if_neg (by omega)]⟩,?_⟩;rintro⟨i,j,l⟩ ⟨n,rfl,rfl,h1,h2,h3⟩;simp only[Int.toNat_natCast]at h2 h3 ⊢;refine⟨fun hlt=>?_,fun hge=>?_⟩
 ·have ej:((a.length:Int)-1-n).toNat=a.length-1-n:=by omega
  rw[ej];have hs:=B59 h2 (by omega) h3;refine⟨by omega,by omega,by omega,by omega,by omega,by omega,by omega,by omega,by omega,by omega,by omega,by omega,by omega,by omega,by omega,by omega,by omega,by omega,by omega,by omega,by omega,by omega,⟨n+1,by omega,by omega,by omega,by omega,hs⟩,by omega⟩
 ·have:=B8Z h2 (by omega) h3;exact⟨by rw[this],this⟩
theorem B80 {k:IntKind}{id f1:Nat}(h1:∀a,SpecD Tryz.prog G (.fn f1 [] []) [.full id a.length] [(id,.blk (A2d k a))] (.fullc id a.length a.length) [] []):B7i Tryz.prog G (C6r k id f1):=by
 intro h cv args r hr hp;unfold C6r at hr;split at hr
 ·simp only[cond_eq_ite]at hr;split at hr
  ·rename_i hi;rw[Bool.and_eq_true]at hi;have e1:=Nat.eq_of_beq_eq_true hi.1;have e2:=Nat.eq_of_beq_eq_true hi.2;subst e1;subst e2
   cases hr;obtain⟨rfl,rfl⟩:=hp;exact h1 _
  ·cases hr
 ·cases hr
theorem C4z {k:IntKind}{id f1 f2:Nat}(h1:∀a,SpecD Tryz.prog G (.fn f1 [] []) [.full id a.length] [(id,.blk (A2d k a))] (.fullc id a.length a.length) [] [])(h2:∀a:List Int,a.length<1000000000000->SpecD Tryz.prog G (.fn f2 [] []) [.fullc id a.length a.length] [(id,.blk (A2d k a))] (.tup []) [(id,.blk (A2d k a.reverse))] []):B7i Tryz.prog G (chT k id f1 f2):=by
 intro h cv args r hr hp;unfold chT at hr;split at hr
 ·simp only[cond_eq_ite]at hr;split at hr
  ·rename_i hi;rw[Bool.and_eq_true]at hi;have e1:=Nat.eq_of_beq_eq_true hi.1;have e2:=Nat.eq_of_beq_eq_true hi.2;subst e1;subst e2
   cases hr;obtain⟨rfl,rfl⟩:=hp;exact h1 _
  ·cases hr
 ·simp only[cond_eq_ite]at hr;split at hr
  ·rename_i hi;rw[Bool.and_eq_true]at hi;have e1:=Nat.eq_of_beq_eq_true hi.1;have e2:=Nat.eq_of_beq_eq_true hi.2;subst e1;subst e2
   cases hr;obtain⟨rfl,rfl,rfl,hl⟩:=hp;exact h2 _ hl
  ·cases hr
 ·cases hr
theorem B81:TabOk Tryz.prog G C7Y:=A0m (B80 C8S) C4y
theorem B82:TabOk Tryz.prog G C7Z:=A0m (B80 C8U) C4y
theorem D3W (a:List Int)(i:Int)(h0:0<a.length)(hl:a.length<100000000000)(h1:0<=i)(h2:i<=a.length):SpecP Tryz.prog G 42 [.imm (.ints .i64 a) a.length none,.int .i64 i] (.fullc 0 (rotL' a i.toNat).length (rotL' a i.toNat).length) [A2d .i64 (rotL' a i.toNat)]:=by
 refine A0d hcm hmx B81 C6R rfl (C4q a i) ?_;simp[rotL',h1];omega
theorem D3X:A06 Tryz.prog G 42 (A7G .i64):=by
 intro args r h hp;unfold A7G at h;split at h
 ·rw[cond_eq_ite]at h;split at h
  ·rename_i hk;cases h;cases A0u hk;obtain⟨rfl,h0,hl,h1,h2⟩:=hp;exact(D3W _ _ h0 hl h1 h2).caps
  ·cases h
 ·cases h
theorem D3Y (a:List Int)(h0:0<a.length)(hl:a.length<100000000000):SpecP Tryz.prog G 102 [.imm (.ints .i64 a) a.length none] (.full 0 a.length) [A2d .i64 a]:=by
 refine A0d hcm hmx A26 B9J rfl (C4s a) ?_;simp[h0];omega
theorem C8W:SpecP Tryz.prog G 102 [.imm (.ints .i64 []) 0 none] (.imm (.ints .i64 []) 0 none) []:=by
 refine A0d hcm hmx A26 B9J rfl C0H ?_;simp
theorem C8X:SpecP Tryz.prog G 103 [.imm (.ints .i64 []) 0 none] (.tup []) []:=by
 refine A0d hcm hmx A26 B9K rfl C0J ?_;simp
theorem D3Z:A06 Tryz.prog G 102 (A4D .i64):=by
 intro args r h hp;unfold A4D at h;split at h
 ·rw[cond_eq_ite]at h;split at h
  ·rename_i hk;cases h;cases A0u hk;obtain⟨rfl,h0,hl⟩:=hp;exact(D3Y _ h0 hl).caps
  ·cases h
 ·cases h
theorem C8Y:A06 Tryz.prog G 102 (A4E .i64):=by
 intro args r h hp;unfold A4E at h;split at h
 ·rw[cond_eq_ite]at h;split at h
  ·rename_i hk;cases h;cases A0u hk;obtain⟨rfl,rfl⟩:=hp;exact C8W.caps
  ·cases h
 ·cases h
theorem C8Z:A06 Tryz.prog G 103 (B3P .i64):=by
 intro args r h hp;unfold B3P at h;split at h
 ·rw[cond_eq_ite]at h;split at h
  ·rename_i hk;cases h;cases A0u hk;obtain⟨rfl,rfl⟩:=hp;exact C8X.caps
  ·cases h
 ·cases h
theorem D30 (a:List Int)(i:Int)(h0:0<a.length)(hl:a.length<100000000000)(h1:0<=i)(h2:i<=a.length):SpecP Tryz.prog G 43 [.imm (.ints .u8 a) a.length none,.int .i64 i] (.fullc 0 (rotL' a i.toNat).length (rotL' a i.toNat).length) [A2d .u8 (rotL' a i.toNat)]:=by
 refine A0d hcm hmx B82 C6S rfl (C4r a i) ?_;simp[rotL',h1];omega
theorem D31:A06 Tryz.prog G 43 (A7G .u8):=by
 intro args r h hp;unfold A7G at h;split at h
 ·rw[cond_eq_ite]at h;split at h
  ·rename_i hk;cases h;cases A0u hk;obtain⟨rfl,h0,hl,h1,h2⟩:=hp;exact(D30 _ _ h0 hl h1 h2).caps
  ·cases h
 ·cases h
theorem D32 (a:List Int)(h0:0<a.length)(hl:a.length<100000000000):SpecP Tryz.prog G 104 [.imm (.ints .u8 a) a.length none] (.full 0 a.length) [A2d .u8 a]:=by
 refine A0d hcm hmx A26 B9L rfl (C4t a) ?_;simp[h0];omega
theorem C80:SpecP Tryz.prog G 104 [.imm (.ints .u8 []) 0 none] (.imm (.ints .u8 []) 0 none) []:=by
 refine A0d hcm hmx A26 B9L rfl C0I ?_;simp
theorem C81:SpecP Tryz.prog G 105 [.imm (.ints .u8 []) 0 none] (.tup []) []:=by
 refine A0d hcm hmx A26 B9M rfl C0K ?_;simp
theorem D33:A06 Tryz.prog G 104 (A4D .u8):=by
 intro args r h hp;unfold A4D at h;split at h
 ·rw[cond_eq_ite]at h;split at h
  ·rename_i hk;cases h;cases A0u hk;obtain⟨rfl,h0,hl⟩:=hp;exact(D32 _ h0 hl).caps
  ·cases h
 ·cases h
theorem C82:A06 Tryz.prog G 104 (A4E .u8):=by
 intro args r h hp;unfold A4E at h;split at h
 ·rw[cond_eq_ite]at h;split at h
  ·rename_i hk;cases h;cases A0u hk;obtain⟨rfl,rfl⟩:=hp;exact C80.caps
  ·cases h
 ·cases h
theorem C83:A06 Tryz.prog G 105 (B3P .u8):=by
 intro args r h hp;unfold B3P at h;split at h
 ·rw[cond_eq_ite]at h;split at h
  ·rename_i hk;cases h;cases A0u hk;obtain⟨rfl,rfl⟩:=hp;exact C81.caps
  ·cases h
 ·cases h
theorem D2y:A1Z Tryz.prog G uP:=⟨D3Z,D33,C4y⟩
theorem C4A:TabOk Tryz.prog G D2m:=A0m (C4z C8T D3V) D2y
theorem C4B:TabOk Tryz.prog G D2n:=A0m (C4z C8V C8j) D2y
theorem D34:A1Z Tryz.prog G uZ:=⟨C8Y,C82,C8Z,C83,C4y⟩
theorem B83:TabOk Tryz.prog G C70:=A0m A0s D34
theorem D35 (a:List Int)(hl:a.length<100000000000):SpecP Tryz.prog G 64 [.imm (.ints .i64 a) a.length none] (.imm (.ints .i64 a.reverse) a.length (some a.length)) []:=by
 by_cases h:a=[]
 ·subst h;refine A0d hcm hmx B83 C61 rfl C0N ?_;simp
 ·refine A0d hcm hmx C4A C61 rfl (C0L a) ?_;have:0<a.length:=List.length_pos_iff.2 h;simp[this,hl];omega
theorem D36 (a:List Int)(hl:a.length<100000000000):SpecP Tryz.prog G 65 [.imm (.ints .u8 a) a.length none] (.imm (.ints .u8 a.reverse) a.length (some a.length)) []:=by
 by_cases h:a=[]
 ·subst h;refine A0d hcm hmx B83 C62 rfl C0O ?_;simp
 ·refine A0d hcm hmx C4B C62 rfl (C0M a) ?_;have:0<a.length:=List.length_pos_iff.2 h;simp[this,hl];omega
theorem D37:A06 Tryz.prog G 64 (A4F .i64):=by
 intro args r h hp;unfold A4F at h;split at h
 ·rw[cond_eq_ite]at h;split at h
  ·rename_i hk;cases h;cases A0u hk;obtain⟨rfl,hl⟩:=hp;exact(D35 _ hl).caps
  ·cases h
 ·cases h
theorem D38:A06 Tryz.prog G 65 (A4F .u8):=by
 intro args r h hp;unfold A4F at h;split at h
 ·rw[cond_eq_ite]at h;split at h
  ·rename_i hk;cases h;cases A0u hk;obtain⟨rfl,hl⟩:=hp;exact(D36 _ hl).caps
  ·cases h
 ·cases h
theorem C4C:A1Z Tryz.prog G uC:=⟨D3X,D31,D37,D38,C4y⟩
theorem C84:TabOk Tryz.prog G UC:=A0m A0s C4C
theorem C85 (a k:List Int)(hl:a.length<100000000000)(h0:0<k.length)(hk:k.length<100000000000):SpecP Tryz.prog G 41 [A3T a k] (.agg [A7F .i64 a.reverse,.fullc 0 (A0k k).length (A0k k).length]) [A2d .u8 (A0k k)]:=by
 refine A0d hcm hmx C84 C56 rfl (C0P a k) ?_;dsimp -failIfUnchanged -proj -eta -iota -zeta only[rd,rdw,qs,ql,qx];have e:((k.length:Int)-1).toNat=k.length-1:=by omega
 simp only[A0n,A0K,A0H,A09,A0Q,A1x,A0E,A03,A0w,A1t,A1q,A0F,A0I,A0r,A0J,A0G,List.getElem?_drop,beq_iff_eq,beq_eq_false_iff_ne,bne_iff_ne,bne_eq_false_iff_eq,ne_eq,Nat.zero_add,Nat.add_zero,Nat.mul_one,Int.toNat_natCast,and_true,true_and,List.length_drop,List.length_append,List.length_cons,List.length_nil,List.length_set,List.getD_eq_getElem?_getD,implies_true,iI,iL,Bool.not_eq_true',Bool.not_eq_false',Int.natCast_inj,List.length_reverse,e,A0k];omega
theorem D2z (a k:List Int)(hl:a.length<100000000000)(hk:k.length<100000000000):SpecP Tryz.prog G 41 [A3T a k] (A89 a.reverse (A0k k)) []:=by
 by_cases h:k=[]
 ·subst h;refine A0d hcm hmx C84 C56 rfl (C0R a []) ?_;simp[hl,A0k,rotL']
 ·refine A0d hcm hmx C84 C56 rfl (C0Q a k) ?_;have:0<k.length:=List.length_pos_iff.2 h;have e:((k.length:Int)-1).toNat=k.length-1:=by omega
  simp only[A0n,A0K,A0H,A09,A0Q,A1x,A0E,A03,A0w,A1t,A1q,A0F,A0I,A0r,A0J,A0G,List.getElem?_drop,beq_iff_eq,beq_eq_false_iff_ne,bne_iff_ne,bne_eq_false_iff_eq,ne_eq,Nat.zero_add,Nat.add_zero,Nat.mul_one,Int.toNat_natCast,and_true,true_and,List.length_drop,List.length_append,List.length_cons,List.length_nil,List.length_set,List.getD_eq_getElem?_getD,implies_true,iI,iL,Bool.not_eq_true',Bool.not_eq_false',Int.natCast_inj,List.length_reverse,e,A0k];omega
theorem C86:A06 Tryz.prog G 41 C71:=by
 intro args r h hp;unfold C71 at h;split at h<;>cases h;obtain⟨rfl,rfl,h1,h2,h3⟩:=hp;exact(C85 _ _ h1 h2 h3).caps
theorem D2A:A06 Tryz.prog G 41 e20:=by
 intro args r h hp;unfold e20 at h;split at h<;>cases h;obtain⟨rfl,rfl,h1,h2⟩:=hp;exact(D2z _ _ h1 h2).caps
theorem D39:TabOk Tryz.prog G UO:=A0m A0s ⟨C86,C4C⟩
theorem C87:TabOk Tryz.prog G UOz:=A0m A0s ⟨D2A,C4C⟩
theorem C0V {k:List Int}{n:Nat}(h:n<k.length):((A17 k).take n++k.drop n)[n]?.getD 0=k[n]?.getD 0/\∀v,v=(if k[n]?.getD 0=1\/k[n]?.getD 0=2 then 3-k[n]?.getD 0 else k[n]?.getD 0)->((A17 k).take n++k.drop n).set n v=(A17 k).take (n+1)++k.drop (n+1):=by
 have hl:((A17 k).take n).length=n:=by rw[List.length_take,A6F];omega
 have e1:k.drop n=k[n]?.getD 0::k.drop (n+1):=A07 h;refine⟨?_,fun v hv=>?_⟩
 ·rw[List.getElem?_append_right (by omega),hl,Nat.sub_self,e1];rfl
 ·have e2:(A17 k).take (n+1)=(A17 k).take n++[v]:=by
   rw[List.take_add_one,hv,<- B8Y h,List.getElem?_eq_getElem (by rw[A6F];exact h)];rfl
  rw[e1,e2,List.set_append_right _ _ (by omega),hl,Nat.sub_self,List.set_cons_zero,List.append_assoc];rfl
theorem D4a (a k:List Int)(hl:a.length<100000000000)(hk:k.length<100000000000):SpecP Tryz.prog G 46 [A3T a k] (A89 a.reverse (A17 (A0k k))) []:=by
 by_cases h:k=[]
 ·subst h;refine A0d hcm hmx C87 C6T rfl (C0S a) ?_;dsimp -failIfUnchanged -proj -eta -iota -zeta only[rd,rdw,qs,ql,qx];simp[hl,A0k,rotL']
 ·have h0:0<k.length:=List.length_pos_iff.2 h;have hm:=A6E k;refine A0d hcm hmx D39 C6T rfl (C4u a k) ?_;dsimp -failIfUnchanged -proj -eta -iota -zeta only[rd,rdw,qs,ql,qx];generalize hM:A0k k=M at*;simp only[A0n,A0K,A0H,A09,A0Q,A1x,A0E,A03,A0w,A1t,A1q,A0F,A0I,A0r,A0J,A0G,List.getElem?_drop,beq_iff_eq,beq_eq_false_iff_ne,bne_iff_ne,bne_eq_false_iff_eq,ne_eq,Nat.zero_add,Nat.add_zero,Nat.mul_one,Int.toNat_natCast,and_true,true_and,List.length_drop,List.length_append,List.length_cons,List.length_nil,List.length_set,List.getD_eq_getElem?_getD,implies_true,iI,iL,Bool.not_eq_true',Bool.not_eq_false',Int.natCast_inj,A6F];refine⟨by omega,⟨0,rfl,by omega,by simp⟩,?_⟩;rintro⟨i,l⟩ ⟨n,rfl,h1,rfl⟩;have hlen:((A17 M).take n++M.drop n).length=M.length:=by simp[A6F];omega
  simp only[Int.toNat_natCast,hlen,true_and,and_true,List.length_set];refine⟨fun hlt=>?_,fun hge=>?_⟩
  ·obtain⟨g1,g2⟩:=C0V (k:=M) (n:=n) (by omega);rw[g1];refine⟨by omega,by omega,by omega,fun c1=>?_,fun c1=>⟨fun c2=>?_,fun c2=>?_⟩⟩
   ·exact⟨by omega,by omega,by omega,by omega,by omega,⟨n+1,by omega,by omega,g2 _ (by rw[if_pos (.inl c1)])⟩,by omega⟩
   ·exact⟨by omega,by omega,by omega,by omega,by omega,⟨n+1,by omega,by omega,g2 _ (by rw[if_pos (.inr c2)])⟩,by omega⟩
   ·refine⟨by omega,⟨n+1,by omega,by omega,?_⟩,by omega⟩;rw[<- g2 _ rfl,if_neg (by omega),<- g1];apply Eq.symm;rw[List.getElem?_eq_getElem (by omega)];exact List.set_getElem_self _
  ·have:n=M.length:=by omega
   subst this;rw[List.take_of_length_le (by rw[A6F];omega),List.drop_length,List.append_nil]
theorem D4b:A06 Tryz.prog G 46 e21:=by
 intro args r h hp;unfold e21 at h;split at h<;>cases h;obtain⟨rfl,rfl,h1,h2⟩:=hp;exact(D4a _ _ h1 h2).caps
end Go.Proofs.YtfafinkgmhkdmaaGreatDoor.X
