/-
 The contracts of slices joined, cloned, reversed; of fans turned, mirrored, turned over.
-/
import Derived.Test.YtfafinkgmhkdmaaGreatDoorVO3Z
import Derived.Test.YtfafinkgmhkdmaaGreatDoorVC1Z
set_option maxRecDepth 1000000
set_option linter.unusedVariables false
set_option linter.unusedSimpArgs false
namespace Go.Proofs.YtfafinkgmhkdmaaGreatDoor.X
open Go Go.Ab

theorem chk_len {a k:List Int}(h:chk a k=0):a.length=k.length:=(chk_ok h).1
theorem rev_get {a:List Int}{m:Nat}(h:m<a.length):a.reverse[m]?.getD 0=a[a.length-1-m]?.getD 0:=by
 rw[List.getElem?_reverse h]
theorem ext_getD {a b:List Int}(hl:a.length=b.length)(h:∀m,m<a.length→a[m]?.getD 0=b[m]?.getD 0):a=b:=by
 refine List.ext_getElem hl fun m h1 h2=>?_
 have:=h m h1
 rwa [List.getElem?_eq_getElem h1,List.getElem?_eq_getElem h2]at this
theorem set_getD {l:List Int}{i m:Nat}{v:Int}(h:i<l.length):(l.set i v)[m]?.getD 0=if i=m then v else l[m]?.getD 0:=by
 rw[List.getElem?_set]
 split
 ·simp_all
 ·rfl
theorem revStep {a l:List Int}{n:Nat}(hl:l.length=a.length)(hn:n<a.length-1-n)(h:∀m,m<a.length→l[m]?.getD 0=if m<n∨a.length≤m+n then a[a.length-1-m]?.getD 0 else a[m]?.getD 0):
  ∀m,m<a.length→((l.set n (l[a.length-1-n]?.getD 0)).set (a.length-1-n) (l[n]?.getD 0))[m]?.getD 0=if m<n+1∨a.length≤m+(n+1)then a[a.length-1-m]?.getD 0 else a[m]?.getD 0:=by
 intro m hm
 rw[set_getD (by simp;omega),set_getD (by omega)]
 have h1:=h n (by omega)
 have h2:=h (a.length-1-n) (by omega)
 rw[if_neg (by omega)]at h1 h2
 by_cases e1:a.length-1-n=m
 ·rw[if_pos e1,if_pos (by omega),h1];congr 2;omega
 ·rw[if_neg e1]
  by_cases e2:n=m
  ·rw[if_pos e2,if_pos (by omega),h2,e2]
  ·rw[if_neg e2,h m hm]
   by_cases e3:m<n∨a.length≤m+n
   ·rw[if_pos e3,if_pos (by omega)]
   ·rw[if_neg e3,if_neg (by omega)]
theorem revEnd {a l:List Int}{n:Nat}(hl:l.length=a.length)(hn:a.length≤2*n+1)(h:∀m,m<a.length→l[m]?.getD 0=if m<n∨a.length≤m+n then a[a.length-1-m]?.getD 0 else a[m]?.getD 0):l=a.reverse:=by
 refine ext_getD (by simp[hl]) fun m hm=>?_
 rw[rev_get (by omega),h m (by omega)]
 split
 ·rfl
 ·congr 2;omega

theorem sp85 (n:Int)(h0:0<n)(h1:n<1000000000000):SpecP Tryz.prog G 106 [.nils,.int .i64 n] (.full 0 0) [blkN .i64 []]:=by
 refine fnP_spec hcm hmx T0ok ok106 rfl (ob_o85 n) ?_
 simp
 omega
theorem ct85:CtOk Tryz.prog G 106 (eGrow .i64 8):=by
 intro args r h hp
 unfold eGrow at h
 split at h<;>cases h
 obtain⟨h0,h1⟩:=hp
 exact sp85 _ h0 h1

theorem sp86 (n:Int)(h0:0<n)(h1:n<1000000000000):SpecP Tryz.prog G 107 [.nils,.int .i64 n] (.full 0 0) [blkN .u8 []]:=by
 refine fnP_spec hcm hmx T0ok ok107 rfl (ob_o86 n) ?_
 simp
 omega
theorem ct86:CtOk Tryz.prog G 107 (eGrow .u8 1):=by
 intro args r h hp
 unfold eGrow at h
 split at h<;>cases h
 obtain⟨h0,h1⟩:=hp
 exact sp86 _ h0 h1

theorem uAok:CtsOk Tryz.prog G uA:=⟨ct85,ct86,tlAok⟩
theorem UAok:TabOk Tryz.prog G UA:=tabL_ok noCh_ok uAok

theorem sp65 (x y:List Int)(h0:0<x.length+y.length)(h1:x.length+y.length<100000000000):SpecP Tryz.prog G 66 [.imm (.vals [.imm (.ints .i64 x) x.length none,.imm (.ints .i64 y) y.length none]) 2 none] (.full 0 (x++y).length) [blkN .i64 (x++y)]:=by
 refine fnP_spec hcm hmx UAok ok66 rfl (ob_o65 x y) ?_
 simp
 omega
theorem ct65:CtOk Tryz.prog G 66 (eCat .i64):=by
 intro args r h hp
 unfold eCat at h
 split at h
 ·rw[cond_eq_ite]at h
  split at h
  ·rename_i hk
   rw[Bool.and_eq_true]at hk
   cases h
   obtain⟨rfl,rfl,h0,h1⟩:=hp
   cases beqK_ok hk.1;cases beqK_ok hk.2
   exact(sp65 _ _ h0 h1).caps
  ·cases h
 ·cases h

theorem sp66 (x y:List Int)(h0:0<x.length+y.length)(h1:x.length+y.length<100000000000):SpecP Tryz.prog G 67 [.imm (.vals [.imm (.ints .u8 x) x.length none,.imm (.ints .u8 y) y.length none]) 2 none] (.full 0 (x++y).length) [blkN .u8 (x++y)]:=by
 refine fnP_spec hcm hmx UAok ok67 rfl (ob_o66 x y) ?_
 simp
 omega
theorem ct66:CtOk Tryz.prog G 67 (eCat .u8):=by
 intro args r h hp
 unfold eCat at h
 split at h
 ·rw[cond_eq_ite]at h
  split at h
  ·rename_i hk
   rw[Bool.and_eq_true]at hk
   cases h
   obtain⟨rfl,rfl,h0,h1⟩:=hp
   cases beqK_ok hk.1;cases beqK_ok hk.2
   exact(sp66 _ _ h0 h1).caps
  ·cases h
 ·cases h

theorem uBok:CtsOk Tryz.prog G uB:=⟨ct65,ct66,uAok⟩

theorem sp41b (a:List Int):SpecD Tryz.prog G (.fn 38 [] []) [.full 8640 a.length] [(8640,.blk (blkN .i64 a))] (.fullc 8640 a.length a.length) [] []:=by
 refine fnD_spec hcm hmx T0ok ok38 rfl (ob_d_41b a) ?_
 simp
theorem sp41t (a:List Int):SpecD Tryz.prog G (.fn 38 [] []) [.full 8256 a.length] [(8256,.blk (blkN .i64 a))] (.fullc 8256 a.length a.length) [] []:=by
 refine fnD_spec hcm hmx T0ok ok38 rfl (ob_d_41t a) ?_
 simp
theorem sp68 (a:List Int)(hl:a.length<1000000000000):SpecD Tryz.prog G (.fn 103 [] []) [.fullc 8256 a.length a.length] [(8256,.blk (blkN .i64 a))] (.tup []) [(8256,.blk (blkN .i64 a.reverse))] []:=by
 refine fnD_spec hcm hmx T0ok ok103 rfl (ob_d_68 a) ?_
 simp only[ltb_iff,ltb_no,leb_iff,leb_no,ltn_iff,ltn_no,len'_iff,len'_no,inR_i64,inR_u8,inR_i32,size_ints,size_bools,size_vals,size_cells,getD_drop,List.getElem?_drop,beq_iff_eq,beq_eq_false_iff_ne,bne_iff_ne,bne_eq_false_iff_eq,ne_eq,Nat.zero_add,Nat.add_zero,Nat.mul_one,Int.toNat_natCast,and_true,true_and,List.length_drop,List.length_append,List.length_cons,List.length_nil,List.length_set,List.getD_eq_getElem?_getD,implies_true,iI,iL,Bool.not_eq_true',Bool.not_eq_false',Int.natCast_inj]
 refine⟨by omega,⟨0,rfl,by omega,by omega,fun m hm=>by rw[if_neg (by omega)]⟩,?_⟩
 rintro⟨i,j,l⟩ ⟨n,rfl,rfl,h1,h2,h3⟩
 simp only[Int.toNat_natCast]at h2 h3 ⊢
 refine⟨fun hlt=>?_,fun hge=>?_⟩
 ·have ej:((a.length:Int)-1-n).toNat=a.length-1-n:=by omega
  rw[ej]
  have hs:=revStep h2 (by omega) h3
  refine⟨by omega,by omega,by omega,by omega,by omega,by omega,by omega,by omega,by omega,by omega,by omega,by omega,by omega,by omega,by omega,by omega,by omega,by omega,by omega,by omega,by omega,by omega,⟨n+1,by omega,by omega,by omega,by omega,hs⟩,by omega⟩
 ·have:=revEnd h2 (by omega) h3
  exact⟨by rw[this],this⟩

theorem sp61b (a:List Int):SpecD Tryz.prog G (.fn 39 [] []) [.full 8640 a.length] [(8640,.blk (blkN .u8 a))] (.fullc 8640 a.length a.length) [] []:=by
 refine fnD_spec hcm hmx T0ok ok39 rfl (ob_d_61b a) ?_
 simp
theorem sp61t (a:List Int):SpecD Tryz.prog G (.fn 39 [] []) [.full 8256 a.length] [(8256,.blk (blkN .u8 a))] (.fullc 8256 a.length a.length) [] []:=by
 refine fnD_spec hcm hmx T0ok ok39 rfl (ob_d_61t a) ?_
 simp
theorem sp70 (a:List Int)(hl:a.length<1000000000000):SpecD Tryz.prog G (.fn 105 [] []) [.fullc 8256 a.length a.length] [(8256,.blk (blkN .u8 a))] (.tup []) [(8256,.blk (blkN .u8 a.reverse))] []:=by
 refine fnD_spec hcm hmx T0ok ok105 rfl (ob_d_70 a) ?_
 simp only[ltb_iff,ltb_no,leb_iff,leb_no,ltn_iff,ltn_no,len'_iff,len'_no,inR_i64,inR_u8,inR_i32,size_ints,size_bools,size_vals,size_cells,getD_drop,List.getElem?_drop,beq_iff_eq,beq_eq_false_iff_ne,bne_iff_ne,bne_eq_false_iff_eq,ne_eq,Nat.zero_add,Nat.add_zero,Nat.mul_one,Int.toNat_natCast,and_true,true_and,List.length_drop,List.length_append,List.length_cons,List.length_nil,List.length_set,List.getD_eq_getElem?_getD,implies_true,iI,iL,Bool.not_eq_true',Bool.not_eq_false',Int.natCast_inj]
 refine⟨by omega,⟨0,rfl,by omega,by omega,fun m hm=>by rw[if_neg (by omega)]⟩,?_⟩
 rintro⟨i,j,l⟩ ⟨n,rfl,rfl,h1,h2,h3⟩
 simp only[Int.toNat_natCast]at h2 h3 ⊢
 refine⟨fun hlt=>?_,fun hge=>?_⟩
 ·have ej:((a.length:Int)-1-n).toNat=a.length-1-n:=by omega
  rw[ej]
  have hs:=revStep h2 (by omega) h3
  refine⟨by omega,by omega,by omega,by omega,by omega,by omega,by omega,by omega,by omega,by omega,by omega,by omega,by omega,by omega,by omega,by omega,by omega,by omega,by omega,by omega,by omega,by omega,⟨n+1,by omega,by omega,by omega,by omega,hs⟩,by omega⟩
 ·have:=revEnd h2 (by omega) h3
  exact⟨by rw[this],this⟩

theorem chTok1 {k:IntKind}{id f1:Nat}(h1:∀a,SpecD Tryz.prog G (.fn f1 [] []) [.full id a.length] [(id,.blk (blkN k a))] (.fullc id a.length a.length) [] []):ChOk Tryz.prog G (chT1 k id f1):=by
 intro h cv args r hr hp
 unfold chT1 at hr
 split at hr
 ·simp only[cond_eq_ite]at hr
  split at hr
  ·rename_i hi
   rw[Bool.and_eq_true]at hi
   have e1:=Nat.eq_of_beq_eq_true hi.1;have e2:=Nat.eq_of_beq_eq_true hi.2;subst e1;subst e2
   cases hr
   obtain⟨rfl,rfl⟩:=hp
   exact h1 _
  ·cases hr
 ·cases hr
theorem chTok {k:IntKind}{id f1 f2:Nat}(h1:∀a,SpecD Tryz.prog G (.fn f1 [] []) [.full id a.length] [(id,.blk (blkN k a))] (.fullc id a.length a.length) [] [])(h2:∀a:List Int,a.length<1000000000000→SpecD Tryz.prog G (.fn f2 [] []) [.fullc id a.length a.length] [(id,.blk (blkN k a))] (.tup []) [(id,.blk (blkN k a.reverse))] []):ChOk Tryz.prog G (chT k id f1 f2):=by
 intro h cv args r hr hp
 unfold chT at hr
 split at hr
 ·simp only[cond_eq_ite]at hr
  split at hr
  ·rename_i hi
   rw[Bool.and_eq_true]at hi
   have e1:=Nat.eq_of_beq_eq_true hi.1;have e2:=Nat.eq_of_beq_eq_true hi.2;subst e1;subst e2
   cases hr
   obtain⟨rfl,rfl⟩:=hp
   exact h1 _
  ·cases hr
 ·simp only[cond_eq_ite]at hr
  split at hr
  ·rename_i hi
   rw[Bool.and_eq_true]at hi
   have e1:=Nat.eq_of_beq_eq_true hi.1;have e2:=Nat.eq_of_beq_eq_true hi.2;subst e1;subst e2
   cases hr
   obtain⟨rfl,rfl,rfl,hl⟩:=hp
   exact h2 _ hl
  ·cases hr
 ·cases hr
theorem UB42ok:TabOk Tryz.prog G UB42:=tabL_ok (chTok1 sp41b) uBok
theorem UB43ok:TabOk Tryz.prog G UB43:=tabL_ok (chTok1 sp61b) uBok

theorem sp42 (a:List Int)(i:Int)(h0:0<a.length)(hl:a.length<100000000000)(h1:0≤i)(h2:i≤a.length):SpecP Tryz.prog G 42 [.imm (.ints .i64 a) a.length none,.int .i64 i] (.fullc 0 (rotL' a i.toNat).length (rotL' a i.toNat).length) [blkN .i64 (rotL' a i.toNat)]:=by
 refine fnP_spec hcm hmx UB42ok ok42 rfl (ob_o42 a i) ?_
 simp[rotL',h1]
 omega
theorem ct42:CtOk Tryz.prog G 42 (eBegun .i64):=by
 intro args r h hp
 unfold eBegun at h
 split at h
 ·rw[cond_eq_ite]at h
  split at h
  ·rename_i hk
   cases h
   cases beqK_ok hk
   obtain⟨rfl,h0,hl,h1,h2⟩:=hp
   exact(sp42 _ _ h0 hl h1 h2).caps
  ·cases h
 ·cases h
theorem sp67 (a:List Int)(h0:0<a.length)(hl:a.length<100000000000):SpecP Tryz.prog G 102 [.imm (.ints .i64 a) a.length none] (.full 0 a.length) [blkN .i64 a]:=by
 refine fnP_spec hcm hmx T0ok ok102 rfl (ob_o67 a) ?_
 simp[h0]
 omega
theorem sp67z:SpecP Tryz.prog G 102 [.imm (.ints .i64 []) 0 none] (.imm (.ints .i64 []) 0 none) []:=by
 refine fnP_spec hcm hmx T0ok ok102 rfl ob_o67z ?_
 simp
theorem sp68z:SpecP Tryz.prog G 103 [.imm (.ints .i64 []) 0 none] (.tup []) []:=by
 refine fnP_spec hcm hmx T0ok ok103 rfl ob_o68z ?_
 simp
theorem ct67:CtOk Tryz.prog G 102 (eCloneP .i64):=by
 intro args r h hp
 unfold eCloneP at h
 split at h
 ·rw[cond_eq_ite]at h
  split at h
  ·rename_i hk
   cases h
   cases beqK_ok hk
   obtain⟨rfl,h0,hl⟩:=hp
   exact(sp67 _ h0 hl).caps
  ·cases h
 ·cases h
theorem ct67z:CtOk Tryz.prog G 102 (eCloneZ .i64):=by
 intro args r h hp
 unfold eCloneZ at h
 split at h
 ·rw[cond_eq_ite]at h
  split at h
  ·rename_i hk
   cases h
   cases beqK_ok hk
   obtain⟨rfl,rfl⟩:=hp
   exact sp67z.caps
  ·cases h
 ·cases h
theorem ct68z:CtOk Tryz.prog G 103 (eRevZ .i64):=by
 intro args r h hp
 unfold eRevZ at h
 split at h
 ·rw[cond_eq_ite]at h
  split at h
  ·rename_i hk
   cases h
   cases beqK_ok hk
   obtain⟨rfl,rfl⟩:=hp
   exact sp68z.caps
  ·cases h
 ·cases h

theorem sp43 (a:List Int)(i:Int)(h0:0<a.length)(hl:a.length<100000000000)(h1:0≤i)(h2:i≤a.length):SpecP Tryz.prog G 43 [.imm (.ints .u8 a) a.length none,.int .i64 i] (.fullc 0 (rotL' a i.toNat).length (rotL' a i.toNat).length) [blkN .u8 (rotL' a i.toNat)]:=by
 refine fnP_spec hcm hmx UB43ok ok43 rfl (ob_o43 a i) ?_
 simp[rotL',h1]
 omega
theorem ct43:CtOk Tryz.prog G 43 (eBegun .u8):=by
 intro args r h hp
 unfold eBegun at h
 split at h
 ·rw[cond_eq_ite]at h
  split at h
  ·rename_i hk
   cases h
   cases beqK_ok hk
   obtain⟨rfl,h0,hl,h1,h2⟩:=hp
   exact(sp43 _ _ h0 hl h1 h2).caps
  ·cases h
 ·cases h
theorem sp69 (a:List Int)(h0:0<a.length)(hl:a.length<100000000000):SpecP Tryz.prog G 104 [.imm (.ints .u8 a) a.length none] (.full 0 a.length) [blkN .u8 a]:=by
 refine fnP_spec hcm hmx T0ok ok104 rfl (ob_o69 a) ?_
 simp[h0]
 omega
theorem sp69z:SpecP Tryz.prog G 104 [.imm (.ints .u8 []) 0 none] (.imm (.ints .u8 []) 0 none) []:=by
 refine fnP_spec hcm hmx T0ok ok104 rfl ob_o69z ?_
 simp
theorem sp70z:SpecP Tryz.prog G 105 [.imm (.ints .u8 []) 0 none] (.tup []) []:=by
 refine fnP_spec hcm hmx T0ok ok105 rfl ob_o70z ?_
 simp
theorem ct69:CtOk Tryz.prog G 104 (eCloneP .u8):=by
 intro args r h hp
 unfold eCloneP at h
 split at h
 ·rw[cond_eq_ite]at h
  split at h
  ·rename_i hk
   cases h
   cases beqK_ok hk
   obtain⟨rfl,h0,hl⟩:=hp
   exact(sp69 _ h0 hl).caps
  ·cases h
 ·cases h
theorem ct69z:CtOk Tryz.prog G 104 (eCloneZ .u8):=by
 intro args r h hp
 unfold eCloneZ at h
 split at h
 ·rw[cond_eq_ite]at h
  split at h
  ·rename_i hk
   cases h
   cases beqK_ok hk
   obtain⟨rfl,rfl⟩:=hp
   exact sp69z.caps
  ·cases h
 ·cases h
theorem ct70z:CtOk Tryz.prog G 105 (eRevZ .u8):=by
 intro args r h hp
 unfold eRevZ at h
 split at h
 ·rw[cond_eq_ite]at h
  split at h
  ·rename_i hk
   cases h
   cases beqK_ok hk
   obtain⟨rfl,rfl⟩:=hp
   exact sp70z.caps
  ·cases h
 ·cases h

theorem uPok:CtsOk Tryz.prog G uP:=⟨ct67,ct69,uBok⟩
theorem UP44ok:TabOk Tryz.prog G UP44:=tabL_ok (chTok sp41t sp68) uPok
theorem UP45ok:TabOk Tryz.prog G UP45:=tabL_ok (chTok sp61t sp70) uPok
theorem uZok:CtsOk Tryz.prog G uZ:=⟨ct67z,ct69z,ct68z,ct70z,uBok⟩
theorem UZ44ok:TabOk Tryz.prog G UZ44:=tabL_ok noCh_ok uZok
theorem sp44 (a:List Int)(hl:a.length<100000000000):SpecP Tryz.prog G 64 [.imm (.ints .i64 a) a.length none] (.imm (.ints .i64 a.reverse) a.length (some a.length)) []:=by
 by_cases h:a=[]
 ·subst h
  refine fnP_spec hcm hmx UZ44ok ok64 rfl ob_o44z ?_
  simp
 ·refine fnP_spec hcm hmx UP44ok ok64 rfl (ob_o44p a) ?_
  have:0<a.length:=List.length_pos_iff.2 h
  simp[this,hl]
  omega
theorem sp45 (a:List Int)(hl:a.length<100000000000):SpecP Tryz.prog G 65 [.imm (.ints .u8 a) a.length none] (.imm (.ints .u8 a.reverse) a.length (some a.length)) []:=by
 by_cases h:a=[]
 ·subst h
  refine fnP_spec hcm hmx UZ44ok ok65 rfl ob_o45z ?_
  simp
 ·refine fnP_spec hcm hmx UP45ok ok65 rfl (ob_o45p a) ?_
  have:0<a.length:=List.length_pos_iff.2 h
  simp[this,hl]
  omega
theorem ct44:CtOk Tryz.prog G 64 (eTurned .i64):=by
 intro args r h hp
 unfold eTurned at h
 split at h
 ·rw[cond_eq_ite]at h
  split at h
  ·rename_i hk
   cases h
   cases beqK_ok hk
   obtain⟨rfl,hl⟩:=hp
   exact(sp44 _ hl).caps
  ·cases h
 ·cases h
theorem ct45:CtOk Tryz.prog G 65 (eTurned .u8):=by
 intro args r h hp
 unfold eTurned at h
 split at h
 ·rw[cond_eq_ite]at h
  split at h
  ·rename_i hk
   cases h
   cases beqK_ok hk
   obtain⟨rfl,hl⟩:=hp
   exact(sp45 _ hl).caps
  ·cases h
 ·cases h
theorem uCok:CtsOk Tryz.prog G uC:=⟨ct42,ct43,ct44,ct45,uBok⟩
theorem UCok:TabOk Tryz.prog G UC:=tabL_ok noCh_ok uCok
theorem sp20 (a k:List Int)(hl:a.length<100000000000)(hk:k.length<100000000000):SpecP Tryz.prog G 41 [fanV a k] (fanC a.reverse (mirK' k)) []:=by
 by_cases h:k=[]
 ·subst h
  refine fnP_spec hcm hmx UCok ok41 rfl (ob_o20z a []) ?_
  simp[hl,mirK',rotL']
 ·refine fnP_spec hcm hmx UCok ok41 rfl (ob_o20f a k) ?_
  have:0<k.length:=List.length_pos_iff.2 h
  have e:((k.length:Int)-1).toNat=k.length-1:=by omega
  simp only[ltb_iff,ltb_no,leb_iff,leb_no,ltn_iff,ltn_no,len'_iff,len'_no,inR_i64,inR_u8,inR_i32,size_ints,size_bools,size_vals,size_cells,getD_drop,List.getElem?_drop,beq_iff_eq,beq_eq_false_iff_ne,bne_iff_ne,bne_eq_false_iff_eq,ne_eq,Nat.zero_add,Nat.add_zero,Nat.mul_one,Int.toNat_natCast,and_true,true_and,List.length_drop,List.length_append,List.length_cons,List.length_nil,List.length_set,List.getD_eq_getElem?_getD,implies_true,iI,iL,Bool.not_eq_true',Bool.not_eq_false',Int.natCast_inj,List.length_reverse,e,mirK']
  omega
end Go.Proofs.YtfafinkgmhkdmaaGreatDoor.X
