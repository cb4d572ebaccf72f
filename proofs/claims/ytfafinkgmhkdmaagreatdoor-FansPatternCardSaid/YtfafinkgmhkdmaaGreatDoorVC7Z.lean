/-
 The contracts of comparisons, of turns by value.
-/
import Derived.Test.YtfafinkgmhkdmaaGreatDoorVO7Z
import Derived.Test.YtfafinkgmhkdmaaGreatDoorVC6hZ
set_option maxRecDepth 1000000
set_option linter.unusedVariables false
set_option linter.unusedSimpArgs false
namespace Go.Proofs.YtfafinkgmhkdmaaGreatDoor.X
open Go Go.Ab

theorem ct75:CtOk Tryz.prog G 51 (eNaN .i64):=by
 intro args r h hp
 unfold eNaN at h
 split at h
 ·rw[cond_eq_ite]at h
  split at h
  ·rename_i hk
   cases beqK_ok hk
   cases h
   refine fnP_spec hcm hmx T0ok ok51 rfl (ob_o75 _) ?_
   simp
  ·cases h
 ·cases h
theorem ct87:CtOk Tryz.prog G 128 (eNaN .u8):=by
 intro args r h hp
 unfold eNaN at h
 split at h
 ·rw[cond_eq_ite]at h
  split at h
  ·rename_i hk
   cases beqK_ok hk
   cases h
   refine fnP_spec hcm hmx T0ok ok128 rfl (ob_o87 _) ?_
   simp
  ·cases h
 ·cases h
theorem WNok:TabOk Tryz.prog G WN:=tabL_ok noCh_ok ⟨ct75,ct87,trivial⟩
theorem cmp_ob (x y:Int):((ltb x y=true→ -1=cmpI x y∧True)∧(ltb x y=false→(ltb y x=true→1=cmpI x y∧True)∧(ltb y x=false→0=cmpI x y∧True))):=by
 simp only[ltb_iff,ltb_no,and_true,cmpI]
 refine⟨fun h=>by rw[if_pos h],fun h=>⟨fun h2=>by rw[if_neg (by omega),if_pos h2],fun h2=>by rw[if_neg (by omega),if_neg (by omega)]⟩⟩
theorem ct52:CtOk Tryz.prog G 22 (eCmpI .i64):=by
 intro args r h hp
 unfold eCmpI at h
 split at h
 ·rw[cond_eq_ite]at h
  split at h
  ·rename_i hk
   rw[Bool.and_eq_true]at hk
   cases beqK_ok hk.1;cases beqK_ok hk.2
   cases h
   exact fnP_spec hcm hmx WNok ok22 rfl (ob_o52 _ _) (cmp_ob _ _)
  ·cases h
 ·cases h
theorem ct72:CtOk Tryz.prog G 109 (eCmpI .u8):=by
 intro args r h hp
 unfold eCmpI at h
 split at h
 ·rw[cond_eq_ite]at h
  split at h
  ·rename_i hk
   rw[Bool.and_eq_true]at hk
   cases beqK_ok hk.1;cases beqK_ok hk.2
   cases h
   exact fnP_spec hcm hmx WNok ok109 rfl (ob_o72 _ _) (cmp_ob _ _)
  ·cases h
 ·cases h
theorem sp47 (x y:Int):SpecP Tryz.prog G 21 [.imm (.ints .i64 [x,y]) 2 none] (.int .i64 (orI x y)) []:=by
 refine fnP_spec hcm hmx T0ok ok21 rfl (ob_o47 x y) ?_
 by_cases hx:x=0
 ·by_cases hy:y=0<;>simp[orI,hx,hy]
 ·simp[orI,hx]
theorem ct47:CtOk Tryz.prog G 21 e47:=by
 intro args r h hp
 unfold e47 at h
 split at h<;>cases h
 exact(sp47 _ _).caps
theorem wAok:CtsOk Tryz.prog G wA:=⟨ct52,ct72,ct75,ct87,ct47,uCok⟩
theorem WAok:TabOk Tryz.prog G WA:=tabL_ok noCh_ok wAok
theorem cmpL_step {a b:List Int}{n:Nat}(h:n<a.length)(h2:n<b.length):cmpL (a.drop n) (b.drop n)=if cmpI (a[n]?.getD 0) (b[n]?.getD 0)=0 then cmpL (a.drop (n+1)) (b.drop (n+1))else cmpI (a[n]?.getD 0) (b[n]?.getD 0):=by
 rw[drop_step h,drop_step h2]
 simp only[cmpL,cmpI]
 split
 ·rfl
 ·split
  ·rfl
  ·rfl
theorem cmpL_end1 {a b:List Int}{n:Nat}(h:n<a.length)(h2:b.length≤n):cmpL (a.drop n) (b.drop n)=1:=by
 rw[drop_step h,List.drop_of_length_le h2];rfl
theorem cmpL_end2 {a b:List Int}{n:Nat}(h:a.length≤n)(h2:n<b.length):cmpL (a.drop n) (b.drop n)= -1:=by
 rw[drop_step h2,List.drop_of_length_le h];rfl
theorem cmpL_end3 {a b:List Int}{n:Nat}(h:a.length≤n)(h2:b.length≤n):cmpL (a.drop n) (b.drop n)=0:=by
 rw[List.drop_of_length_le h,List.drop_of_length_le h2];rfl
theorem sp48 (a b:List Int)(hz:a.length<1000000000000)(hb:b.length<1000000000000):SpecP Tryz.prog G 69 [.imm (.ints .i64 a) a.length none,.imm (.ints .i64 b) b.length none] (.int .i64 (cmpL a b)) []:=by
 refine fnP_spec hcm hmx WAok ok69 rfl (ob_o48 a b) ?_
 simp only[ltb_iff,ltb_no,leb_iff,leb_no,ltn_iff,ltn_no,len'_iff,len'_no,inR_i64,inR_u8,inR_i32,size_ints,size_bools,size_vals,size_cells,getD_drop,List.getElem?_drop,beq_iff_eq,beq_eq_false_iff_ne,bne_iff_ne,bne_eq_false_iff_eq,ne_eq,Nat.zero_add,Nat.add_zero,Nat.mul_one,Int.toNat_natCast,and_true,true_and,List.length_drop,List.length_append,List.length_cons,List.length_nil,List.length_set,List.getD_eq_getElem?_getD,implies_true,iI,iL,Bool.not_eq_true',Bool.not_eq_false',Int.natCast_inj]
 refine⟨⟨0,rfl,by omega,by omega,rfl⟩,?_⟩
 rintro⟨i⟩ ⟨n,rfl,h1,h2,h3⟩
 simp only[Int.toNat_natCast]at h3 ⊢
 refine⟨fun hlt=>⟨by omega,by omega,by omega,by omega,fun hge=>?_,fun hlb=>?_⟩,fun hge=>⟨fun hl=>?_,fun hl=>?_⟩⟩
 ·rw[← h3,cmpL_end1 (by omega) (by omega)]
 ·have hs:=cmpL_step (a:=a) (b:=b) (n:=n) (by omega) (by omega)
  refine⟨by omega,by omega,by omega,by omega,fun hc=>?_,fun hc=>⟨by omega,⟨n+1,by omega,by omega,by omega,?_⟩,by omega⟩⟩
  ·rw[if_neg hc]at hs;rw[← h3,hs]
  ·rw[if_pos hc]at hs;rw[← h3,hs]
 ·rw[← h3,cmpL_end2 (by omega) (by omega)]
 ·rw[← h3,cmpL_end3 (by omega) (by omega)]
theorem sp49 (a b:List Int)(hz:a.length<1000000000000)(hb:b.length<1000000000000):SpecP Tryz.prog G 70 [.imm (.ints .u8 a) a.length none,.imm (.ints .u8 b) b.length none] (.int .i64 (cmpL a b)) []:=by
 refine fnP_spec hcm hmx WAok ok70 rfl (ob_o49 a b) ?_
 simp only[ltb_iff,ltb_no,leb_iff,leb_no,ltn_iff,ltn_no,len'_iff,len'_no,inR_i64,inR_u8,inR_i32,size_ints,size_bools,size_vals,size_cells,getD_drop,List.getElem?_drop,beq_iff_eq,beq_eq_false_iff_ne,bne_iff_ne,bne_eq_false_iff_eq,ne_eq,Nat.zero_add,Nat.add_zero,Nat.mul_one,Int.toNat_natCast,and_true,true_and,List.length_drop,List.length_append,List.length_cons,List.length_nil,List.length_set,List.getD_eq_getElem?_getD,implies_true,iI,iL,Bool.not_eq_true',Bool.not_eq_false',Int.natCast_inj]
 refine⟨⟨0,rfl,by omega,by omega,rfl⟩,?_⟩
 rintro⟨i⟩ ⟨n,rfl,h1,h2,h3⟩
 simp only[Int.toNat_natCast]at h3 ⊢
 refine⟨fun hlt=>⟨by omega,by omega,by omega,by omega,fun hge=>?_,fun hlb=>?_⟩,fun hge=>⟨fun hl=>?_,fun hl=>?_⟩⟩
 ·rw[← h3,cmpL_end1 (by omega) (by omega)]
 ·have hs:=cmpL_step (a:=a) (b:=b) (n:=n) (by omega) (by omega)
  refine⟨by omega,by omega,by omega,by omega,fun hc=>?_,fun hc=>⟨by omega,⟨n+1,by omega,by omega,by omega,?_⟩,by omega⟩⟩
  ·rw[if_neg hc]at hs;rw[← h3,hs]
  ·rw[if_pos hc]at hs;rw[← h3,hs]
 ·rw[← h3,cmpL_end2 (by omega) (by omega)]
 ·rw[← h3,cmpL_end3 (by omega) (by omega)]
theorem ct48:CtOk Tryz.prog G 69 (eCmp .i64):=by
 intro args r h hp
 unfold eCmp at h
 split at h
 ·rw[cond_eq_ite]at h
  split at h
  ·rename_i hk
   rw[Bool.and_eq_true]at hk
   cases beqK_ok hk.1;cases beqK_ok hk.2
   cases h
   obtain⟨rfl,rfl,h1,h2⟩:=hp
   exact(sp48 _ _ h1 h2).caps
  ·cases h
 ·cases h
theorem ct49:CtOk Tryz.prog G 70 (eCmp .u8):=by
 intro args r h hp
 unfold eCmp at h
 split at h
 ·rw[cond_eq_ite]at h
  split at h
  ·rename_i hk
   rw[Bool.and_eq_true]at hk
   cases beqK_ok hk.1;cases beqK_ok hk.2
   cases h
   obtain⟨rfl,rfl,h1,h2⟩:=hp
   exact(sp49 _ _ h1 h2).caps
  ·cases h
 ·cases h
theorem ev38e:evM G (aget xpl) nats me0 100000 1000 1 [] (.fn 38 [] []) [AV.imm (Cont.ints IntKind.i64 []) 0 none]=some ⟨AV.imm (Cont.ints IntKind.i64 []) 0 (some 0),[],[],[]⟩:=by kernel_rfl
theorem ev39e:evM G (aget xpl) nats me0 100000 1000 1 [] (.fn 39 [] []) [AV.imm (Cont.ints IntKind.u8 []) 0 none]=some ⟨AV.imm (Cont.ints IntKind.u8 []) 0 (some 0),[],[],[]⟩:=by kernel_rfl
def memz:List Mem:=[⟨38,[AV.imm (Cont.ints IntKind.i64 []) 0 none],AV.imm (Cont.ints IntKind.i64 []) 0 (some 0),[]⟩,⟨39,[AV.imm (Cont.ints IntKind.u8 []) 0 none],AV.imm (Cont.ints IntKind.u8 []) 0 (some 0),[]⟩]
theorem memzOk:MemOk Tryz.prog G memz:=⟨specP_of_evM hcm hmx xpOk natsOk me0Ok ev38e rfl,specP_of_evM hcm hmx xpOk natsOk me0Ok ev39e rfl,trivial⟩
theorem mezOk:TBok Tryz.prog G (memoT (memF memz)):=memoT_ok (memF_ok memzOk)
theorem ev42:evM G (aget xpl) nats (memoT (memF memz)) 100000 1000 1 [] (.fn 42 [] []) [AV.imm (Cont.ints IntKind.i64 []) 0 none,.int .i64 0]=some ⟨AV.imm (Cont.ints IntKind.i64 []) 0 (some 0),[],[],[]⟩:=by kernel_rfl
theorem ev43:evM G (aget xpl) nats (memoT (memF memz)) 100000 1000 1 [] (.fn 43 [] []) [AV.imm (Cont.ints IntKind.u8 []) 0 none,.int .i64 0]=some ⟨AV.imm (Cont.ints IntKind.u8 []) 0 (some 0),[],[],[]⟩:=by kernel_rfl
theorem sp42i (a:List Int)(i:Int)(hl:a.length<100000000000)(h1:0≤i)(h2:i≤a.length):SpecP Tryz.prog G 42 [.imm (.ints .i64 a) a.length none,.int .i64 i] (immL .i64 (rotL' a i.toNat)) []:=by
 by_cases h:a=[]
 ·subst h
  obtain rfl:i=0:=by simp at h2;omega
  exact specP_of_evM hcm hmx xpOk natsOk mezOk ev42 rfl
 ·have h0:0<a.length:=List.length_pos_iff.2 h
  refine fnP_spec hcm hmx UB42ok ok42 rfl (ob_o42i a i) ?_
  simp[rotL',h1]
  omega
theorem sp43i (a:List Int)(i:Int)(hl:a.length<100000000000)(h1:0≤i)(h2:i≤a.length):SpecP Tryz.prog G 43 [.imm (.ints .u8 a) a.length none,.int .i64 i] (immL .u8 (rotL' a i.toNat)) []:=by
 by_cases h:a=[]
 ·subst h
  obtain rfl:i=0:=by simp at h2;omega
  exact specP_of_evM hcm hmx xpOk natsOk mezOk ev43 rfl
 ·have h0:0<a.length:=List.length_pos_iff.2 h
  refine fnP_spec hcm hmx UB43ok ok43 rfl (ob_o43i a i) ?_
  simp[rotL',h1]
  omega
theorem ct42i:CtOk Tryz.prog G 42 (eBegI .i64):=by
 intro args r h hp
 unfold eBegI at h
 split at h
 ·rw[cond_eq_ite]at h
  split at h
  ·rename_i hk
   cases beqK_ok hk
   cases h
   obtain⟨rfl,hl,h1,h2⟩:=hp
   exact(sp42i _ _ hl h1 h2).caps
  ·cases h
 ·cases h
theorem ct43i:CtOk Tryz.prog G 43 (eBegI .u8):=by
 intro args r h hp
 unfold eBegI at h
 split at h
 ·rw[cond_eq_ite]at h
  split at h
  ·rename_i hk
   cases beqK_ok hk
   cases h
   obtain⟨rfl,hl,h1,h2⟩:=hp
   exact(sp43i _ _ hl h1 h2).caps
  ·cases h
 ·cases h
theorem wBok:CtsOk Tryz.prog G wB:=⟨ct42i,ct43i,ct48,ct49,wAok⟩
theorem WBok:TabOk Tryz.prog G WB:=tabL_ok noCh_ok wBok
theorem sp19f (a k:List Int)(i:Int)(hl:a.length<100000000000)(hc:chk a k=0):SpecP Tryz.prog G 12 [fanV a k,.int .i64 i] (.tup [.agg [immL .i64 (bLt (tOk a i) (rotL' a i.toNat)),immL .u8 (bLt (tOk a i) (rotL' k i.toNat))],.int .i64 (bI (tOk a i) 0 1)]) []:=by
 refine fnP_spec hcm hmx WBok ok12 rfl (ob_o19f a k i) ?_
 have hk:=chk_len hc
 simp only[ltb_iff,ltb_no,leb_iff,leb_no,ltn_iff,ltn_no,len'_iff,len'_no,inR_i64,inR_u8,inR_i32,size_ints,size_bools,size_vals,size_cells,getD_drop,List.getElem?_drop,beq_iff_eq,beq_eq_false_iff_ne,bne_iff_ne,bne_eq_false_iff_eq,ne_eq,Nat.zero_add,Nat.add_zero,Nat.mul_one,Int.toNat_natCast,and_true,true_and,List.length_drop,List.length_append,List.length_cons,List.length_nil,List.length_set,List.getD_eq_getElem?_getD,implies_true,iI,iL,Bool.not_eq_true',Bool.not_eq_false',Int.natCast_inj]
 refine⟨by omega,fun h=>absurd hc h,fun _=>⟨fun h=>?_,fun h=>⟨fun h2=>?_,fun h2=>?_⟩⟩⟩
 ·have e:tOk a i=false:=by unfold tOk;rw[decide_eq_false_iff_not];omega
  simp[e,bLt,bI]
 ·have e:tOk a i=false:=by
   unfold tOk;rw[decide_eq_false_iff_not]
   split at h2<;>omega
  simp[e,bLt,bI]
 ·have e:tOk a i=true:=by
   unfold tOk;rw[decide_eq_true_eq]
   split at h2<;>omega
  have hi:i≤a.length:=by
   split at h2<;>omega
  simp[e,bLt,bI]
  omega
theorem ct19f:CtOk Tryz.prog G 12 e19f:=by
 intro args r h hp
 unfold e19f at h
 split at h<;>cases h
 obtain⟨rfl,rfl,h1,h2⟩:=hp
 exact(sp19f _ _ _ h1 h2).caps
end Go.Proofs.YtfafinkgmhkdmaaGreatDoor.X
