/-
 Strips: the contracts of a folded strip's methods.
-/
import Derived.Test.YthiammkiobbclaaO30Z
import Derived.Test.YthiammkiobbclaaC20Z
set_option maxRecDepth 1000000
set_option linter.unusedVariables false
set_option linter.unusedSimpArgs false
namespace Go.Proofs.Ythiammkiobbclaa.X
open Go Go.Ab

theorem st74:CtOk Try.prog G 74 (rg59 mnI):=by
 intro args r h hp
 unfold rg59 at h
 split at h<;>cases h
 rename_i a n _ k m _ r p _ s
 obtain⟨⟨rfl,rfl,rfl⟩,h1,h2,h3⟩:=hp
 refine con_caps (fnP_spec hcm hmx T0ok ok74 rfl (ob_s74 a k r s) ?_)
 dsimp -failIfUnchanged -proj -eta -iota -zeta only[rd,rdw,qs,ql,qx]
 simp only[inR_i64,and_true,true_and,ltb_iff,leb_iff,ltn_iff,size_ints,List.length_drop,gR0]
 and_intros<;>first|omega|rfl
theorem st75:CtOk Try.prog G 75 (rg59 mxI):=by
 intro args r h hp
 unfold rg59 at h
 split at h<;>cases h
 rename_i a n _ k m _ r p _ s
 obtain⟨⟨rfl,rfl,rfl⟩,h1,h2,h3⟩:=hp
 refine con_caps (fnP_spec hcm hmx T0ok ok75 rfl (ob_s75 a k r s) ?_)
 dsimp -failIfUnchanged -proj -eta -iota -zeta only[rd,rdw,qs,ql,qx]
 simp only[inR_i64,and_true,true_and,ltb_iff,leb_iff,ltn_iff,size_ints,List.length_drop,gR0]
 and_intros<;>first|omega|rfl
theorem U74ok:TabOk Try.prog G U74:=tabL_ok noCh_ok ⟨st74,st75,trivial⟩
theorem st55:CtOk Try.prog G 55 s55:=by
 intro args r h hp
 unfold s55 at h
 split at h<;>cases h
 rename_i a n _ k m _ r p _ i j
 obtain⟨⟨rfl,rfl,rfl⟩,h1,h2,h3,h4,h5⟩:=hp
 refine con_caps (fnP_spec hcm hmx U74ok ok55 rfl (ob_s55 a k r i j) ?_)
 dsimp -failIfUnchanged -proj -eta -iota -zeta only[rd,rdw,qs,ql,qx]
 have hc:=cok_self a k r
 refine⟨⟨hc,h1,h2,h5⟩,⟨hc,h3,h4,h5⟩,id,id,fun _=>⟨hc,h3,h4,h5⟩,id,id,fun _=>⟨hc,h1,h2,h5⟩,id,id,?_,?_,trivial⟩
 ·cases ltb (mnI (gR r i) (gR r (i+1))) (mxI (gR r j) (gR r (j+1)))<;>rfl
 ·unfold ovS
  cases ltb (mnI (gR r i) (gR r (i+1))) (mxI (gR r j) (gR r (j+1)))<;>rfl
theorem isZ_ok:∀(n:Nat) (tl:List AV),isZ n tl=true→tl=List.replicate n (.int .i64 0):=by
 intro n tl
 fun_induction isZ n tl with
 |case1=>intro _;rfl
 |case2 n l ih=>intro h;rw[ih h];rfl
 |case3=>intro h;cases h
theorem isZ_24 {tl:List AV}(h:isZ 24 tl=true):tl=z24:=isZ_ok 24 tl h
theorem z32get {x0 x1 x2 x3 x4 x5 x6 x7 c:Int}(h0:0≤c)(h1:c<8):([.int .i64 x0,.int .i64 x1,.int .i64 x2,.int .i64 x3,.int .i64 x4,.int .i64 x5,.int .i64 x6,.int .i64 x7,.int .i64 0,.int .i64 0,.int .i64 0,.int .i64 0,.int .i64 0,.int .i64 0,.int .i64 0,.int .i64 0,.int .i64 0,.int .i64 0,.int .i64 0,.int .i64 0,.int .i64 0,.int .i64 0,.int .i64 0,.int .i64 0,.int .i64 0,.int .i64 0,.int .i64 0,.int .i64 0,.int .i64 0,.int .i64 0,.int .i64 0,.int .i64 0]:List AV)[c.toNat]? =some (.int .i64 (gR [x0,x1,x2,x3,x4,x5,x6,x7] c)):=by
 have hc:c=0∨c=1∨c=2∨c=3∨c=4∨c=5∨c=6∨c=7:=by omega
 rcases hc with rfl|rfl|rfl|rfl|rfl|rfl|rfl|rfl<;>rfl
theorem st71:CtOk Try.prog G 71 s71:=by
 intro args r h hp
 unfold s71 at h
 split at h
 ·rename_i x0 x1 x2 x3 x4 x5 x6 x7 tl c
  cases hM:isZ 24 tl with
  |false=>rw[hM,cond_false]at h;cases h
  |true=>
  rw[hM,cond_true]at h
  cases h
  obtain rfl:=isZ_24 hM
  obtain⟨h0,h1⟩:=hp
  refine(fnP_spec hcm hmx T0ok ok71 rfl (ob_s71 x0 x1 x2 x3 x4 x5 x6 x7 c) ?_:SpecP Try.prog G 71 _ _ [])
  dsimp -failIfUnchanged -proj -eta -iota -zeta only[rd,rdw,qs,ql,qx]
  have hm:c.tmod 2=c%2:=Int.tmod_eq_emod_of_nonneg h0
  have o1:c+1-c.tmod 2=odI c:=rfl
  have o2:2*c+1-odI c=evI c:=rfl
  have b1:0≤odI c∧odI c<8:=by rw[← o1,hm];omega
  have b2:0≤evI c∧evI c<8:=by rw[← o2,← o1,hm];omega
  rw[o1,o2]
  rw[z32get b1.1 b1.2,z32get b2.1 b2.2]
  simp only[inR_i64,and_true,true_and,leb_iff,ltb_iff,ltb_no]
  refine⟨by omega,by omega,by omega,by omega,by omega,by omega,by omega,by omega,by omega,fun e=>?_,fun e=>?_⟩
  ·unfold kdS;rw[if_pos e]
  ·unfold kdS;rw[if_neg (by omega)]
 ·cases h
theorem rzG_eq {o:List Int}(h:okO o):rzG o=rzF o++List.replicate 24 0:=by
 unfold rzG rzF
 rw[show List.replicate 32 (0:Int)=List.replicate 8 0++List.replicate 24 0 from rfl]
 exact rkA_app o _ _ 0 h.2
theorem rzG_lo {o:List Int}(h:okO o){j:Nat}(hj:j<8):(rzG o)[j]?.getD 0=rzO o j:=by
 rw[rzG_eq h,List.getElem?_append_left (by unfold rzF;rw[rkA_len];exact hj)]
 rfl
theorem rzG_hi {o:List Int}(h:okO o){j:Nat}(h1:8≤j)(hj:j<32):(rzG o)[j]?.getD 0=0:=by
 have hl:(rzF o).length=8:=by unfold rzF;rw[rkA_len];rfl
 rw[rzG_eq h,List.getElem?_append_right (by omega),hl,List.getElem?_replicate,if_pos (by omega)]
 rfl
theorem st54:CtOk Try.prog G 54 s54:=by
 intro args r h hp
 unfold s54 at h
 split at h<;>cases h
 rename_i o n _
 obtain⟨rfl,hk⟩:=hp
 have h2:=hk.2
 have h1:=hk.1
 refine(fnP_spec hcm hmx T0ok ok54 rfl (ob_s54 o) ?_:SpecP Try.prog G 54 [.imm (.ints .i64 o) o.length none] _ []).caps
 dsimp -failIfUnchanged -proj -eta -iota -zeta only[rd,rdw,qs,ql,qx]
 simp only[inR_i64,and_true,true_and,leb_iff,ltb_iff,ltb_no,ltn_iff,len'_iff,iI,iL,size_ints,List.length_drop]
 refine⟨⟨0,rfl,by omega,rfl⟩,?_⟩
 rintro⟨i,rk⟩ ⟨m,hi,hm,hl,he⟩
 simp only at hi hl he ⊢
 subst hi
 simp only[Int.toNat_natCast]
 refine⟨fun hlt=>?_,fun hge=>?_⟩
 ·have g:m<o.length:=by omega
  have ex:List.getD (List.drop m o) 0 0=o[m]:=by rw[List.getD_eq_getElem?_getD,List.getElem?_drop,Nat.add_zero,List.getElem?_eq_getElem g];rfl
  have hx:=h2 _ (List.getElem_mem g)
  rw[List.drop_eq_getElem_cons g]at he
  rw[ex]
  refine⟨by omega,by omega,by omega,by omega,by omega,by omega,by omega,by omega,⟨m+1,by omega,by omega,set_len32 hl,he⟩,by omega⟩
 ·rw[List.drop_eq_nil_of_le (by omega)]at he
  have he:rk=rzG o:=he
  subst he
  refine⟨by omega,?_⟩
  simp only[List.getD_eq_getElem?_getD,List.getElem?_cons_zero,List.getElem?_cons_succ,Option.getD_some]
  exact⟨rzG_lo hk (j:=0) (by omega),rzG_lo hk (j:=1) (by omega),rzG_lo hk (j:=2) (by omega),rzG_lo hk (j:=3) (by omega),rzG_lo hk (j:=4) (by omega),rzG_lo hk (j:=5) (by omega),rzG_lo hk (j:=6) (by omega),rzG_lo hk (j:=7) (by omega),rzG_hi hk (j:=8) (by omega) (by omega),rzG_hi hk (j:=9) (by omega) (by omega),rzG_hi hk (j:=10) (by omega) (by omega),rzG_hi hk (j:=11) (by omega) (by omega),rzG_hi hk (j:=12) (by omega) (by omega),rzG_hi hk (j:=13) (by omega) (by omega),rzG_hi hk (j:=14) (by omega) (by omega),rzG_hi hk (j:=15) (by omega) (by omega),rzG_hi hk (j:=16) (by omega) (by omega),rzG_hi hk (j:=17) (by omega) (by omega),rzG_hi hk (j:=18) (by omega) (by omega),rzG_hi hk (j:=19) (by omega) (by omega),rzG_hi hk (j:=20) (by omega) (by omega),rzG_hi hk (j:=21) (by omega) (by omega),rzG_hi hk (j:=22) (by omega) (by omega),rzG_hi hk (j:=23) (by omega) (by omega),rzG_hi hk (j:=24) (by omega) (by omega),rzG_hi hk (j:=25) (by omega) (by omega),rzG_hi hk (j:=26) (by omega) (by omega),rzG_hi hk (j:=27) (by omega) (by omega),rzG_hi hk (j:=28) (by omega) (by omega),rzG_hi hk (j:=29) (by omega) (by omega),rzG_hi hk (j:=30) (by omega) (by omega),rzG_hi hk (j:=31) (by omega) (by omega)⟩

theorem st33:CtOk Try.prog G 33 s33:=by
 intro args r h hp
 unfold s33 at h
 split at h<;>cases h
 rename_i a n _ k m _
 obtain⟨rfl,rfl,h1,h2,h3,h4⟩:=hp
 refine(fnP_spec hcm hmx T0ok ok33 rfl (ob_s33 a k) ?_:SpecP Try.prog G 33 [.agg [.imm (.ints .i64 a) a.length none,.imm (.ints .u8 k) k.length none]] _ []).caps
 dsimp -failIfUnchanged -proj -eta -iota -zeta only[rd,rdw,qs,ql,qx]
 simp only[inR_i64,and_true,true_and,leb_iff,ltb_iff,ltb_no,ltn_iff,size_ints,List.length_drop,bne_iff_ne,bne_eq_false_iff_eq,iI,ne_eq]
 refine⟨fun e=>by omega,fun _=>⟨by omega,fun e=>absurd (by omega) e,fun _=>⟨⟨0,rfl,by omega⟩,?_⟩⟩⟩
 rintro⟨i⟩ ⟨m,hi,hm⟩
 simp only at hi ⊢
 subst hi
 simp only[Int.toNat_natCast]
 refine⟨fun hlt=>?_,fun _=>⟨⟨0,rfl,by omega⟩,?_⟩⟩
 ·have g:m<a.length:=by omega
  have ex:List.getD (List.drop m a) 0 0=a[m]:=by rw[List.getD_eq_getElem?_getD,List.getElem?_drop,Nat.add_zero,List.getElem?_eq_getElem g];rfl
  have hx:=h1 _ (List.getElem_mem g)
  rw[ex]
  exact⟨by omega,by omega,by omega,by omega,fun e=>by omega,fun e=>⟨by omega,by omega,⟨m+1,by omega,by omega⟩,by omega⟩⟩
 ·rintro⟨i⟩ ⟨q,hi,hq⟩
  simp only at hi ⊢
  subst hi
  simp only[Int.toNat_natCast]
  refine⟨fun hlt=>?_,fun _=>trivial⟩
  have g:q<k.length:=by omega
  have ex:List.getD (List.drop q k) 0 0=k[q]:=by rw[List.getD_eq_getElem?_getD,List.getElem?_drop,Nat.add_zero,List.getElem?_eq_getElem g];rfl
  have hx:=h4 _ (List.getElem_mem g)
  rw[ex]
  exact⟨by omega,by omega,by omega,by omega,fun e=>by omega,fun e=>⟨by omega,by omega,⟨q+1,by omega,by omega⟩,by omega⟩⟩
end Go.Proofs.Ythiammkiobbclaa.X
