/-
 Rings: the contracts of a folded ring's methods.
-/
import Derived.Test.YthiammkiobbclaaO20Z
import Derived.Test.YthiammkiobbclaaC9Z
set_option maxRecDepth 1000000
set_option linter.unusedVariables false
set_option linter.unusedSimpArgs false
namespace Go.Proofs.Ythiammkiobbclaa.X
open Go Go.Ab

theorem bhI_eq {n c:Int}(h0:0≤c)(h1:c<n):bhI n c=if c+1=n then 0 else c+1:=by
 unfold bhI
 rw[Int.tmod_eq_emod_of_nonneg (by omega)]
 split
 ·rename_i h;rw[h,Int.emod_self]
 ·rw[Int.emod_eq_of_lt (by omega) (by omega)]
theorem bhI_rng {n c:Int}(h0:0≤c)(h1:c<n):0≤bhI n c∧bhI n c<n:=by
 rw[bhI_eq h0 h1];split<;>omega
theorem bf_bh {n c:Int}(h0:0≤c)(h1:c<n):bfI n (bhI n c)=c:=by
 obtain⟨a,b⟩:=bhI_rng h0 h1
 rw[bfI_eq a b]
 rw[bhI_eq h0 h1]at*
 split<;>split at* <;>omega
theorem bh_bf {n c:Int}(h0:0≤c)(h1:c<n):bhI n (bfI n c)=c:=by
 obtain⟨a,b⟩:=bfI_rng h0 h1
 rw[bhI_eq a b]
 rw[bfI_eq h0 h1]at*
 split<;>split at* <;>omega
theorem isM_ok:∀(n:Nat) (tl:List AV),isM n tl=true→tl=List.replicate n (.int .i64 (-1)):=by
 intro n tl
 fun_induction isM n tl with
 |case1=>intro _;rfl
 |case2 n l ih=>intro h;rw[ih h];rfl
 |case3=>intro h;cases h
theorem isM_24 {tl:List AV}(h:isM 24 tl=true):tl=m24:=isM_ok 24 tl h
theorem x32get {x0 x1 x2 x3 x4 x5 x6 x7 c:Int}(h0:0≤c)(h1:c<8):([.int .i64 x0,.int .i64 x1,.int .i64 x2,.int .i64 x3,.int .i64 x4,.int .i64 x5,.int .i64 x6,.int .i64 x7,.int .i64 (-1),.int .i64 (-1),.int .i64 (-1),.int .i64 (-1),.int .i64 (-1),.int .i64 (-1),.int .i64 (-1),.int .i64 (-1),.int .i64 (-1),.int .i64 (-1),.int .i64 (-1),.int .i64 (-1),.int .i64 (-1),.int .i64 (-1),.int .i64 (-1),.int .i64 (-1),.int .i64 (-1),.int .i64 (-1),.int .i64 (-1),.int .i64 (-1),.int .i64 (-1),.int .i64 (-1),.int .i64 (-1),.int .i64 (-1)]:List AV)[c.toNat]? =some (.int .i64 (gR [x0,x1,x2,x3,x4,x5,x6,x7] c)):=by
 have hc:c=0∨c=1∨c=2∨c=3∨c=4∨c=5∨c=6∨c=7:=by omega
 rcases hc with rfl|rfl|rfl|rfl|rfl|rfl|rfl|rfl<;>rfl
theorem rgt59:CtOk Try.prog G 40 (rg59 mnI):=by
 intro args r h hp
 unfold rg59 at h
 split at h<;>cases h
 rename_i a n _ k m _ r p _ s
 obtain⟨⟨rfl,rfl,rfl⟩,h1,h2,h3⟩:=hp
 refine con_caps (fnP_spec hcm hmx T0ok ok40 rfl (ob_g59 a k r s) ?_)
 dsimp -failIfUnchanged -proj -eta -iota -zeta only[rd,rdw,qs,ql,qx]
 simp only[inR_i64,and_true,true_and,ltb_iff,leb_iff,ltn_iff,size_ints,List.length_drop,gR0]
 and_intros<;>first|omega|rfl
theorem rgt60:CtOk Try.prog G 41 (rg59 mxI):=by
 intro args r h hp
 unfold rg59 at h
 split at h<;>cases h
 rename_i a n _ k m _ r p _ s
 obtain⟨⟨rfl,rfl,rfl⟩,h1,h2,h3⟩:=hp
 refine con_caps (fnP_spec hcm hmx T0ok ok41 rfl (ob_g60 a k r s) ?_)
 dsimp -failIfUnchanged -proj -eta -iota -zeta only[rd,rdw,qs,ql,qx]
 simp only[inR_i64,and_true,true_and,ltb_iff,leb_iff,ltn_iff,size_ints,List.length_drop,gR0]
 and_intros<;>first|omega|rfl
theorem rgt63:CtOk Try.prog G 12 rg63:=by
 intro args r h hp
 unfold rg63 at h
 split at h<;>cases h
 rename_i a n _ k m _ r p _ c
 obtain⟨⟨rfl,rfl,rfl⟩,h1,h2,h3,h4⟩:=hp
 refine con_caps (fnP_spec hcm hmx T0ok ok12 rfl (ob_g63 a k r c) ?_)
 have:((a.length:Int)==0)=false:=by rw[beq_eq_false_iff_ne];omega
 simp only[inR_i64,and_true,true_and,Bool.not_eq_true',this]
 and_intros<;>first|omega|rfl
theorem TR1ok:TabOk Try.prog G TR1:=tabL_ok noCh_ok ⟨rgt63,trivial⟩
theorem rgt61:CtOk Try.prog G 42 rg61:=by
 intro args r h hp
 unfold rg61 at h
 split at h
 ·rename_i a n _ k m _ r p _ x0 x1 x2 x3 x4 x5 x6 x7 tl c s
  cases hM:isM 24 tl with
  |false=>rw[hM,cond_false]at h;cases h
  |true=>
  rw[hM,cond_true]at h
  cases h
  obtain rfl:=isM_24 hM
  obtain⟨⟨rfl,rfl,rfl⟩,h1,h2,h3,h4,h5,h6⟩:=hp
  refine con_caps (fnP_spec hcm hmx TR1ok ok42 rfl (ob_g61 a k r x0 x1 x2 x3 x4 x5 x6 x7 c s) ?_)
  dsimp -failIfUnchanged -proj -eta -iota -zeta only[rd,rdw,qs,ql,qx]
  have hb:=bhI_rng h3 h4
  have g1:=x32get (x0:=x0) (x1:=x1) (x2:=x2) (x3:=x3) (x4:=x4) (x5:=x5) (x6:=x6) (x7:=x7) hb.1 (by omega)
  have g2:=x32get (x0:=x0) (x1:=x1) (x2:=x2) (x3:=x3) (x4:=x4) (x5:=x5) (x6:=x6) (x7:=x7) h3 (by omega)
  have g3:=x32get (x0:=x0) (x1:=x1) (x2:=x2) (x3:=x3) (x4:=x4) (x5:=x5) (x6:=x6) (x7:=x7) h5 (by omega)
  have hbf:=bf_bh h3 h4
  generalize hX:[x0,x1,x2,x3,x4,x5,x6,x7]=X at*
  rw[g1,g2,g3]
  simp only[and_true,true_and,leb_iff,ltb_iff]
  have d1:(if gR X (bhI a.length c)<gR X c then gR X (bhI a.length c)else gR X c)=mnI (gR X c) (gR X (bhI a.length c)):=rfl
  have d2:(if gR X (bhI a.length c)>gR X c then gR X (bhI a.length c)else gR X c)=mxI (gR X c) (gR X (bhI a.length c)):=rfl
  simp only[d1,d2]
  unfold btwB
  rw[hbf]
  generalize mnI (gR X c) (gR X (bhI a.length c))=lo
  generalize mxI (gR X c) (gR X (bhI a.length c))=hi
  refine⟨by omega,by omega,⟨cok_self _ _ _,h1,h2,h3,h4⟩,by omega,by omega,fun e=>⟨by omega,by omega,fun f=>⟨by omega,by omega,?_⟩,fun f=>?_⟩,fun e=>?_⟩
  ·rw[leb_iff.2 e,ltb_iff.2 f];rfl
  ·rw[f];cases leb 0 lo<;>rfl
  ·rw[e];rfl
 ·cases h
theorem bh_par {n c:Int}(hn:n%2=0)(h0:0≤c)(h1:c<n):(bhI n c).tmod 2=0↔¬ c.tmod 2=0:=by
 rw[bhI_eq h0 h1,Int.tmod_eq_emod_of_nonneg h0,Int.tmod_eq_emod_of_nonneg (by split<;>omega)]
 split<;>omega
theorem rgt64:CtOk Try.prog G 44 rg64:=by
 intro args r h hp
 unfold rg64 at h
 split at h
 ·rename_i a n _ k m _ r p _ x0 x1 x2 x3 x4 x5 x6 x7 tl c
  cases hM:isM 24 tl with
  |false=>rw[hM,cond_false]at h;cases h
  |true=>
  rw[hM,cond_true]at h
  cases h
  obtain rfl:=isM_24 hM
  obtain⟨⟨rfl,rfl,rfl⟩,h0,h1,h2,h3,h4⟩:=hp
  refine con_caps (fnP_spec hcm hmx TR1ok ok44 rfl (ob_g64 a k r x0 x1 x2 x3 x4 x5 x6 x7 c) ?_)
  dsimp -failIfUnchanged -proj -eta -iota -zeta only[rd,rdw,qs,ql,qx]
  have hb:=bhI_rng h3 h4
  have g1:=x32get (x0:=x0) (x1:=x1) (x2:=x2) (x3:=x3) (x4:=x4) (x5:=x5) (x6:=x6) (x7:=x7) hb.1 (by omega)
  have g2:=x32get (x0:=x0) (x1:=x1) (x2:=x2) (x3:=x3) (x4:=x4) (x5:=x5) (x6:=x6) (x7:=x7) h3 (by omega)
  have hbf:=bf_bh h3 h4
  have hpar:=bh_par (n:=a.length) (by omega) h3 h4
  generalize hX:[x0,x1,x2,x3,x4,x5,x6,x7]=X at*
  rw[g1,g2]
  have hc:=cok_self a k r
  unfold kdI
  rw[hbf]
  generalize bhI a.length c=d at*
  simp only[and_true,true_and,leb_iff,ltb_iff,ltb_no,beq_iff_eq,beq_eq_false_iff_ne,ne_eq]
  refine⟨⟨hc,h1,h2,h3,h4⟩,fun e=>⟨e,by omega,by omega,by omega,by omega,fun f=>?_,fun f=>?_⟩,fun e=>⟨e,by omega,by omega,by omega,by omega,fun f=>?_,fun f=>?_⟩⟩
  ·rw[if_neg (hpar.1 e),if_pos f]
  ·rw[if_neg (hpar.1 e),if_neg (by omega)]
  ·rw[if_pos (Classical.not_not.1 fun h=>e (hpar.2 h)),if_pos f]
  ·rw[if_pos (Classical.not_not.1 fun h=>e (hpar.2 h)),if_neg (by omega)]
 ·cases h
/-! ### Ranks -/
theorem rkA_app:∀(o:List Int) (l m:List Int) (i:Int),(∀x∈o,0≤x∧x<l.length)→rkA (l++m) i o=rkA l i o++m
 |[],l,m,i,_=>rfl
 |x::o,l,m,i,h=>by
  have hx:=h x (List.mem_cons_self ..)
  show rkA ((l++m).set x.toNat i) (i+1) o=rkA (l.set x.toNat i) (i+1) o++m
  rw[List.set_append_left _ _ (by omega)]
  exact rkA_app o _ m _ fun y hy=>by rw[List.length_set];exact h y (List.mem_cons_of_mem _ hy)
theorem rkG_eq {o:List Int}(h:okO o):rkG o=rkF o++List.replicate 24 (-1):=by
 unfold rkG rkF
 rw[show List.replicate 32 (-1:Int)=List.replicate 8 (-1)++List.replicate 24 (-1)from rfl]
 exact rkA_app o _ _ 0 h.2
theorem rkA_len:∀(o l:List Int) (i:Int),(rkA l i o).length=l.length
 |[],_,_=>rfl
 |x::o,l,i=>by rw[rkA,rkA_len o,List.length_set]
theorem set_len32 {l:List Int}{i:Nat}{x:Int}(h:l.length=32):(l.set i x).length=32:=by rw[List.length_set];exact h
theorem rkG_lo {o:List Int}(h:okO o){j:Nat}(hj:j<8):(rkG o)[j]?.getD 0=rkO o j:=by
 rw[rkG_eq h,List.getElem?_append_left (by unfold rkF;rw[rkA_len];exact hj)]
 rfl
theorem rkG_hi {o:List Int}(h:okO o){j:Nat}(h1:8≤j)(hj:j<32):(rkG o)[j]?.getD 0= -1:=by
 have hl:(rkF o).length=8:=by unfold rkF;rw[rkA_len];rfl
 rw[rkG_eq h,List.getElem?_append_right (by omega),hl,List.getElem?_replicate,if_pos (by omega)]
 rfl
theorem rgt39:CtOk Try.prog G 25 rg39:=by
 intro args r h hp
 unfold rg39 at h
 split at h<;>cases h
 rename_i o n _
 obtain⟨rfl,hk⟩:=hp
 have h2:=hk.2
 have h1:=hk.1
 refine(fnP_spec hcm hmx T0ok ok25 rfl (ob_g39 o) ?_:SpecP Try.prog G 25 [.imm (.ints .i64 o) o.length none] _ []).caps
 dsimp -failIfUnchanged -proj -eta -iota -zeta only[rd,rdw,qs,ql,qx]
 simp only[inR_i64,and_true,true_and,leb_iff,ltb_iff,ltb_no,ltn_iff,len'_iff,iI,iL,size_ints,List.length_drop]
 refine⟨⟨0,rfl,by omega,rfl⟩,?_⟩
 rintro⟨i,rk⟩ ⟨m,hi,hm,hl,he⟩
 simp only at hi hl he ⊢
 subst hi
 simp only[Int.toNat_natCast]
 refine⟨fun hlt=>?_,fun hge=>?_⟩
 ·have g:m<o.length:=by omega
  have ex:List.getD (List.drop m o) 0 0=o[m]:=by rw[List.getD_eq_getElem?_getD,List.getElem?_drop,Nat.add_zero,List.getElem?_eq_getElem g];rfl
  have hx:=h2 _ (List.getElem_mem g)
  rw[List.drop_eq_getElem_cons g]at he
  rw[ex]
  refine⟨by omega,by omega,by omega,by omega,by omega,by omega,by omega,by omega,⟨m+1,by omega,by omega,set_len32 hl,he⟩,by omega⟩
 ·rw[List.drop_eq_nil_of_le (by omega)]at he
  have he:rk=rkG o:=he
  subst he
  refine⟨by omega,?_⟩
  simp only[List.getD_eq_getElem?_getD,List.getElem?_cons_zero,List.getElem?_cons_succ,Option.getD_some]
  exact⟨rkG_lo hk (j:=0) (by omega),rkG_lo hk (j:=1) (by omega),rkG_lo hk (j:=2) (by omega),rkG_lo hk (j:=3) (by omega),rkG_lo hk (j:=4) (by omega),rkG_lo hk (j:=5) (by omega),rkG_lo hk (j:=6) (by omega),rkG_lo hk (j:=7) (by omega),rkG_hi hk (j:=8) (by omega) (by omega),rkG_hi hk (j:=9) (by omega) (by omega),rkG_hi hk (j:=10) (by omega) (by omega),rkG_hi hk (j:=11) (by omega) (by omega),rkG_hi hk (j:=12) (by omega) (by omega),rkG_hi hk (j:=13) (by omega) (by omega),rkG_hi hk (j:=14) (by omega) (by omega),rkG_hi hk (j:=15) (by omega) (by omega),rkG_hi hk (j:=16) (by omega) (by omega),rkG_hi hk (j:=17) (by omega) (by omega),rkG_hi hk (j:=18) (by omega) (by omega),rkG_hi hk (j:=19) (by omega) (by omega),rkG_hi hk (j:=20) (by omega) (by omega),rkG_hi hk (j:=21) (by omega) (by omega),rkG_hi hk (j:=22) (by omega) (by omega),rkG_hi hk (j:=23) (by omega) (by omega),rkG_hi hk (j:=24) (by omega) (by omega),rkG_hi hk (j:=25) (by omega) (by omega),rkG_hi hk (j:=26) (by omega) (by omega),rkG_hi hk (j:=27) (by omega) (by omega),rkG_hi hk (j:=28) (by omega) (by omega),rkG_hi hk (j:=29) (by omega) (by omega),rkG_hi hk (j:=30) (by omega) (by omega),rkG_hi hk (j:=31) (by omega) (by omega)⟩
theorem rgt39z:CtOk Try.prog G 25 rg39z:=by
 intro args r h hp
 unfold rg39z at h
 split at h<;>cases h
 refine fnP_spec hcm hmx T0ok ok25 rfl ob_g39z ?_
 decide
theorem TR2ok:TabOk Try.prog G TR2:=tabL_ok noCh_ok ⟨rgt64,rgt63,trivial⟩
/-! ### Kinds -/
theorem rotR_len (k:List Int):(rotR k).length=k.length:=by unfold rotR;rw[List.length_append,List.length_drop,List.length_take];omega
theorem rotR_get {k:List Int}{c:Int}(h0:0≤c)(h1:c<k.length):gR (rotR k) (bhI k.length c)=gR k c:=by
 obtain⟨i,rfl⟩:∃i:Nat,c=i:=⟨c.toNat,by omega⟩
 rw[bhI_eq h0 h1]
 unfold rotR gR
 have hd:(k.drop (k.length-1)).length=1:=by rw[List.length_drop];omega
 split
 ·rename_i h
  rw[show(0:Int).toNat=0 from rfl,List.getElem?_append_left (by omega),List.getElem?_drop,Int.toNat_natCast]
  rw[show k.length-1+0=i by omega]
 ·rename_i h
  rw[show((i:Int)+1).toNat=i+1 by omega,List.getElem?_append_right (by omega),hd,List.getElem?_take,if_pos (by omega),Int.toNat_natCast,Nat.add_sub_cancel]
theorem anyN_bh {n:Nat}{f:Int→Bool}(h:∀j:Nat,j<n→f (bhI n j)=false):anyN n f=false:=anyN_no fun j hj=>by
 have hr:=bfI_rng (n:=n) (c:=j) (by omega) (by omega)
 have:=h (bfI n j).toNat (by omega)
 rwa [show(((bfI n j).toNat:Nat):Int)=bfI n j by omega,bh_bf (by omega) (by omega)]at this
theorem anyN_bhy {n j:Nat}{f:Int→Bool}(h:j<n)(hf:f (bhI n j)=true):anyN n f=true:=by
 have hr:=bhI_rng (n:=n) (c:=j) (by omega) (by omega)
 refine anyN_yes (j:=(bhI n j).toNat) (by omega) ?_
 rwa [show(((bhI n j).toNat:Nat):Int)=bhI n j by omega]
theorem rgt41:CtOk Try.prog G 27 rg41:=by
 intro args r h hp
 unfold rg41 at h
 split at h
 ·rename_i a n _ k m _ r p _ x0 x1 x2 x3 x4 x5 x6 x7 tl
  cases hM:isM 24 tl with
  |false=>rw[hM,cond_false]at h;cases h
  |true=>
  rw[hM,cond_true]at h
  cases h
  obtain rfl:=isM_24 hM
  obtain⟨⟨rfl,rfl,rfl⟩,h0,hev,h1,h2⟩:=hp
  refine con_caps (fnP_spec hcm hmx TR2ok ok27 rfl (ob_g41 a k r x0 x1 x2 x3 x4 x5 x6 x7) ?_)
  dsimp -failIfUnchanged -proj -eta -iota -zeta only[rd,rdw,qs,ql,qx]
  have hc:=cok_self a k r
  have G8:=fun(c:Int) (u:0≤c) (v:c<8)=>x32get (x0:=x0) (x1:=x1) (x2:=x2) (x3:=x3) (x4:=x4) (x5:=x5) (x6:=x6) (x7:=x7) u v
  generalize hX:[x0,x1,x2,x3,x4,x5,x6,x7]=X at*
  simp only[inR_i64,and_true,true_and,leb_iff,ltb_iff,ltb_no,ltn_iff,iI,size_ints,List.length_drop,gR0,bt1,imp_self,bAnd]
  refine⟨⟨0,rfl,by omega,fun j hj=>by omega⟩,?_⟩
  rintro⟨i⟩ ⟨m,hi,hm,hf⟩
  simp only at hi hf ⊢
  subst hi
  simp only[Int.toNat_natCast]
  have hwl:wrgB (rotR k) X=anyN k.length fun i=>wrg1 (rotR k) X i:=by unfold wrgB;rw[rotR_len]
  refine⟨fun hlt=>?_,fun hge=>by rw[hwl];exact(anyN_bh fun j hj=>hf j (by omega)).symm⟩
  have e1:=bhI_rng (n:=a.length) (c:=m) (by omega) (by omega)
  have g1:=G8 _ e1.1 (by omega)
  have g2:=G8 m (by omega) (by omega)
  rw[Int.toNat_natCast]at g2
  have ek:((a.length:Nat):Int)=(k.length:Nat):=by omega
  have hbf:=bf_bh (n:=k.length) (c:=m) (by omega) (by omega)
  have hrg:=rotR_get (k:=k) (c:=m) (by omega) (by omega)
  have hw:wrg1 (rotR k) X (bhI k.length m)=((gR k m !=3)&&(leb 0 (mnI (gR X m) (gR X (bhI k.length m)))&&(gR k m !=kdI k.length X (bhI k.length m)))):=by
   unfold wrg1
   rw[rotR_len,hbf,hrg]
  have d1:(if gR X (bhI a.length m)<gR X m then gR X (bhI a.length m)else gR X m)=mnI (gR X m) (gR X (bhI a.length m)):=rfl
  simp only[d1,g1,g2,and_true,true_and,implies_true]
  clear G8 g1 g2
  rw[← h2]at hc e1 ⊢
  refine⟨by omega,by omega,by omega,by omega,fun _=>by omega,fun _=>by omega,fun _=>⟨hc,by omega,by omega,by omega,by omega⟩,fun _=>by omega,fun _=>by omega,fun _=>⟨hc,by omega,by omega,by omega,by omega,by omega⟩,fun h=>?_,fun h=>⟨by omega,⟨m+1,by omega,by omega,fun j hj=>?_⟩,by omega⟩⟩
  ·rw[hwl]
   exact(anyN_bhy (j:=m) (by omega) (by rw[hw,← Bool.and_assoc];exact h)).symm
  ·by_cases hj':j<m
   ·exact hf j hj'
   ·rw[show j=m by omega,hw,← Bool.and_assoc]
    exact h
 ·cases h
end Go.Proofs.Ythiammkiobbclaa.X
