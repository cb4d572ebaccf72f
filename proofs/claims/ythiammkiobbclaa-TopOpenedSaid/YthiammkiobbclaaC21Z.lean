/-
 Rings: the contracts of what crosses.
-/
import Derived.Test.YthiammkiobbclaaO21Z
import Derived.Test.YthiammkiobbclaaC20Z
set_option maxRecDepth 1000000
set_option linter.unusedVariables false
set_option linter.unusedSimpArgs false
namespace Go.Proofs.Ythiammkiobbclaa.X
open Go Go.Ab

theorem rgt62:CtOk Try.prog G 43 rg62:=by
 intro args r h hp
 unfold rg62 at h
 split at h<;>cases h
 rename_i a n _ k m _ r p _ c
 obtain⟨rfl,rfl,rfl⟩:=hp
 exact con_caps (fnP_spec hcm hmx T0ok ok43 rfl (ob_g62 a k r c) (by repeat (first|exact trivial|exact rfl|apply And.intro)))
theorem TR3ok:TabOk Try.prog G TR3:=tabL_ok noCh_ok ⟨rgt59,rgt60,rgt61,rgt62,rgt63,trivial⟩
/-! ### Rounds -/
theorem sy40a {a k r:List Int}{x0 x1 x2 x3 x4 x5 x6 x7 i x:Int}(h0:0<a.length)(h8:a.length≤8)(i0:0≤i)(i1:i<a.length)(u:0≤x)(v:x<a.length)(h:c2B a.length [x0,x1,x2,x3,x4,x5,x6,x7] i x=false):
  SpecD Try.prog G (.yld 9002) [.int .i64 x] (rH40 9002 a k r x0 x1 x2 x3 x4 x5 x6 x7 i) (.bool true) [] []:=by
 refine fnY_spec hcm hmx TR3ok (ob_y_40a a k r x0 x1 x2 x3 x4 x5 x6 x7 i x) ?_
 dsimp -failIfUnchanged -proj -eta -iota -zeta only[rd,rdw,qs,ql,qx]
 have hb:=bhI_rng u v
 have g1:=x32get (x0:=x0) (x1:=x1) (x2:=x2) (x3:=x3) (x4:=x4) (x5:=x5) (x6:=x6) (x7:=x7) hb.1 (by omega)
 have g2:=x32get (x0:=x0) (x1:=x1) (x2:=x2) (x3:=x3) (x4:=x4) (x5:=x5) (x6:=x6) (x7:=x7) u (by omega)
 have hc:=cok_self a k r
 unfold c2B at h
 generalize hX:[x0,x1,x2,x3,x4,x5,x6,x7]=X at*
 have d1:(if gR X (bhI a.length x)<gR X x then gR X (bhI a.length x)else gR X x)=mnI (gR X x) (gR X (bhI a.length x)):=rfl
 simp only[d1,g1,g2,gR0,bt1,bAnd,inR_i64,and_true,true_and,leb_iff,ltb_iff,ltb_no,ltn_iff,iI,size_ints,List.length_drop,imp_self,implies_true,eq_self_iff_true]
 exact⟨by omega,by omega,⟨hc,h0,h8,u,v⟩,by omega,by omega,fun _=>⟨hc,h0,h8,i0,i1,u,v⟩,fun _=>⟨hc,h0,h8,u,v⟩,fun _=>⟨hc,h0,h8,i0,i1,by omega,by omega⟩,h⟩
theorem sy40b {a k r:List Int}{x0 x1 x2 x3 x4 x5 x6 x7 i x:Int}(h0:0<a.length)(h8:a.length≤8)(i0:0≤i)(i1:i<a.length)(u:0≤x)(v:x<a.length)(h:c2B a.length [x0,x1,x2,x3,x4,x5,x6,x7] i x=false):
  SpecD Try.prog G (.yld 9003) [.int .i64 x] (rH40 9003 a k r x0 x1 x2 x3 x4 x5 x6 x7 i) (.bool true) (wsY a k r x0 x1 x2 x3 x4 x5 x6 x7 i false) []:=by
 refine fnY_spec hcm hmx TR3ok (ob_y_40b a k r x0 x1 x2 x3 x4 x5 x6 x7 i x) ?_
 dsimp -failIfUnchanged -proj -eta -iota -zeta only[rd,rdw,qs,ql,qx]
 have hb:=bhI_rng u v
 have g1:=x32get (x0:=x0) (x1:=x1) (x2:=x2) (x3:=x3) (x4:=x4) (x5:=x5) (x6:=x6) (x7:=x7) hb.1 (by omega)
 have g2:=x32get (x0:=x0) (x1:=x1) (x2:=x2) (x3:=x3) (x4:=x4) (x5:=x5) (x6:=x6) (x7:=x7) u (by omega)
 have hc:=cok_self a k r
 unfold c2B at h
 generalize hX:[x0,x1,x2,x3,x4,x5,x6,x7]=X at*
 have d1:(if gR X (bhI a.length x)<gR X x then gR X (bhI a.length x)else gR X x)=mnI (gR X x) (gR X (bhI a.length x)):=rfl
 simp only[d1,g1,g2,gR0,bt1,bAnd,inR_i64,and_true,true_and,leb_iff,ltb_iff,ltb_no,ltn_iff,iI,size_ints,List.length_drop,imp_self,implies_true,eq_self_iff_true]
 exact⟨by omega,by omega,⟨hc,h0,h8,u,v⟩,by omega,by omega,fun _=>⟨hc,h0,h8,i0,i1,u,v⟩,fun _=>⟨hc,h0,h8,u,v⟩,fun _=>⟨hc,h0,h8,i0,i1,by omega,by omega⟩,h⟩
theorem sy40c {a k r:List Int}{x0 x1 x2 x3 x4 x5 x6 x7 i x:Int}(h0:0<a.length)(h8:a.length≤8)(i0:0≤i)(i1:i<a.length)(u:0≤x)(v:x<a.length)(h:c2B a.length [x0,x1,x2,x3,x4,x5,x6,x7] i x=true):
  SpecD Try.prog G (.yld 9003) [.int .i64 x] (rH40 9003 a k r x0 x1 x2 x3 x4 x5 x6 x7 i) (.bool false) (wsY a k r x0 x1 x2 x3 x4 x5 x6 x7 i true) []:=by
 refine fnY_spec hcm hmx TR3ok (ob_y_40c a k r x0 x1 x2 x3 x4 x5 x6 x7 i x) ?_
 dsimp -failIfUnchanged -proj -eta -iota -zeta only[rd,rdw,qs,ql,qx]
 have hb:=bhI_rng u v
 have g1:=x32get (x0:=x0) (x1:=x1) (x2:=x2) (x3:=x3) (x4:=x4) (x5:=x5) (x6:=x6) (x7:=x7) hb.1 (by omega)
 have g2:=x32get (x0:=x0) (x1:=x1) (x2:=x2) (x3:=x3) (x4:=x4) (x5:=x5) (x6:=x6) (x7:=x7) u (by omega)
 have hc:=cok_self a k r
 unfold c2B at h
 generalize hX:[x0,x1,x2,x3,x4,x5,x6,x7]=X at*
 have d1:(if gR X (bhI a.length x)<gR X x then gR X (bhI a.length x)else gR X x)=mnI (gR X x) (gR X (bhI a.length x)):=rfl
 simp only[d1,g1,g2,gR0,bt1,bAnd,inR_i64,and_true,true_and,leb_iff,ltb_iff,ltb_no,ltn_iff,iI,size_ints,List.length_drop,imp_self,implies_true,eq_self_iff_true]
 exact⟨by omega,by omega,⟨hc,h0,h8,u,v⟩,by omega,by omega,fun _=>⟨hc,h0,h8,i0,i1,u,v⟩,fun _=>⟨hc,h0,h8,u,v⟩,fun _=>⟨hc,h0,h8,i0,i1,by omega,by omega⟩,h⟩
theorem chRnok {a k r:List Int}{x0 x1 x2 x3 x4 x5 x6 x7 i:Int}(h0:0<a.length)(h8:a.length≤8)(i0:0≤i)(i1:i<a.length):ChOk Try.prog G (chRn a k r x0 x1 x2 x3 x4 x5 x6 x7 i):=by
 intro h cv args r hr hp
 unfold chRn at hr
 split at hr
 ·rename_i id x
  rw[cond_eq_ite]at hr
  split at hr
  ·rename_i hid
   cases hr
   obtain⟨rfl,u,v,hc⟩:=hp
   obtain rfl:=Nat.eq_of_beq_eq_true hid
   exact sy40a h0 h8 i0 i1 u v hc
  ·cases hr
 ·cases hr
theorem chRyok {a k r:List Int}{x0 x1 x2 x3 x4 x5 x6 x7 i:Int}(h0:0<a.length)(h8:a.length≤8)(i0:0≤i)(i1:i<a.length):ChOk Try.prog G (chRy a k r x0 x1 x2 x3 x4 x5 x6 x7 i):=by
 intro h cv args r hr hp
 unfold chRy at hr
 split at hr
 ·rename_i id x
  rw[cond_eq_ite]at hr
  split at hr
  ·rename_i hid
   cases hr
   obtain⟨rfl,u,v⟩:=hp
   obtain rfl:=Nat.eq_of_beq_eq_true hid
   cases hc:c2B a.length [x0,x1,x2,x3,x4,x5,x6,x7] i x with
   |false=>exact sy40b h0 h8 i0 i1 u v hc
   |true=>exact sy40c h0 h8 i0 i1 u v hc
  ·cases hr
 ·cases hr
theorem bes_get {r:List Int}{c x:Int}:besB r c x=((x !=c)&&((gR r (x+1)==gR r (c+1))&&(ltb (gR r (c+1)) (gR r x)==ltb (gR r (c+1)) (gR r c)))):=rfl
theorem TRnok {a k r:List Int}{x0 x1 x2 x3 x4 x5 x6 x7 i:Int}(h0:0<a.length)(h8:a.length≤8)(i0:0≤i)(i1:i<a.length):TabOk Try.prog G (TRn a k r x0 x1 x2 x3 x4 x5 x6 x7 i):=tabL_ok (chRnok h0 h8 i0 i1) trivial
theorem TRyok {a k r:List Int}{x0 x1 x2 x3 x4 x5 x6 x7 i:Int}(h0:0<a.length)(h8:a.length≤8)(i0:0≤i)(i1:i<a.length):TabOk Try.prog G (TRy a k r x0 x1 x2 x3 x4 x5 x6 x7 i):=tabL_ok (chRyok h0 h8 i0 i1) trivial
theorem anyN_ex {n:Nat}{f:Int→Bool}(h:anyN n f=true):∃j:Nat,j<n∧f j=true:=by
 unfold anyN at h
 rw[List.any_eq_true]at h
 obtain⟨x,hx,hf⟩:=h
 exact⟨x,List.mem_range.1 hx,hf⟩
theorem beqF {p:Bool}(h:p=false):(!p)=true:=by rw[h];rfl
theorem sp86n {a k r:List Int}{x0 x1 x2 x3 x4 x5 x6 x7 i:Int}(h0:0<a.length)(h8:a.length≤8)(hr:r.length=a.length+1)(i0:0≤i)(i1:i<a.length)(h:cr2 a.length r [x0,x1,x2,x3,x4,x5,x6,x7] i=false):
  SpecD Try.prog G (.fn 57 [] []) [.yld 9002,.iptr (conF a k r),.iptr (.vals [.int .i64 i])] (rH40 9002 a k r x0 x1 x2 x3 x4 x5 x6 x7 i) (.tup []) [] []:=by
 refine fnD_spec hcm hmx (TRnok h0 h8 i0 i1) ok57 rfl (ob_d_86n a k r x0 x1 x2 x3 x4 x5 x6 x7 i) ?_
 dsimp -failIfUnchanged -proj -eta -iota -zeta only[rd,rdw,qs,ql,qx]
 have hno:∀x:Int,0≤x→x<a.length→(besB r i x&&c2B a.length [x0,x1,x2,x3,x4,x5,x6,x7] i x)=false:=fun x u v=>by
  have:=anyN_noI.1 h x.toNat (by omega)
  rwa [show((x.toNat:Nat):Int)=x by omega]at this
 generalize hX:[x0,x1,x2,x3,x4,x5,x6,x7]=X at*
 simp only[gR0,and_true,true_and,leb_iff,ltb_iff,ltb_no,ltn_iff,iI,size_ints,inR_i64,List.length_drop,imp_self,implies_true,eq_self_iff_true]
 refine⟨by omega,by omega,by omega,by omega,by omega,⟨0,rfl,by omega⟩,?_⟩
 rintro⟨x⟩ ⟨m,hx,hm⟩
 simp only at hx ⊢
 subst hx
 simp only[Int.toNat_natCast]
 intro hlt
 have hnm:=hno m (by omega) hlt
 rw[bes_get]at hnm
 have hex:∃m_1:Nat,(m:Int)+1=m_1∧m_1≤a.length:=⟨m+1,by omega,by omega⟩
 generalize ((m:Int) !=i)=c1 at*
 generalize (gR r ((m:Int)+1)==gR r (i+1))=c2 at*
 generalize (ltb (gR r (i+1)) (gR r (m:Int))==ltb (gR r (i+1)) (gR r i))=c3 at*
 refine⟨fun e1=>⟨fun e2=>⟨fun e3=>?_,fun e3=>?_⟩,fun e2=>?_⟩,fun e1=>?_⟩
 ·rw[e1,e2,e3]at hnm
  have hz:c2B a.length X i m=false:=hnm
  repeat' apply And.intro
  all_goals first|omega|exact e1|exact e2|exact e3|exact hz|exact hex
 ·repeat' apply And.intro
  all_goals first|omega|exact e1|exact e2|exact beqF e3|exact hex
 ·repeat' apply And.intro
  all_goals first|omega|exact e1|exact beqF e2|exact hex
 ·repeat' apply And.intro
  all_goals first|omega|exact beqF e1|exact hex
theorem sp86y {a k r:List Int}{x0 x1 x2 x3 x4 x5 x6 x7 i:Int}(h0:0<a.length)(h8:a.length≤8)(hr:r.length=a.length+1)(i0:0≤i)(i1:i<a.length)(h:cr2 a.length r [x0,x1,x2,x3,x4,x5,x6,x7] i=true):
  SpecD Try.prog G (.fn 57 [] []) [.yld 9003,.iptr (conF a k r),.iptr (.vals [.int .i64 i])] (rH40 9003 a k r x0 x1 x2 x3 x4 x5 x6 x7 i) (.tup []) (rW40 9003 a k r x0 x1 x2 x3 x4 x5 x6 x7 i) []:=by
 refine fnD_spec hcm hmx (TRyok h0 h8 i0 i1) ok57 rfl (ob_d_86y a k r x0 x1 x2 x3 x4 x5 x6 x7 i) ?_
 dsimp -failIfUnchanged -proj -eta -iota -zeta only[rd,rdw,qs,ql,qx]
 obtain⟨q,hq,hqq⟩:=anyN_ex h
 rw[Bool.and_eq_true]at hqq
 generalize hX:[x0,x1,x2,x3,x4,x5,x6,x7]=X at*
 simp only[gR0,and_true,true_and,leb_iff,ltb_iff,ltb_no,ltn_iff,iI,size_ints,inR_i64,List.length_drop,imp_self,implies_true,eq_self_iff_true,Bool.not_not,Bool.not_eq_true',Bool.not_eq_false']
 refine⟨by omega,by omega,by omega,by omega,by omega,⟨0,rfl,by omega,q,by omega,hq,hqq.1,hqq.2⟩,?_⟩
 rintro⟨x⟩ ⟨m,hx,hm,q',h1,h2,h3,h4⟩
 simp only at hx ⊢
 subst hx
 simp only[Int.toNat_natCast]
 have hne:m≠q'→∃m_1:Nat,(m:Int)+1=m_1∧m_1≤a.length∧∃q:Nat,m_1≤q∧q<a.length∧besB r i q=true∧c2B a.length X i q=true:=fun hh=>⟨m+1,by omega,by omega,q',by omega,h2,h3,h4⟩
 refine⟨fun hlt=>?_,fun hge=>by omega⟩
 have hbm:besB r i m=((((m:Int) !=i))&&((gR r ((m:Int)+1)==gR r (i+1))&&(ltb (gR r (i+1)) (gR r (m:Int))==ltb (gR r (i+1)) (gR r i)))):=rfl
 generalize ((m:Int) !=i)=c1 at*
 generalize (gR r ((m:Int)+1)==gR r (i+1))=c2 at*
 generalize (ltb (gR r (i+1)) (gR r (m:Int))==ltb (gR r (i+1)) (gR r i))=c3 at*
 refine⟨fun e1=>⟨fun e2=>⟨fun e3=>?_,fun e3=>?_⟩,fun e2=>?_⟩,fun e1=>?_⟩
 ·repeat' apply And.intro
  all_goals first|omega|exact e1|exact e2|exact e3|(intro hz;rw[hz];exact⟨rfl,rfl,rfl⟩)|skip
  intro hz
  have hex:=hne fun e=>by subst e;rw[hz]at h4;cases h4
  rw[hz]
  exact⟨by omega,rfl,rfl,rfl,hex,by omega⟩
 ·have hex:=hne fun e=>by subst e;rw[hbm,e1,e2,e3]at h3;cases h3
  repeat' apply And.intro
  all_goals first|omega|exact e1|exact e2|exact e3|exact hex
 ·have hex:=hne fun e=>by subst e;rw[hbm,e1,e2]at h3;cases h3
  repeat' apply And.intro
  all_goals first|omega|exact e1|exact e2|exact hex
 ·have hex:=hne fun e=>by subst e;rw[hbm,e1]at h3;cases h3
  repeat' apply And.intro
  all_goals first|omega|exact e1|exact hex
theorem ch86ok {a k r:List Int}{x0 x1 x2 x3 x4 x5 x6 x7:Int}(h0:0<a.length)(h8:a.length≤8)(hr:r.length=a.length+1):ChOk Try.prog G (ch86 a k r x0 x1 x2 x3 x4 x5 x6 x7):=by
 intro h cv args rr hr' hp
 unfold ch86 at hr'
 split at hr'
 ·rename_i f id a' n k' m r' p i
  rw[cond_eq_ite]at hr'
  split at hr'
  ·rename_i hid
   rw[Bool.and_eq_true]at hid
   cases hr'
   obtain⟨rfl,rfl,rfl,rfl,rfl,rfl,rfl,i0,i1,hc⟩:=hp
   obtain rfl:=Nat.eq_of_beq_eq_true hid.1
   obtain rfl:=Nat.eq_of_beq_eq_true hid.2
   exact sp86y h0 h8 hr i0 i1 hc
  ·rw[cond_eq_ite]at hr'
   split at hr'
   ·rename_i hid
    rw[Bool.and_eq_true]at hid
    cases hr'
    obtain⟨rfl,rfl,rfl,rfl,rfl,rfl,rfl,i0,i1,hc⟩:=hp
    obtain rfl:=Nat.eq_of_beq_eq_true hid.1
    obtain rfl:=Nat.eq_of_beq_eq_true hid.2
    exact sp86n h0 h8 hr i0 i1 hc
   ·cases hr'
 ·cases hr'
theorem c1B_eq {n:Int}{r rk:List Int}{c x:Int}:c1B n r rk c x=((ltb (mnI (gR r x) (gR r (x+1))) (gR r (c+1))&&ltb (gR r (c+1)) (mxI (gR r x) (gR r (x+1))))&&btwB n rk (bhI n c) x):=rfl
theorem rgt40:CtOk Try.prog G 26 rg40:=by
 intro args r h hp
 unfold rg40 at h
 split at h
 ·rename_i a n _ k m _ r p _ x0 x1 x2 x3 x4 x5 x6 x7 tl
  cases hM:isM 24 tl with
  |false=>rw[hM,cond_false]at h;cases h
  |true=>
  rw[hM,cond_true]at h
  cases h
  obtain rfl:=isM_24 hM
  obtain⟨⟨rfl,rfl,rfl⟩,h0,h8,hr⟩:=hp
  refine con_caps (fnP_spec hcm hmx (tabL_ok (ch86ok h0 h8 hr) ⟨rgt59,rgt60,rgt61,rgt62,rgt63,trivial⟩:TabOk Try.prog G (rT40 a k r x0 x1 x2 x3 x4 x5 x6 x7)) ok26 rfl (ob_g40 a k r x0 x1 x2 x3 x4 x5 x6 x7) ?_)
  dsimp -failIfUnchanged -proj -eta -iota -zeta only[rd,rdw,qs,ql,qx]
  have hc:=cok_self a k r
  generalize hX:[x0,x1,x2,x3,x4,x5,x6,x7]=X at*
  simp only[gR0,and_true,true_and,leb_iff,ltb_iff,ltb_no,ltn_iff,iI,size_ints,inR_i64,List.length_drop,imp_self,implies_true,eq_self_iff_true]
  refine⟨⟨0,rfl,by omega,fun j hj=>by omega⟩,?_⟩
  rintro⟨i⟩ ⟨m,hi,hm,hf⟩
  simp only at hi hf ⊢
  subst hi
  simp only[Int.toNat_natCast]
  refine⟨fun hlt=>⟨by omega,by omega,by omega,by omega,by omega,⟨0,rfl,by omega,fun j hj=>by omega⟩,?_⟩,fun hge=>(anyN_noI.2 fun j hj=>hf j (by omega)).symm⟩
  rintro⟨x⟩ ⟨q,hx,hq,hg⟩
  simp only at hx hg ⊢
  subst hx
  simp only[Int.toNat_natCast]
  have hcy:(∃j:Nat,j<a.length∧(cr1 a.length r X j||cr2 a.length r X j)=true)→true=crR a.length r X:=fun⟨j,hj,h⟩=>(anyN_yes hj h).symm
  have hst:c1B a.length r X m q=false→((-9223372036854775808:Int)≤(q:Int)+1∧(q:Int)+1≤9223372036854775807)∧
    (∃m_1:Nat,(q:Int)+1=m_1∧m_1≤a.length∧∀(j:Nat),j<m_1→c1B a.length r X m j=false)∧a.length-((q:Int)+1).toNat<a.length-q∨a.length≤q:=fun h=>by
   by_cases hq2:q<a.length
   ·exact .inl ⟨by omega,⟨q+1,by omega,by omega,fun j hj=>by
     by_cases hj':j<q
     ·exact hg j hj'
     ·rw[show j=q by omega];exact h⟩,by omega⟩
   ·exact .inr (by omega)
  refine⟨fun hlt2=>?_,fun hge2=>?_⟩
  ·have hst:=fun h=>(hst h).resolve_right (by omega)
   refine⟨⟨hc,by omega,by omega,by omega⟩,fun e1=>⟨⟨hc,by omega,by omega,by omega⟩,fun e2=>⟨⟨hc,h0,h8,by omega,by omega,by omega,by omega⟩,fun e3=>?_,fun e3=>hst ?_⟩,fun e2=>hst ?_⟩,fun e1=>hst ?_⟩
   ·refine hcy ⟨m,by omega,?_⟩
    have:cr1 a.length r X m=true:=anyN_yes (j:=q) (by omega) (by rw[c1B_eq,ltb_iff.2 e1,ltb_iff.2 e2,e3];rfl)
    rw[this];rfl
   ·rw[c1B_eq,e3,Bool.and_false]
   ·rw[c1B_eq,ltb_no.2 e2,Bool.and_false,Bool.false_and]
   ·rw[c1B_eq,ltb_no.2 e1,Bool.false_and,Bool.false_and]
  ·rw[ltb_no.2 hge2]
   simp only[eq_self_iff_true,true_and,and_true]
   have hz:cr1 a.length r X m=false:=anyN_noI.2 fun j hj=>hg j (by omega)
   refine⟨fun h2=>⟨hc,⟨by omega,hlt,h2⟩,hcy ⟨m,by omega,by rw[h2,Bool.or_true]⟩⟩,fun h2=>⟨hc,⟨by omega,hlt,h2⟩,⟨by omega,by omega⟩,⟨m+1,by omega,by omega,fun j hj=>?_⟩,by omega⟩⟩
   by_cases hj':j<m
   ·exact hf j hj'
   ·rw[show j=m by omega,hz,h2];rfl
 ·cases h
end Go.Proofs.Ythiammkiobbclaa.X
