/-
 Stacks that are moved: the contracts of the reference's image.
-/
import Derived.Test.YtmnaghfndigfkaaDoorMEZ
set_option maxRecDepth 1000000
set_option linter.unusedVariables false
set_option linter.unusedSimpArgs false
namespace Go.Proofs.YtmnaghfndigfkaaDoor.X
open Go Go.Ab

theorem ct123:CtOk Tryd.prog G 123 e123:=by
 intro args r h hp
 unfold e123 at h
 split at h<;>cases h
 rename_i x y q
 have hs:s10k x y:=hp
 unfold s10k at hs
 refine fnP_spec hcm hmx T0ok ok123 rfl (ob_o123 x y q) ?_
 simp only[inR_i64,and_true,true_and,iI,beq_iff_eq,beq_eq_false_iff_ne,ne_eq]
 unfold ckX ckY
 (repeat' (with_reducible apply And.intro))
 all_goals try omega
theorem TM75ok:TabOk Tryd.prog G TM75:=tabL_ok noCh_ok ⟨ct123,trivial⟩
theorem in_div (x q:Int):(6*x+3+ckX 1 x q+ckX 2 x q).tdiv 3=6*x+inX q:=by
 have:6*x+3+ckX 1 x q+ckX 2 x q=3*(6*x+inX q):=by
  unfold ckX inX
  by_cases h0:q=0
  ·subst h0;simp;omega
  by_cases h1:q=1
  ·subst h1;simp;omega
  by_cases h2:q=2
  ·subst h2;simp;omega
  simp[h0,h1,h2];omega
 rw[this,Int.mul_tdiv_cancel_left _ (by decide)]
theorem in_divY (y q:Int):(6*y+3+ckY 1 y q+ckY 2 y q).tdiv 3=6*y+inY q:=by
 have:6*y+3+ckY 1 y q+ckY 2 y q=3*(6*y+inY q):=by
  unfold ckY inY
  by_cases h0:q=0
  ·subst h0;simp;omega
  by_cases h1:q=1
  ·subst h1;simp;omega
  by_cases h2:q=2
  ·subst h2;simp;omega
  simp[h0,h1,h2];omega
 rw[this,Int.mul_tdiv_cancel_left _ (by decide)]
theorem ck_b (k:Nat)(x q:Int):(6*x≤ckX k x q∧ckX k x q≤6*x+6)∧(6*x≤ckY k x q∧ckY k x q≤6*x+6):=by
 unfold ckX ckY
 constructor
 ·split
  ·split<;>omega
  ·split
   ·omega
   ·split
    ·split<;>omega
    ·omega
 ·split
  ·omega
  ·split
   ·split<;>omega
   ·split
    ·omega
    ·split<;>omega
theorem in_b (q:Int):(1≤inX q∧inX q≤5)∧(1≤inY q∧inY q≤5):=by
 unfold inX inY
 constructor
 ·split
  ·omega
  ·split
   ·omega
   ·split<;>omega
 ·split
  ·omega
  ·split
   ·omega
   ·split<;>omega
theorem ct75:CtOk Tryd.prog G 75 e75:=by
 intro args r h hp
 unfold e75 at h
 split at h<;>cases h
 rename_i x y q
 have hs:s10k x y:=hp
 refine fnP_spec hcm hmx TM75ok ok75 rfl (ob_o75 x y q) ?_
 rw[in_div,in_divY]
 have b1:=ck_b 1 x q
 have b2:=ck_b 2 x q
 have b3:=ck_b 1 y q
 have b4:=ck_b 2 y q
 have b5:=in_b q
 have hs':=hs
 unfold s10k at hs'
 simp only[inR_i64,and_true,true_and,iI]
 (repeat' (with_reducible apply And.intro))
 all_goals first|exact hs|omega|rfl|trivial
theorem ct110:CtOk Tryd.prog G 110 e110:=by
 intro args r h hp
 unfold e110 at h
 split at h<;>cases h
 rename_i t a b x y
 obtain⟨hm,hs⟩:=hp
 unfold s70k at hs
 obtain⟨ht,m1,m2,m3,m4,m5⟩:=id hm
 rcases isT_or ht with rfl|rfl|rfl|rfl|rfl|rfl|rfl|rfl
 ·refine fnP_spec hcm hmx T0ok ok110 rfl (ob_o110_0 a b x y) ?_
  simp only[inR_i64,and_true,true_and,iI,mtX,mtY]
  (repeat' (with_reducible apply And.intro))
  all_goals first|omega|rfl|trivial|(simp;done)|(simp;omega)
 ·refine fnP_spec hcm hmx T0ok ok110 rfl (ob_o110_1 a b x y) ?_
  simp only[inR_i64,and_true,true_and,iI,mtX,mtY]
  (repeat' (with_reducible apply And.intro))
  all_goals first|omega|rfl|trivial|(simp;done)|(simp;omega)
 ·refine fnP_spec hcm hmx T0ok ok110 rfl (ob_o110_2 a b x y) ?_
  simp only[inR_i64,and_true,true_and,iI,mtX,mtY]
  (repeat' (with_reducible apply And.intro))
  all_goals first|omega|rfl|trivial|(simp;done)|(simp;omega)
 ·refine fnP_spec hcm hmx T0ok ok110 rfl (ob_o110_3 a b x y) ?_
  simp only[inR_i64,and_true,true_and,iI,mtX,mtY]
  (repeat' (with_reducible apply And.intro))
  all_goals first|omega|rfl|trivial|(simp;done)|(simp;omega)
 ·refine fnP_spec hcm hmx T0ok ok110 rfl (ob_o110_4 a b x y) ?_
  simp only[inR_i64,and_true,true_and,iI,mtX,mtY]
  (repeat' (with_reducible apply And.intro))
  all_goals first|omega|rfl|trivial|(simp;done)|(simp;omega)
 ·refine fnP_spec hcm hmx T0ok ok110 rfl (ob_o110_5 a b x y) ?_
  simp only[inR_i64,and_true,true_and,iI,mtX,mtY]
  (repeat' (with_reducible apply And.intro))
  all_goals first|omega|rfl|trivial|(simp;done)|(simp;omega)
 ·refine fnP_spec hcm hmx T0ok ok110 rfl (ob_o110_6 a b x y) ?_
  simp only[inR_i64,and_true,true_and,iI,mtX,mtY]
  (repeat' (with_reducible apply And.intro))
  all_goals first|omega|rfl|trivial|(simp;done)|(simp;omega)
 ·refine fnP_spec hcm hmx T0ok ok110 rfl (ob_o110_7 a b x y) ?_
  simp only[inR_i64,and_true,true_and,iI,mtX,mtY]
  (repeat' (with_reducible apply And.intro))
  all_goals first|omega|rfl|trivial|(simp;done)|(simp;omega)
theorem ct147:CtOk Tryd.prog G 147 e147:=by
 intro args r h hp
 unfold e147 at h
 split at h<;>cases h
 rename_i a b
 obtain⟨rfl,h1,h2⟩:=hp
 refine fnP_spec hcm hmx T0ok ok147 rfl (ob_o147 a) ?_
 simp only[ltb_iff,ltb_no,inR_i64,and_true,true_and,iI]
 refine⟨fun hl=>?_,fun hg=>?_⟩
 ·rw[Int.tdiv_eq_ediv_of_nonneg (by omega:0≤0-a+6-1)]
  (repeat' (with_reducible apply And.intro))
  all_goals first|omega|rfl|trivial
 ·rw[Int.tdiv_eq_ediv_of_nonneg (by omega:0≤a)]
  (repeat' (with_reducible apply And.intro))
  all_goals first|omega|rfl|trivial
theorem TM109ok:TabOk Tryd.prog G TM109:=tabL_ok noCh_ok ⟨ct147,trivial⟩
theorem ct109:CtOk Tryd.prog G 109 e109:=by
 intro args r h hp
 unfold e109 at h
 split at h<;>cases h
 rename_i x y
 obtain⟨h1,h2,h3,h4⟩:=hp
 refine fnP_spec hcm hmx TM109ok ok109 rfl (ob_o109 x y) ?_
 have k1:0≤x-6*(x/6)∧x-6*(x/6)≤5:=by omega
 have k2:0≤y-6*(y/6)∧y-6*(y/6)≤5:=by omega
 have k3: -1000010≤6*(x/6)∧6*(x/6)≤1000010:=by omega
 have k4: -1000010≤6*(y/6)∧6*(y/6)≤1000010:=by omega
 simp only[ltb_iff,ltb_no,inR_i64,and_true,true_and,iI]
 unfold qAt
 generalize 6*(x/6)=X at*
 generalize 6*(y/6)=Y at*
 (repeat' (with_reducible apply And.intro))
 all_goals try first|omega|trivial|rfl
theorem TM56ok:TabOk Tryd.prog G TM56:=tabL_ok noCh_ok ⟨ct75,ct110,ct109,trivial⟩
theorem img {t a b x y q:Int}(h:isT t)(h0:0≤q)(h3:q≤3):
  (mtX t (6*x+inX q) (6*y+inY q)+6*a)/6=mvX' t a x y∧(mtY t (6*x+inX q) (6*y+inY q)+6*b)/6=mvY' t b x y∧qAt (mtX t (6*x+inX q) (6*y+inY q)+6*a-6*((mtX t (6*x+inX q) (6*y+inY q)+6*a)/6)) (mtY t (6*x+inX q) (6*y+inY q)+6*b-6*((mtY t (6*x+inX q) (6*y+inY q)+6*b)/6))=mvQ t q:=by
 have k:∀{u v p r w:Int},u=p→v=r→qAt p r=w→qAt u v=w:=fun h1 h2 h3=>by rw[h1,h2,h3]
 rcases isT_or h with rfl|rfl|rfl|rfl|rfl|rfl|rfl|rfl<;>rcases q_or h0 h3 with rfl|rfl|rfl|rfl
 ·refine⟨?_,?_,k (p:=3) (r:=1) ?_ ?_ (by decide)⟩<;>simp[mtX,mtY,mvX',mvY',inX,inY]<;>omega
 ·refine⟨?_,?_,k (p:=5) (r:=3) ?_ ?_ (by decide)⟩<;>simp[mtX,mtY,mvX',mvY',inX,inY]<;>omega
 ·refine⟨?_,?_,k (p:=3) (r:=5) ?_ ?_ (by decide)⟩<;>simp[mtX,mtY,mvX',mvY',inX,inY]<;>omega
 ·refine⟨?_,?_,k (p:=1) (r:=3) ?_ ?_ (by decide)⟩<;>simp[mtX,mtY,mvX',mvY',inX,inY]<;>omega
 ·refine⟨?_,?_,k (p:=5) (r:=3) ?_ ?_ (by decide)⟩<;>simp[mtX,mtY,mvX',mvY',inX,inY]<;>omega
 ·refine⟨?_,?_,k (p:=3) (r:=5) ?_ ?_ (by decide)⟩<;>simp[mtX,mtY,mvX',mvY',inX,inY]<;>omega
 ·refine⟨?_,?_,k (p:=1) (r:=3) ?_ ?_ (by decide)⟩<;>simp[mtX,mtY,mvX',mvY',inX,inY]<;>omega
 ·refine⟨?_,?_,k (p:=3) (r:=1) ?_ ?_ (by decide)⟩<;>simp[mtX,mtY,mvX',mvY',inX,inY]<;>omega
 ·refine⟨?_,?_,k (p:=3) (r:=5) ?_ ?_ (by decide)⟩<;>simp[mtX,mtY,mvX',mvY',inX,inY]<;>omega
 ·refine⟨?_,?_,k (p:=1) (r:=3) ?_ ?_ (by decide)⟩<;>simp[mtX,mtY,mvX',mvY',inX,inY]<;>omega
 ·refine⟨?_,?_,k (p:=3) (r:=1) ?_ ?_ (by decide)⟩<;>simp[mtX,mtY,mvX',mvY',inX,inY]<;>omega
 ·refine⟨?_,?_,k (p:=5) (r:=3) ?_ ?_ (by decide)⟩<;>simp[mtX,mtY,mvX',mvY',inX,inY]<;>omega
 ·refine⟨?_,?_,k (p:=1) (r:=3) ?_ ?_ (by decide)⟩<;>simp[mtX,mtY,mvX',mvY',inX,inY]<;>omega
 ·refine⟨?_,?_,k (p:=3) (r:=1) ?_ ?_ (by decide)⟩<;>simp[mtX,mtY,mvX',mvY',inX,inY]<;>omega
 ·refine⟨?_,?_,k (p:=5) (r:=3) ?_ ?_ (by decide)⟩<;>simp[mtX,mtY,mvX',mvY',inX,inY]<;>omega
 ·refine⟨?_,?_,k (p:=3) (r:=5) ?_ ?_ (by decide)⟩<;>simp[mtX,mtY,mvX',mvY',inX,inY]<;>omega
 ·refine⟨?_,?_,k (p:=3) (r:=1) ?_ ?_ (by decide)⟩<;>simp[mtX,mtY,mvX',mvY',inX,inY]<;>omega
 ·refine⟨?_,?_,k (p:=1) (r:=3) ?_ ?_ (by decide)⟩<;>simp[mtX,mtY,mvX',mvY',inX,inY]<;>omega
 ·refine⟨?_,?_,k (p:=3) (r:=5) ?_ ?_ (by decide)⟩<;>simp[mtX,mtY,mvX',mvY',inX,inY]<;>omega
 ·refine⟨?_,?_,k (p:=5) (r:=3) ?_ ?_ (by decide)⟩<;>simp[mtX,mtY,mvX',mvY',inX,inY]<;>omega
 ·refine⟨?_,?_,k (p:=5) (r:=3) ?_ ?_ (by decide)⟩<;>simp[mtX,mtY,mvX',mvY',inX,inY]<;>omega
 ·refine⟨?_,?_,k (p:=3) (r:=1) ?_ ?_ (by decide)⟩<;>simp[mtX,mtY,mvX',mvY',inX,inY]<;>omega
 ·refine⟨?_,?_,k (p:=1) (r:=3) ?_ ?_ (by decide)⟩<;>simp[mtX,mtY,mvX',mvY',inX,inY]<;>omega
 ·refine⟨?_,?_,k (p:=3) (r:=5) ?_ ?_ (by decide)⟩<;>simp[mtX,mtY,mvX',mvY',inX,inY]<;>omega
 ·refine⟨?_,?_,k (p:=3) (r:=5) ?_ ?_ (by decide)⟩<;>simp[mtX,mtY,mvX',mvY',inX,inY]<;>omega
 ·refine⟨?_,?_,k (p:=5) (r:=3) ?_ ?_ (by decide)⟩<;>simp[mtX,mtY,mvX',mvY',inX,inY]<;>omega
 ·refine⟨?_,?_,k (p:=3) (r:=1) ?_ ?_ (by decide)⟩<;>simp[mtX,mtY,mvX',mvY',inX,inY]<;>omega
 ·refine⟨?_,?_,k (p:=1) (r:=3) ?_ ?_ (by decide)⟩<;>simp[mtX,mtY,mvX',mvY',inX,inY]<;>omega
 ·refine⟨?_,?_,k (p:=1) (r:=3) ?_ ?_ (by decide)⟩<;>simp[mtX,mtY,mvX',mvY',inX,inY]<;>omega
 ·refine⟨?_,?_,k (p:=3) (r:=5) ?_ ?_ (by decide)⟩<;>simp[mtX,mtY,mvX',mvY',inX,inY]<;>omega
 ·refine⟨?_,?_,k (p:=5) (r:=3) ?_ ?_ (by decide)⟩<;>simp[mtX,mtY,mvX',mvY',inX,inY]<;>omega
 ·refine⟨?_,?_,k (p:=3) (r:=1) ?_ ?_ (by decide)⟩<;>simp[mtX,mtY,mvX',mvY',inX,inY]<;>omega
theorem mt_abs {t u v K:Int}(h:isT t)(h1: -K≤u∧u≤K)(h2: -K≤v∧v≤K):(-K≤mtX t u v∧mtX t u v≤K)∧(-K≤mtY t u v∧mtY t u v≤K):=by
 have:=mt_b h u v
 omega
theorem ct56:CtOk Tryd.prog G 56 e56:=by
 intro args r h hp
 unfold e56 at h
 split at h<;>cases h
 rename_i t a b x y q
 obtain⟨hm,hv,h0⟩:=hp
 obtain⟨ht,m1,m2,m3,m4,m5⟩:=id hm
 unfold vldC at hv
 rw[decide_eq_true_iff]at hv
 obtain⟨v1,v2,v3,v4,v5⟩:=hv
 simp only at v1 v2 v3 v4 v5
 have hb:=in_b q
 have hs:s10k x y:=by unfold s10k;omega
 have hs2:s70k (6*x+inX q) (6*y+inY q):=by unfold s70k;omega
 have hB:=mt_abs ht (u:=6*x+inX q) (v:=6*y+inY q) (K:=24600) (by omega) (by omega)
 obtain⟨i1,i2,i3⟩:=img (a:=a) (b:=b) (x:=x) (y:=y) ht h0 v5
 refine fnP_spec hcm hmx TM56ok ok56 rfl (ob_o56 t a b x y q) ?_
 (repeat' (with_reducible apply And.intro))
 all_goals first|exact hs|exact hs2|exact hm|exact i1|exact i2|exact i3|omega|rfl|trivial
end Go.Proofs.YtmnaghfndigfkaaDoor.X
