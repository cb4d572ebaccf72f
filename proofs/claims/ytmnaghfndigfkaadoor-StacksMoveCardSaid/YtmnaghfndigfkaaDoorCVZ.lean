/-
 Moves: the contracts.
-/
import Derived.Test.YtmnaghfndigfkaaDoorOVZ
import Derived.Test.YtmnaghfndigfkaaDoorCRZ
import Derived.Test.YtmnaghfndigfkaaDoorCPZ
set_option maxRecDepth 1000000
set_option linter.unusedVariables false
set_option linter.unusedSimpArgs false
namespace Go.Proofs.YtmnaghfndigfkaaDoor.X
open Go Go.Ab

theorem mvV_iff {t a b:Int}:mvV t a b=true↔t≤7∧ -16384≤a∧a≤16384∧ -16384≤b∧b≤16384∧(a+b)%2=0:=by unfold mvV;rw[decide_eq_true_iff]
theorem mvV_no {t a b:Int}:mvV t a b=false↔¬ (t≤7∧ -16384≤a∧a≤16384∧ -16384≤b∧b≤16384∧(a+b)%2=0):=by unfold mvV;rw[decide_eq_false_iff_not]
theorem mvO_V {t a b:Int}(h:mvO t a b):mvV t a b=true:=mvV_iff.2 ⟨h.1.2,h.2⟩
theorem V_mvO {t a b:Int}(h:mvV t a b=true)(h0:0≤t):mvO t a b:=by
 have:=mvV_iff.1 h
 exact⟨⟨h0,this.1⟩,this.2⟩
theorem bey_iff {n:Int}:beyB n=true↔n< -16384∨16384<n:=by unfold beyB;rw[decide_eq_true_iff]
theorem bey_no {n:Int}:beyB n=false↔¬ (n< -16384∨16384<n):=by unfold beyB;rw[decide_eq_false_iff_not]
theorem tmz (n:Int):n.tmod 2=0↔n%2=0:=by
 have h1:=Int.mul_tdiv_add_tmod n 2
 constructor
 ·intro h;omega
 ·intro h;exact Int.tmod_eq_zero_of_dvd (Int.dvd_of_emod_eq_zero h)
theorem tm2 (n:Int):(n.tmod 2 !=0)=false↔n%2=0:=by rw[bne_eq_false_iff_eq];exact tmz n
theorem tm2n (n:Int):(n.tmod 2 !=0)=true↔n%2≠0:=by rw[bne_iff_ne];exact not_congr (tmz n)
theorem ct108:CtOk Tryd.prog G 108 e108:=by
 intro args r h hp
 unfold e108 at h
 split at h<;>cases h
 rename_i a
 refine fnP_spec hcm hmx T0ok ok108 rfl (ob_o108 a) ?_
 simp only[ltb_iff,ltb_no,and_true]
 refine⟨fun h=>(bey_iff.2 (.inl h)).symm,fun h=>?_⟩
 cases hb:beyB a with
 |true=>rw[bey_iff]at hb;exact ltb_iff.2 (by omega)
 |false=>rw[bey_no]at hb;exact ltb_no.2 (by omega)
theorem TV55ok:TabOk Tryd.prog G TV55:=tabL_ok noCh_ok ⟨ct108,trivial⟩
theorem ct55:CtOk Tryd.prog G 55 e55:=by
 intro args r h hp
 unfold e55 at h
 split at h<;>cases h
 rename_i t a b
 obtain⟨t0,t1⟩:=hp
 refine fnP_spec hcm hmx TV55ok ok55 rfl (ob_o55 t a b) ?_
 have no:¬ (t≤7∧ -16384≤a∧a≤16384∧ -16384≤b∧b≤16384∧(a+b)%2=0)→1=bI (mvV t a b) 0 1:=fun h=>by rw[mvV_no.2 h];rfl
 simp only[leb_iff,leb_no,inR_i64,bey_iff,bey_no,tm2,tm2n,and_true,true_and]
 refine⟨by omega,fun h=>no (by omega),fun h1=>⟨fun h=>no (by omega),fun h2=>⟨fun h=>no (by omega),fun h3=>⟨by omega,fun h=>no (by omega),fun h4=>?_⟩⟩⟩⟩
 rw[mvV_iff.2 (by omega)];rfl
theorem mul_b {a x B:Int}(h1: -1≤a)(h2:a≤1)(g1: -B≤x)(g2:x≤B): -B≤a*x∧a*x≤B:=by
 have:a= -1∨a=0∨a=1:=by omega
 rcases this with rfl|rfl|rfl<;>omega
theorem ct112:CtOk Tryd.prog G 112 e112:=by
 intro args r h hp
 unfold e112 at h
 split at h<;>cases h
 rename_i a b c d x y
 obtain⟨⟨a1,a2⟩,⟨b1,b2⟩,⟨c1,c2⟩,⟨d1,d2⟩,s1,s2,s3,s4⟩:=hp
 refine fnP_spec hcm hmx T0ok ok112 rfl (ob_o112 a b c d x y) ?_
 have f1:=mul_b (x:=x) (B:=65536) a1 a2 (by omega) s2
 have f2:=mul_b (x:=y) (B:=65536) b1 b2 (by omega) s4
 have f3:=mul_b (x:=x) (B:=65536) c1 c2 (by omega) s2
 have f4:=mul_b (x:=y) (B:=65536) d1 d2 (by omega) s4
 simp only[inR_i64,and_true]
 refine⟨?_,?_,?_,?_,?_,?_⟩<;>omega
theorem TV166ok:TabOk Tryd.prog G TV166:=tabL_ok noCh_ok ⟨ct55,ct151,ct112,trivial⟩
theorem ptB_f {x y:Int}(h: -65536≤x∧x≤65536∧ -65536≤y∧y≤65536):(bI (ptB x y) 0 1 !=0)=false:=by rw[ptB_iff.2 h];rfl
theorem sp166_0 (a b x y:Int)(hm:mvO 0 a b)(hs:s10k x y):SpecP Tryd.prog G 166 [.agg [.int .u8 0,.int .i64 a,.int .i64 b],.agg [.int .i64 x,.int .i64 y]] (.tup [.agg [.int .i64 (mtX 0 x y+2*a),.int .i64 (mtY 0 x y+2*b)],.int .i64 0]) []:=by
 obtain⟨s1,s2,s3,s4⟩:=hs
 have hV:=mvO_V hm
 obtain⟨_,m1,m2,m3,m4,_⟩:=hm
 refine fnP_spec hcm hmx TV166ok ok166 rfl (ob_o166_0 a b x y) ?_
 rw[show mtX 0 x y=x from rfl,show mtY 0 x y=y from rfl]
 exact⟨by decide,by rw[hV];rfl,ptB_f (by omega),⟨by decide,by decide,by decide,by decide,by omega,by omega,by omega,by omega⟩,inR_i64.2 (by omega),inR_i64.2 (by omega),inR_i64.2 (by omega),inR_i64.2 (by omega),ptB_f (by omega),by omega,by omega,rfl,trivial⟩
theorem sp166_1 (a b x y:Int)(hm:mvO 1 a b)(hs:s10k x y):SpecP Tryd.prog G 166 [.agg [.int .u8 1,.int .i64 a,.int .i64 b],.agg [.int .i64 x,.int .i64 y]] (.tup [.agg [.int .i64 (mtX 1 x y+2*a),.int .i64 (mtY 1 x y+2*b)],.int .i64 0]) []:=by
 obtain⟨s1,s2,s3,s4⟩:=hs
 have hV:=mvO_V hm
 obtain⟨_,m1,m2,m3,m4,_⟩:=hm
 refine fnP_spec hcm hmx TV166ok ok166 rfl (ob_o166_1 a b x y) ?_
 rw[show mtX 1 x y= -y from rfl,show mtY 1 x y=x from rfl]
 exact⟨by decide,by rw[hV];rfl,ptB_f (by omega),⟨by decide,by decide,by decide,by decide,by omega,by omega,by omega,by omega⟩,inR_i64.2 (by omega),inR_i64.2 (by omega),inR_i64.2 (by omega),inR_i64.2 (by omega),ptB_f (by omega),by omega,by omega,rfl,trivial⟩
theorem sp166_2 (a b x y:Int)(hm:mvO 2 a b)(hs:s10k x y):SpecP Tryd.prog G 166 [.agg [.int .u8 2,.int .i64 a,.int .i64 b],.agg [.int .i64 x,.int .i64 y]] (.tup [.agg [.int .i64 (mtX 2 x y+2*a),.int .i64 (mtY 2 x y+2*b)],.int .i64 0]) []:=by
 obtain⟨s1,s2,s3,s4⟩:=hs
 have hV:=mvO_V hm
 obtain⟨_,m1,m2,m3,m4,_⟩:=hm
 refine fnP_spec hcm hmx TV166ok ok166 rfl (ob_o166_2 a b x y) ?_
 rw[show mtX 2 x y= -x from rfl,show mtY 2 x y= -y from rfl]
 exact⟨by decide,by rw[hV];rfl,ptB_f (by omega),⟨by decide,by decide,by decide,by decide,by omega,by omega,by omega,by omega⟩,inR_i64.2 (by omega),inR_i64.2 (by omega),inR_i64.2 (by omega),inR_i64.2 (by omega),ptB_f (by omega),by omega,by omega,rfl,trivial⟩
theorem sp166_3 (a b x y:Int)(hm:mvO 3 a b)(hs:s10k x y):SpecP Tryd.prog G 166 [.agg [.int .u8 3,.int .i64 a,.int .i64 b],.agg [.int .i64 x,.int .i64 y]] (.tup [.agg [.int .i64 (mtX 3 x y+2*a),.int .i64 (mtY 3 x y+2*b)],.int .i64 0]) []:=by
 obtain⟨s1,s2,s3,s4⟩:=hs
 have hV:=mvO_V hm
 obtain⟨_,m1,m2,m3,m4,_⟩:=hm
 refine fnP_spec hcm hmx TV166ok ok166 rfl (ob_o166_3 a b x y) ?_
 rw[show mtX 3 x y=y from rfl,show mtY 3 x y= -x from rfl]
 exact⟨by decide,by rw[hV];rfl,ptB_f (by omega),⟨by decide,by decide,by decide,by decide,by omega,by omega,by omega,by omega⟩,inR_i64.2 (by omega),inR_i64.2 (by omega),inR_i64.2 (by omega),inR_i64.2 (by omega),ptB_f (by omega),by omega,by omega,rfl,trivial⟩
theorem sp166_4 (a b x y:Int)(hm:mvO 4 a b)(hs:s10k x y):SpecP Tryd.prog G 166 [.agg [.int .u8 4,.int .i64 a,.int .i64 b],.agg [.int .i64 x,.int .i64 y]] (.tup [.agg [.int .i64 (mtX 4 x y+2*a),.int .i64 (mtY 4 x y+2*b)],.int .i64 0]) []:=by
 obtain⟨s1,s2,s3,s4⟩:=hs
 have hV:=mvO_V hm
 obtain⟨_,m1,m2,m3,m4,_⟩:=hm
 refine fnP_spec hcm hmx TV166ok ok166 rfl (ob_o166_4 a b x y) ?_
 rw[show mtX 4 x y= -x from rfl,show mtY 4 x y=y from rfl]
 exact⟨by decide,by rw[hV];rfl,ptB_f (by omega),⟨by decide,by decide,by decide,by decide,by omega,by omega,by omega,by omega⟩,inR_i64.2 (by omega),inR_i64.2 (by omega),inR_i64.2 (by omega),inR_i64.2 (by omega),ptB_f (by omega),by omega,by omega,rfl,trivial⟩
theorem sp166_5 (a b x y:Int)(hm:mvO 5 a b)(hs:s10k x y):SpecP Tryd.prog G 166 [.agg [.int .u8 5,.int .i64 a,.int .i64 b],.agg [.int .i64 x,.int .i64 y]] (.tup [.agg [.int .i64 (mtX 5 x y+2*a),.int .i64 (mtY 5 x y+2*b)],.int .i64 0]) []:=by
 obtain⟨s1,s2,s3,s4⟩:=hs
 have hV:=mvO_V hm
 obtain⟨_,m1,m2,m3,m4,_⟩:=hm
 refine fnP_spec hcm hmx TV166ok ok166 rfl (ob_o166_5 a b x y) ?_
 rw[show mtX 5 x y= -y from rfl,show mtY 5 x y= -x from rfl]
 exact⟨by decide,by rw[hV];rfl,ptB_f (by omega),⟨by decide,by decide,by decide,by decide,by omega,by omega,by omega,by omega⟩,inR_i64.2 (by omega),inR_i64.2 (by omega),inR_i64.2 (by omega),inR_i64.2 (by omega),ptB_f (by omega),by omega,by omega,rfl,trivial⟩
theorem sp166_6 (a b x y:Int)(hm:mvO 6 a b)(hs:s10k x y):SpecP Tryd.prog G 166 [.agg [.int .u8 6,.int .i64 a,.int .i64 b],.agg [.int .i64 x,.int .i64 y]] (.tup [.agg [.int .i64 (mtX 6 x y+2*a),.int .i64 (mtY 6 x y+2*b)],.int .i64 0]) []:=by
 obtain⟨s1,s2,s3,s4⟩:=hs
 have hV:=mvO_V hm
 obtain⟨_,m1,m2,m3,m4,_⟩:=hm
 refine fnP_spec hcm hmx TV166ok ok166 rfl (ob_o166_6 a b x y) ?_
 rw[show mtX 6 x y=x from rfl,show mtY 6 x y= -y from rfl]
 exact⟨by decide,by rw[hV];rfl,ptB_f (by omega),⟨by decide,by decide,by decide,by decide,by omega,by omega,by omega,by omega⟩,inR_i64.2 (by omega),inR_i64.2 (by omega),inR_i64.2 (by omega),inR_i64.2 (by omega),ptB_f (by omega),by omega,by omega,rfl,trivial⟩
theorem sp166_7 (a b x y:Int)(hm:mvO 7 a b)(hs:s10k x y):SpecP Tryd.prog G 166 [.agg [.int .u8 7,.int .i64 a,.int .i64 b],.agg [.int .i64 x,.int .i64 y]] (.tup [.agg [.int .i64 (mtX 7 x y+2*a),.int .i64 (mtY 7 x y+2*b)],.int .i64 0]) []:=by
 obtain⟨s1,s2,s3,s4⟩:=hs
 have hV:=mvO_V hm
 obtain⟨_,m1,m2,m3,m4,_⟩:=hm
 refine fnP_spec hcm hmx TV166ok ok166 rfl (ob_o166_7 a b x y) ?_
 rw[show mtX 7 x y=y from rfl,show mtY 7 x y=x from rfl]
 exact⟨by decide,by rw[hV];rfl,ptB_f (by omega),⟨by decide,by decide,by decide,by decide,by omega,by omega,by omega,by omega⟩,inR_i64.2 (by omega),inR_i64.2 (by omega),inR_i64.2 (by omega),inR_i64.2 (by omega),ptB_f (by omega),by omega,by omega,rfl,trivial⟩
theorem ct166:CtOk Tryd.prog G 166 e166:=by
 intro args r h hp
 unfold e166 at h
 split at h<;>cases h
 rename_i t a b x y
 obtain⟨hm,hs⟩:=hp
 obtain⟨h0,h7⟩:=hm.1
 have:t=0∨t=1∨t=2∨t=3∨t=4∨t=5∨t=6∨t=7:=by omega
 rcases this with rfl|rfl|rfl|rfl|rfl|rfl|rfl|rfl
 ·exact sp166_0 a b x y hm hs
 ·exact sp166_1 a b x y hm hs
 ·exact sp166_2 a b x y hm hs
 ·exact sp166_3 a b x y hm hs
 ·exact sp166_4 a b x y hm hs
 ·exact sp166_5 a b x y hm hs
 ·exact sp166_6 a b x y hm hs
 ·exact sp166_7 a b x y hm hs
/-! ### Cells -/
theorem isT_or {t:Int}(h:isT t):t=0∨t=1∨t=2∨t=3∨t=4∨t=5∨t=6∨t=7:=by
 obtain⟨h0,h7⟩:=h
 omega
theorem mt_b {t:Int}(h:isT t)(u v:Int):(mtX t u v=u∨mtX t u v= -u∨mtX t u v=v∨mtX t u v= -v)∧(mtY t u v=u∨mtY t u v= -u∨mtY t u v=v∨mtY t u v= -v):=by
 rcases isT_or h with rfl|rfl|rfl|rfl|rfl|rfl|rfl|rfl<;>simp[mtX,mtY]
theorem mvQ_sd {t q:Int}(h:isT t)(h0:0≤q)(h3:q≤3):(0≤mvQ t q∧mvQ t q≤3)∧mtX t (sdX q) (sdY q)=sdX (mvQ t q)∧mtY t (sdX q) (sdY q)=sdY (mvQ t q):=by
 have cq:q=0∨q=1∨q=2∨q=3:=by omega
 rcases isT_or h with rfl|rfl|rfl|rfl|rfl|rfl|rfl|rfl<;>rcases cq with rfl|rfl|rfl|rfl<;>decide
theorem hlf_ok {p:Int}(h:p%2=1):hlf p=(p-1)/2:=by
 unfold hlf
 rw[and_one,h]
 have:p-1=2*((p-1)/2):=by omega
 rw[this,td2]
 omega
theorem TV132ok:TabOk Tryd.prog G TV132:=tabL_ok noCh_ok ⟨ct165,ct166,trivial⟩
theorem hlf_eq (p:Int):(p-bitI .and .i64 p 1).tdiv 2=hlf p:=rfl
theorem ct132:CtOk Tryd.prog G 132 e132:=by
 intro args r h hp
 unfold e132 at h
 split at h<;>cases h
 rename_i t a b x y q
 obtain⟨hm,hv,h0⟩:=hp
 have hv':=vldC_iff.1 hv
 simp only at hv'
 obtain⟨hT,m1,m2,m3,m4,m5⟩:=id hm
 obtain⟨⟨q0,q3⟩,eX,eY⟩:=mvQ_sd hT h0 hv'.2.2.2.2
 obtain⟨bx,b_⟩:=mt_b hT (2*x+1) (2*y+1)
 refine fnP_spec hcm hmx TV132ok ok132 rfl (ob_o132 t a b x y q) ?_
 have o1:(mtX t (2*x+1) (2*y+1)+2*a)%2=1:=by omega
 have o2:(mtY t (2*x+1) (2*y+1)+2*b)%2=1:=by omega
 have f1:=hlf_ok o1
 have f2:=hlf_ok o2
 have g1:bitI .and .i64 (mtX t (2*x+1) (2*y+1)+2*a) 1=1:=by rw[and_one,o1]
 have g2:bitI .and .i64 (mtY t (2*x+1) (2*y+1)+2*b) 1=1:=by rw[and_one,o2]
 have e1:mvX' t a x y=hlf (mtX t (2*x+1) (2*y+1)+2*a):=f1.symm
 have e2:mvY' t b x y=hlf (mtY t (2*x+1) (2*y+1)+2*b):=f2.symm
 rw[e1,e2]
 simp only[hlf_eq,eX,eY]
 simp only[g1,g2,inR_i64,inR_u8,ltb_iff,ltb_no,leb_iff,and_true,true_and,iI,kA,Int.add_zero,beq_iff_eq,beq_eq_false_iff_ne,ne_eq,forall_const]
 have cq:q=0∨q=1∨q=2∨q=3:=by omega
 refine⟨⟨by omega,by omega,by omega,by omega⟩,by omega,by omega,?_,?_,⟨hm,by omega,by omega,by omega,by omega⟩,⟨⟨hT,by decide,by decide,by decide,by decide,by decide⟩,?_⟩,by omega,by omega,by omega,by omega,⟨0,rfl,by omega,by rw[if_neg (by omega)]⟩,?_⟩
 ·rcases cq with rfl|rfl|rfl|rfl<;>rfl
 ·rcases cq with rfl|rfl|rfl|rfl<;>rfl
 ·rcases cq with rfl|rfl|rfl|rfl<;>(unfold s10k;decide)
 generalize mvQ t q=w at*
 rintro⟨i,k⟩ ⟨n,i1,i2,i3⟩
 simp only at i1 i3 ⊢
 subst i1 i3
 have cw:w=0∨w=1∨w=2∨w=3:=by omega
 clear eX eY
 rcases cw with rfl|rfl|rfl|rfl
 ·refine⟨fun h=>?_,fun h0=>⟨fun h=>?_,fun h1=>⟨fun h=>?_,fun h2=>⟨fun h=>?_,fun h3=>?_⟩⟩⟩⟩
  ·obtain rfl:n=0:=by omega
   exact⟨⟨h,by omega⟩,fun g=>⟨⟨1,rfl,by omega,by revert g;decide⟩,by omega⟩,fun g=>⟨⟨1,rfl,by omega,by revert g;decide⟩,by omega⟩⟩
  ·obtain rfl:n=1:=by omega
   exact⟨⟨h,by omega⟩,fun g=>⟨⟨2,rfl,by omega,by revert g;decide⟩,by omega⟩,fun g=>⟨⟨2,rfl,by omega,by revert g;decide⟩,by omega⟩⟩
  ·obtain rfl:n=2:=by omega
   exact⟨⟨h,by omega⟩,fun g=>⟨⟨3,rfl,by omega,by revert g;decide⟩,by omega⟩,fun g=>⟨⟨3,rfl,by omega,by revert g;decide⟩,by omega⟩⟩
  ·obtain rfl:n=3:=by omega
   exact⟨⟨h,by omega⟩,fun g=>⟨⟨4,rfl,by omega,by revert g;decide⟩,by omega⟩,fun g=>⟨⟨4,rfl,by omega,by revert g;decide⟩,by omega⟩⟩
  ·obtain rfl:n=4:=by omega
   exact⟨⟨by omega,by omega⟩,by decide⟩
 ·refine⟨fun h=>?_,fun h0=>⟨fun h=>?_,fun h1=>⟨fun h=>?_,fun h2=>⟨fun h=>?_,fun h3=>?_⟩⟩⟩⟩
  ·obtain rfl:n=0:=by omega
   exact⟨⟨h,by omega⟩,fun g=>⟨⟨1,rfl,by omega,by revert g;decide⟩,by omega⟩,fun g=>⟨⟨1,rfl,by omega,by revert g;decide⟩,by omega⟩⟩
  ·obtain rfl:n=1:=by omega
   exact⟨⟨h,by omega⟩,fun g=>⟨⟨2,rfl,by omega,by revert g;decide⟩,by omega⟩,fun g=>⟨⟨2,rfl,by omega,by revert g;decide⟩,by omega⟩⟩
  ·obtain rfl:n=2:=by omega
   exact⟨⟨h,by omega⟩,fun g=>⟨⟨3,rfl,by omega,by revert g;decide⟩,by omega⟩,fun g=>⟨⟨3,rfl,by omega,by revert g;decide⟩,by omega⟩⟩
  ·obtain rfl:n=3:=by omega
   exact⟨⟨h,by omega⟩,fun g=>⟨⟨4,rfl,by omega,by revert g;decide⟩,by omega⟩,fun g=>⟨⟨4,rfl,by omega,by revert g;decide⟩,by omega⟩⟩
  ·obtain rfl:n=4:=by omega
   exact⟨⟨by omega,by omega⟩,by decide⟩
 ·refine⟨fun h=>?_,fun h0=>⟨fun h=>?_,fun h1=>⟨fun h=>?_,fun h2=>⟨fun h=>?_,fun h3=>?_⟩⟩⟩⟩
  ·obtain rfl:n=0:=by omega
   exact⟨⟨h,by omega⟩,fun g=>⟨⟨1,rfl,by omega,by revert g;decide⟩,by omega⟩,fun g=>⟨⟨1,rfl,by omega,by revert g;decide⟩,by omega⟩⟩
  ·obtain rfl:n=1:=by omega
   exact⟨⟨h,by omega⟩,fun g=>⟨⟨2,rfl,by omega,by revert g;decide⟩,by omega⟩,fun g=>⟨⟨2,rfl,by omega,by revert g;decide⟩,by omega⟩⟩
  ·obtain rfl:n=2:=by omega
   exact⟨⟨h,by omega⟩,fun g=>⟨⟨3,rfl,by omega,by revert g;decide⟩,by omega⟩,fun g=>⟨⟨3,rfl,by omega,by revert g;decide⟩,by omega⟩⟩
  ·obtain rfl:n=3:=by omega
   exact⟨⟨h,by omega⟩,fun g=>⟨⟨4,rfl,by omega,by revert g;decide⟩,by omega⟩,fun g=>⟨⟨4,rfl,by omega,by revert g;decide⟩,by omega⟩⟩
  ·obtain rfl:n=4:=by omega
   exact⟨⟨by omega,by omega⟩,by decide⟩
 ·refine⟨fun h=>?_,fun h0=>⟨fun h=>?_,fun h1=>⟨fun h=>?_,fun h2=>⟨fun h=>?_,fun h3=>?_⟩⟩⟩⟩
  ·obtain rfl:n=0:=by omega
   exact⟨⟨h,by omega⟩,fun g=>⟨⟨1,rfl,by omega,by revert g;decide⟩,by omega⟩,fun g=>⟨⟨1,rfl,by omega,by revert g;decide⟩,by omega⟩⟩
  ·obtain rfl:n=1:=by omega
   exact⟨⟨h,by omega⟩,fun g=>⟨⟨2,rfl,by omega,by revert g;decide⟩,by omega⟩,fun g=>⟨⟨2,rfl,by omega,by revert g;decide⟩,by omega⟩⟩
  ·obtain rfl:n=2:=by omega
   exact⟨⟨h,by omega⟩,fun g=>⟨⟨3,rfl,by omega,by revert g;decide⟩,by omega⟩,fun g=>⟨⟨3,rfl,by omega,by revert g;decide⟩,by omega⟩⟩
  ·obtain rfl:n=3:=by omega
   exact⟨⟨h,by omega⟩,fun g=>⟨⟨4,rfl,by omega,by revert g;decide⟩,by omega⟩,fun g=>⟨⟨4,rfl,by omega,by revert g;decide⟩,by omega⟩⟩
  ·obtain rfl:n=4:=by omega
   exact⟨⟨by omega,by omega⟩,by decide⟩
theorem TV93ok:TabOk Tryd.prog G TV93:=tabL_ok noCh_ok ⟨ct55,ct86,ct132,trivial⟩
theorem ct93:CtOk Tryd.prog G 93 e93:=by
 intro args r h hp
 unfold e93 at h
 split at h<;>cases h
 rename_i t a b x y q
 obtain⟨hm,hv⟩:=hp
 refine fnP_spec hcm hmx TV93ok ok93 rfl (ob_o93 t a b x y q) ?_
 have hV:=mvO_V hm
 have e:vldC (mvX' t a x y,mvY' t b x y,mvQ t q)=mvB t a b x y q:=rfl
 rw[e,hV,hv.1]
 refine⟨⟨hm.1.1,by have:=hm.1.2;omega⟩,rfl,rfl,⟨hm,hv⟩,fun h=>?_,fun h=>?_⟩
 ·cases hb:mvB t a b x y q with
  |true=>rw[hb]at h;cases h
  |false=>exact⟨rfl,rfl,rfl,rfl,trivial⟩
 ·cases hb:mvB t a b x y q with
  |true=>exact⟨rfl,rfl,rfl,rfl,trivial⟩
  |false=>rw[hb]at h;cases h
/-! ### The reference's move of a cell -/
end Go.Proofs.YtmnaghfndigfkaaDoor.X
