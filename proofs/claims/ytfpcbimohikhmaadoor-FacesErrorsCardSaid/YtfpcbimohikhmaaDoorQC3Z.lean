/-
 The contracts of the functions on sheets.
-/
import Derived.Test.YtfpcbimohikhmaaDoorQC2Z
set_option maxRecDepth 1000000
set_option linter.unusedVariables false
set_option linter.unusedSimpArgs false
namespace Go.Proofs.YtfpcbimohikhmaaDoor.X
open Go Go.Ab

theorem bIne (b:Bool):(bI b 0 1 !=0)= !b:=by cases b<;>rfl
theorem okS_iff {w h:Int}:okS w h=true↔1≤w∧1≤h∧w≤256∧h≤256∧w*h≤256:=by unfold okS;rw[decide_eq_true_iff]
theorem okS_no {w h:Int}:okS w h=false↔¬ (1≤w∧1≤h∧w≤256∧h≤256∧w*h≤256):=by unfold okS;rw[decide_eq_false_iff_not]
theorem hasB_iff {w h i:Int}:hasB w h i=true↔0≤i∧i<4*w*h:=by unfold hasB;rw[decide_eq_true_iff]
theorem hasB_no {w h i:Int}:hasB w h i=false↔¬ (0≤i∧i<4*w*h):=by unfold hasB;rw[decide_eq_false_iff_not]
theorem inB_iff {w h x y:Int}:inB w h x y=true↔0≤x∧x<w∧0≤y∧y<h:=by unfold inB;rw[decide_eq_true_iff]
theorem inB_no {w h x y:Int}:inB w h x y=false↔¬ (0≤x∧x<w∧0≤y∧y<h):=by unfold inB;rw[decide_eq_false_iff_not]
theorem okCl_iff {x y q:Int}:okCl x y q=true↔ -4096≤x∧x≤4096∧ -4096≤y∧y≤4096∧q≤3:=by unfold okCl;rw[decide_eq_true_iff]
theorem okCl_no {x y q:Int}:okCl x y q=false↔¬ (-4096≤x∧x≤4096∧ -4096≤y∧y≤4096∧q≤3):=by unfold okCl;rw[decide_eq_false_iff_not]
theorem mul_le {a b c d:Int}(h0:0≤b)(h1:0≤c)(h2:a≤c)(h3:b≤d):a*b≤c*d:=Int.mul_le_mul h2 h3 h0 h1
theorem mul_bd {w h:Int}(h1:1≤w)(h2:1≤h)(h3:w≤256)(h4:h≤256):1≤w*h∧w*h≤65536:=by
 have a:=mul_le (a:=w) (b:=h) (c:=256) (d:=256) (by omega) (by omega) h3 h4
 have b:=mul_le (a:=1) (b:=1) (c:=w) (d:=h) (by omega) (by omega) h1 h2
 omega
/-- A cell of a sheet. -/
theorem cell_ok {w h i:Int}(hs:okS w h=true)(hb:hasB w h i=true):(0≤qX w i∧qX w i<w)∧(0≤qY w i∧qY w i<h)∧(0≤qQ i∧qQ i≤3)∧i=4*(qY w i*w+qX w i)+qQ i∧i.tdiv 4=i/4∧i.tmod 4=i%4∧i<1024∧0≤i:=by
 obtain⟨h1,h2,h3,h4,h5⟩:=okS_iff.1 hs
 obtain⟨b1,b2⟩:=hasB_iff.1 hb
 have e4:4*w*h=4*(w*h):=Int.mul_assoc _ _ _
 have d1:i.tdiv 4=i/4:=Int.tdiv_eq_ediv_of_nonneg b1
 have d2:i.tmod 4=i%4:=Int.tmod_eq_emod_of_nonneg b1
 have d3:(i/4).tmod w=(i/4)%w:=Int.tmod_eq_emod_of_nonneg (by omega)
 have d4:(i/4).tdiv w=(i/4)/w:=Int.tdiv_eq_ediv_of_nonneg (by omega)
 unfold qX qY qQ
 rw[d1,d2,d3,d4]
 have m1:=Int.emod_nonneg (i/4) (by omega:w≠0)
 have m2:=Int.emod_lt_of_pos (i/4) (by omega:0<w)
 have m3:=Int.mul_ediv_add_emod (i/4) w
 have c1:w*(i/4/w)=i/4/w*w:=Int.mul_comm _ _
 have n1:0≤i/4/w:=Int.ediv_nonneg (by omega) (by omega)
 have n2:i/4/w<h:=Int.ediv_lt_of_lt_mul (by omega) (by rw[Int.mul_comm];omega)
 refine⟨⟨m1,m2⟩,⟨n1,n2⟩,by omega,by omega,rfl,rfl,by omega,by omega⟩
theorem nbQ_ok {q e:Int}(hq:0≤q∧q≤3)(he:0≤e∧e≤2):0≤nbQ q e∧nbQ q e≤3:=by
 unfold nbQ
 split
 ·split<;>omega
 ·split
  ·split
   ·omega
   ·split
    ·omega
    ·split<;>omega
  ·omega
theorem nbXY_ok (x q e:Int):(x-1≤nbX x q e∧nbX x q e≤x+1)∧(x-1≤nbY x q e∧nbY x q e≤x+1)∧nbX 0 q e+x=nbX x q e∧nbY 0 q e+x=nbY x q e:=by
 unfold nbX nbY
 by_cases he:e=0
 ·simp only[he,if_true]
  by_cases h1:q=1
  ·subst h1;simp;omega
  ·by_cases h3:q=3
   ·subst h3;simp;omega
   ·by_cases h2:q=2
    ·subst h2;simp;omega
    ·by_cases h0:q=0
     ·subst h0;simp;omega
     ·simp[h0,h1,h2,h3];omega
 ·simp only[he,if_false];omega

theorem sp64 (w h:Int):SpecP Tryd.prog G 64 [.agg [.int .i64 w,.int .i64 h]] (.int .i64 (bI (okS w h) 0 1)) []:=by
 refine fnP_spec hcm hmx T0ok ok64 rfl (ob_o64 w h) ?_
 simp only[ltb_iff,ltb_no,inR_i64,and_true]
 have hb:okS w h=true∨okS w h=false:=by cases okS w h<;>simp
 rcases hb with hb|hb
 ·rw[hb]
  have:=okS_iff.1 hb
  have hm:=mul_bd this.1 this.2.1 this.2.2.1 this.2.2.2.1
  refine⟨by omega,fun a=>⟨by omega,fun b=>⟨by omega,fun c=>⟨by omega,fun d=>⟨by omega,by omega,fun _=>rfl⟩⟩⟩⟩⟩
 ·rw[hb]
  have:=okS_no.1 hb
  refine⟨fun _=>rfl,fun a=>⟨fun _=>rfl,fun b=>⟨fun _=>rfl,fun c=>⟨fun _=>rfl,fun d=>⟨by have:=mul_bd (w:=w) (h:=h) (by omega) (by omega) (by omega) (by omega);omega,fun _=>rfl,fun e=>absurd ⟨by omega,by omega,by omega,by omega,by omega⟩ this⟩⟩⟩⟩⟩
theorem sp29 (w h:Int):SpecP Tryd.prog G 29 [.agg [.int .i64 w,.int .i64 h]] (.int .i64 (bI (okS w h) 1 0)) []:=by
 refine fnP_spec hcm hmx T0ok ok29 rfl (ob_o29 w h) ?_
 simp only[ltb_iff,ltb_no,inR_i64,and_true]
 have hb:okS w h=true∨okS w h=false:=by cases okS w h<;>simp
 rcases hb with hb|hb
 ·rw[hb]
  have:=okS_iff.1 hb
  have hm:=mul_bd this.1 this.2.1 this.2.2.1 this.2.2.2.1
  refine⟨by omega,fun a=>⟨by omega,fun b=>⟨by omega,fun c=>⟨by omega,fun d=>⟨by omega,by omega,fun _=>rfl⟩⟩⟩⟩⟩
 ·rw[hb]
  have:=okS_no.1 hb
  refine⟨fun _=>rfl,fun a=>⟨fun _=>rfl,fun b=>⟨fun _=>rfl,fun c=>⟨fun _=>rfl,fun d=>⟨by have:=mul_bd (w:=w) (h:=h) (by omega) (by omega) (by omega) (by omega);omega,fun _=>rfl,fun e=>absurd ⟨by omega,by omega,by omega,by omega,by omega⟩ this⟩⟩⟩⟩⟩
theorem sp92 (x y q:Int):SpecP Tryd.prog G 92 [.agg [.int .i64 x,.int .i64 y,.int .u8 q]] (.int .i64 (bI (okCl x y q) 0 1)) []:=by
 refine fnP_spec hcm hmx T0ok ok92 rfl (ob_o92 x y q) ?_
 simp only[ltb_iff,ltb_no,inR_i64,and_true]
 have hb:okCl x y q=true∨okCl x y q=false:=by cases okCl x y q<;>simp
 rcases hb with hb|hb
 ·rw[hb]
  have:=okCl_iff.1 hb
  refine⟨by omega,fun a=>⟨by omega,fun b=>⟨by omega,fun c=>⟨by omega,fun d=>⟨by omega,fun _=>rfl⟩⟩⟩⟩⟩
 ·rw[hb]
  have:=okCl_no.1 hb
  refine⟨fun _=>rfl,fun a=>⟨fun _=>rfl,fun b=>⟨fun _=>rfl,fun c=>⟨fun _=>rfl,fun d=>⟨fun _=>rfl,fun e=>absurd ⟨by omega,by omega,by omega,by omega,by omega⟩ this⟩⟩⟩⟩⟩
theorem sp90 (w h i:Int)(hs:okS w h=true):SpecP Tryd.prog G 90 [.agg [.int .i64 w,.int .i64 h],.int .i64 i] (.bool (hasB w h i)) []:=by
 refine fnP_spec hcm hmx T0ok ok90 rfl (ob_o90 w h i) ?_
 have e4:4*w*h=4*(w*h):=Int.mul_assoc _ _ _
 obtain⟨h1,h2,h3,h4,h5⟩:=okS_iff.1 hs
 have hm:=mul_bd h1 h2 h3 h4
 simp only[leb_iff,leb_no,inR_i64,and_true]
 refine⟨fun h0=>⟨by omega,by omega,?_⟩,fun h0=>?_⟩
 ·cases hb:hasB w h i with
  |true=>have:=hasB_iff.1 hb;simp only[ltb_iff];omega
  |false=>have:=hasB_no.1 hb;simp only[ltb_no];omega
 ·cases hb:hasB w h i with
  |true=>have:=hasB_iff.1 hb;omega
  |false=>rfl
theorem sp91 (w h i:Int)(hs:okS w h=true)(hb:hasB w h i=true):SpecP Tryd.prog G 91 [.agg [.int .i64 w,.int .i64 h],.int .i64 i] (.agg [.int .i64 (qX w i),.int .i64 (qY w i),.int .u8 (qQ i)]) []:=by
 refine fnP_spec hcm hmx T0ok ok91 rfl (ob_o91 w h i) ?_
 obtain⟨⟨a1,a2⟩,⟨a3,a4⟩,⟨a5,a6⟩,a7,a8,a9,a10,a11⟩:=cell_ok hs hb
 obtain⟨h1,h2,h3,h4,h5⟩:=okS_iff.1 hs
 have e1:Int.tdiv (Int.tdiv i 4) w=qY w i:=rfl
 have e2:i.tmod 4=qQ i:=rfl
 rw[e1,e2]
 simp only[inR_i64,inR_u8,and_true,Bool.not_eq_true',beq_eq_false_iff_ne,ne_eq]
 exact⟨by omega,by omega,by omega,by omega,by omega,by omega,rfl⟩
theorem ct64:CtOk Tryd.prog G 64 e64:=by
 intro args r h hp
 unfold e64 at h
 split at h<;>cases h
 exact(sp64 _ _).caps
theorem ct29:CtOk Tryd.prog G 29 e29:=by
 intro args r h hp
 unfold e29 at h
 split at h<;>cases h
 exact(sp29 _ _).caps
theorem ct92:CtOk Tryd.prog G 92 e92:=by
 intro args r h hp
 unfold e92 at h
 split at h<;>cases h
 exact(sp92 _ _ _).caps
theorem ct90:CtOk Tryd.prog G 90 e90:=by
 intro args r h hp
 unfold e90 at h
 split at h<;>cases h
 exact(sp90 _ _ _ hp).caps
theorem ct91:CtOk Tryd.prog G 91 e91:=by
 intro args r h hp
 unfold e91 at h
 split at h<;>cases h
 exact(sp91 _ _ _ hp.1 hp.2).caps
theorem cS'ok:CtsOk Tryd.prog G cS':=⟨ct64,ct29,ct92,trivial⟩
theorem cS2ok:CtsOk Tryd.prog G cS2':=⟨ct90,ct91,cS'ok⟩
theorem CS2ok:TabOk Tryd.prog G CS2:=tabL_ok noCh_ok cS2ok
theorem bool_or (b:Bool):b=true∨b=false:=by cases b<;>simp
theorem sp56 (w h i:Int):SpecP Tryd.prog G 56 [.agg [.int .i64 w,.int .i64 h],.int .i64 i] (.tup [.agg [.int .i64 (bI (okI w h i) (qX w i) 0),.int .i64 (bI (okI w h i) (qY w i) 0),.int .u8 (bI (okI w h i) (qQ i) 0)],.int .i64 (ceE w h i)]) []:=by
 refine fnP_spec hcm hmx CS2ok ok56 rfl (ob_o56 w h i) ?_
 unfold okI ceE
 rw[bIne]
 rcases bool_or (okS w h)with h1|h1<;>rcases bool_or (hasB w h i)with h2|h2<;>rw[h1,h2]<;>simp[bI]
theorem sp57 (w h x y q:Int)(hs:okS w h=true)(hq:0≤q∧q≤3)(hx:sml2 x)(hy:sml2 y):SpecP Tryd.prog G 57 [.agg [.int .i64 w,.int .i64 h],.agg [.int .i64 x,.int .i64 y,.int .u8 q]] (.tup [.int .i64 (bI (inB w h x y) (4*(y*w+x)+q) 0),.int .i64 (bI (inB w h x y) 0 7)]) []:=by
 refine fnP_spec hcm hmx CS2ok ok57 rfl (ob_o57 w h x y q) ?_
 unfold sml2 at hx hy
 have hc:okCl x y q=true:=okCl_iff.2 ⟨by omega,by omega,by omega,by omega,by omega⟩
 obtain⟨h1,h2,h3,h4,h5⟩:=okS_iff.1 hs
 rw[bIne,bIne,hs,hc]
 simp only[ltb_iff,ltb_no,leb_iff,leb_no,inR_i64,and_true,Bool.not_true,Bool.false_eq_true,false_implies,true_and,true_implies]
 rcases bool_or (inB w h x y)with hb|hb<;>rw[hb]
 ·have hi:=inB_iff.1 hb
  have hm:=mul_le (a:=y) (b:=w) (c:=256) (d:=256) (by omega) (by omega) (by omega) (by omega)
  have hm0:0≤y*w:=Int.mul_nonneg (by omega) (by omega)
  exact⟨by omega,fun _=>⟨by omega,fun _=>⟨by omega,fun _=>⟨by omega,fun _=>⟨by omega,by omega,by omega,by omega,by omega,rfl,rfl⟩⟩⟩⟩⟩
 ·have hi:=inB_no.1 hb
  exact⟨fun _=>⟨rfl,rfl⟩,fun a=>⟨fun _=>⟨rfl,rfl⟩,fun b=>⟨fun _=>⟨rfl,rfl⟩,fun c=>⟨fun _=>⟨rfl,rfl⟩,fun d=>absurd ⟨by omega,by omega,by omega,by omega⟩ hi⟩⟩⟩⟩
theorem sp96 (x y q e:Int)(hx: -900≤x∧x≤900)(hy: -900≤y∧y≤900)(hq:0≤q∧q≤3)(he:0≤e):SpecP Tryd.prog G 96 [.agg [.int .i64 x,.int .i64 y,.int .u8 q],.int .u8 e] (.tup [.agg [.int .i64 (bI (decide (e≤2)) (nbX x q e) 0),.int .i64 (bI (decide (e≤2)) (nbY y q e) 0),.int .u8 (bI (decide (e≤2)) (nbQ q e) 0)],.int .i64 (bI (decide (e≤2)) 0 1)]) []:=by
 refine fnP_spec hcm hmx CS2ok ok96 rfl (ob_o96 x y q e) ?_
 dsimp -failIfUnchanged -proj -eta -iota -zeta only[rd,rdw,qs,ql,qx]
 have hc:okCl x y q=true:=okCl_iff.2 ⟨by omega,by omega,by omega,by omega,by omega⟩
 rw[bIne,bIne,hc]
 simp only[Bool.not_true,Bool.false_eq_true,false_implies,true_and,true_implies]
 by_cases h2:e≤2
 ·have hn:=nbQ_ok hq ⟨he,h2⟩
  have hx':=nbXY_ok x q e
  have hy':=nbXY_ok y q e
  rw[decide_eq_true h2,hx'.2.2.1,hy'.2.2.2]
  have hc2:okCl (nbX x q e) (nbY y q e) (nbQ q e)=true:=okCl_iff.2 ⟨by omega,by omega,by omega,by omega,by omega⟩
  rw[hc2]
  refine⟨fun h=>by simp at h;omega,fun _=>⟨by simp;omega,by simp;omega,by simp;omega,by simp;omega,?_,?_,?_,by simp;omega,by simp;omega,⟨fun h=>by simp at h,fun _=>⟨rfl,rfl,rfl,rfl,trivial⟩⟩⟩⟩
  all_goals
   obtain rfl|rfl|rfl|rfl:q=0∨q=1∨q=2∨q=3:=by omega
   all_goals
    obtain rfl|rfl|rfl:e=0∨e=1∨e=2:=by omega
    all_goals rfl
 ·rw[decide_eq_false h2]
  exact⟨fun _=>⟨rfl,rfl,rfl,rfl,trivial⟩,fun h=>by simp at h;omega⟩
theorem ct56:CtOk Tryd.prog G 56 e56:=by
 intro args r h hp
 unfold e56 at h
 split at h<;>cases h
 exact(sp56 _ _ _).caps
theorem ct57:CtOk Tryd.prog G 57 e57:=by
 intro args r h hp
 unfold e57 at h
 split at h<;>cases h
 obtain⟨h1,h2,h3,h4,h5⟩:=hp
 exact(sp57 _ _ _ _ _ h1 ⟨h2,h3⟩ h4 h5).caps
theorem ct96:CtOk Tryd.prog G 96 e96:=by
 intro args r h hp
 unfold e96 at h
 split at h<;>cases h
 obtain⟨h1,h2,h3,h4,h5,h6,h7⟩:=hp
 exact(sp96 _ _ _ _ ⟨h1,h2⟩ ⟨h3,h4⟩ ⟨h5,h6⟩ h7).caps
theorem cS3ok:CtsOk Tryd.prog G cS3':=⟨ct56,ct57,ct96,cS2ok⟩
theorem CS3ok:TabOk Tryd.prog G CS3:=tabL_ok noCh_ok cS3ok
/-- Neighbours' ids. -/
theorem nbI_ok {w h i e:Int}(hs:okS w h=true)(hb:hasB w h i=true)(he:0≤e∧e≤2):(nbI w h i e= -1∨(0≤nbI w h i e∧nbI w h i e<4*w*h))∧
  (inB w h (nbX (qX w i) (qQ i) e) (nbY (qY w i) (qQ i) e)=leb 0 (nbI w h i e)):=by
 obtain⟨⟨a1,a2⟩,⟨a3,a4⟩,⟨a5,a6⟩,a7,a8,a9,a10,a11⟩:=cell_ok hs hb
 obtain⟨h1,h2,h3,h4,h5⟩:=okS_iff.1 hs
 have hn:=nbQ_ok ⟨a5,a6⟩ he
 unfold nbI
 rcases bool_or (inB w h (nbX (qX w i) (qQ i) e) (nbY (qY w i) (qQ i) e))with h0|h0<;>rw[h0]
 ·have hi:=inB_iff.1 h0
  generalize nbX (qX w i) (qQ i) e=X at*
  generalize nbY (qY w i) (qQ i) e=Y at*
  have m0:0≤Y*w:=Int.mul_nonneg (by omega) (by omega)
  have m1:=mul_le (a:=Y+1) (b:=w) (c:=h) (d:=w) (by omega) (by omega) (by omega) (by omega)
  have e4:4*w*h=4*(w*h):=Int.mul_assoc _ _ _
  have e5:h*w=w*h:=Int.mul_comm _ _
  have e6:(Y+1)*w=Y*w+w:=by rw[Int.add_mul,Int.one_mul]
  simp only[cond_true]
  refine⟨.inr ⟨by omega,by omega⟩,?_⟩
  symm;rw[leb_iff];omega
 ·exact⟨.inl rfl,rfl⟩
theorem sp70 (w h i e:Int)(he:0≤e):SpecP Tryd.prog G 70 [.agg [.int .i64 w,.int .i64 h],.int .i64 i,.int .u8 e] (.tup [.int .i64 (bI (okN w h i e) (nbI w h i e) 0),.int .i64 (neE w h i e)]) []:=by
 refine fnP_spec hcm hmx CS3ok ok70 rfl (ob_o70 w h i e) ?_
 dsimp -failIfUnchanged -proj -eta -iota -zeta only[rd,rdw,qs,ql,qx]
 rcases bool_or (okS w h)with h1|h1
 ·rcases bool_or (hasB w h i)with h2|h2
  ·have hI:okI w h i=true:=by simp[okI,h1,h2]
   have hE:ceE w h i=0:=by simp[ceE,h1,h2,bI]
   have hN:okN w h i e=(decide (e≤2)&&leb 0 (nbI w h i e)):=by simp[okN,hI]
   have hM:neE w h i e=cond (decide (e≤2)) (bI (leb 0 (nbI w h i e)) 0 7) 1:=by simp[neE,hI]
   obtain⟨⟨a1,a2⟩,⟨a3,a4⟩,⟨a5,a6⟩,a7,a8,a9,a10,a11⟩:=cell_ok h1 h2
   obtain⟨b1,b2,b3,b4,b5⟩:=okS_iff.1 h1
   rw[hN,hM,hE,hI,bIne]
   simp only[bI,cond_true]
   refine⟨fun h=>by simp at h,fun _=>⟨by omega,fun hz=>?_,fun hz=>?_⟩⟩
   ·have:decide (e≤2)=false:=by simpa using hz
    rw[this];exact⟨rfl,rfl,trivial⟩
   ·have hd:decide (e≤2)=true:=by simpa using hz
    have h2':e≤2:=by simpa using hd
    have hn:=nbQ_ok (q:=qQ i) ⟨a5,a6⟩ ⟨he,h2'⟩
    have hx:=nbXY_ok (qX w i) (qQ i) e
    have hy:=nbXY_ok (qY w i) (qQ i) e
    have hb:=(nbI_ok h1 h2 ⟨he,h2'⟩).2
    rw[hd]
    simp only[cond_true,Bool.true_and]
    refine⟨⟨h1,hn.1,hn.2,⟨by omega,by omega⟩,by omega,by omega⟩,?_⟩
    rw[← hb]
    have hI':nbI w h i e=cond (inB w h (nbX (qX w i) (qQ i) e) (nbY (qY w i) (qQ i) e)) (4*(nbY (qY w i) (qQ i) e*w+nbX (qX w i) (qQ i) e)+nbQ (qQ i) e) (-1):=rfl
    rw[hI']
    cases inB w h (nbX (qX w i) (qQ i) e) (nbY (qY w i) (qQ i) e)<;>exact⟨rfl,rfl,trivial⟩
  ·have hI:okI w h i=false:=by simp[okI,h2]
   simp[okN,neE,hI,ceE,h1,h2,bI]
 ·have hI:okI w h i=false:=by simp[okI,h1]
  simp[okN,neE,hI,ceE,h1,bI]
theorem ct70:CtOk Tryd.prog G 70 e70:=by
 intro args r h hp
 unfold e70 at h
 split at h<;>cases h
 exact(sp70 _ _ _ _ hp).caps
theorem cS4ok:CtsOk Tryd.prog G cS4':=⟨ct70,cS3ok⟩
theorem CS4ok:TabOk Tryd.prog G CS4:=tabL_ok noCh_ok cS4ok
theorem neE_ok {w h i e:Int}:okN w h i e=true↔neE w h i e=0:=by
 unfold okN neE okI ceE
 cases okS w h<;>cases hasB w h i<;>cases decide (e≤2)<;>cases leb 0 (nbI w h i e)<;>simp[bI]
theorem sp58 (w h i e:Int)(he:0≤e):SpecP Tryd.prog G 58 [.agg [.int .i64 w,.int .i64 h],.int .i64 i,.int .u8 e] (.tup [.agg [.int .i64 (nmC w h i e),.int .u8 (nmE w h i e)],.int .i64 (neE w h i e)]) []:=by
 refine fnP_spec hcm hmx CS4ok ok58 rfl (ob_o58 w h i e) ?_
 refine⟨he,?_⟩
 unfold nmC nmE
 rcases bool_or (okN w h i e)with h0|h0
 ·have:=neE_ok.1 h0
  rw[h0,this]
  simp[bI]
  omega
 ·have:neE w h i e≠0:=fun e=>by rw[neE_ok.2 e]at h0;cases h0
  rw[h0]
  simp[bI,this]
theorem ct58:CtOk Tryd.prog G 58 e58:=by
 intro args r h hp
 unfold e58 at h
 split at h<;>cases h
 exact(sp58 _ _ _ _ hp).caps
theorem sp54 (w h x y q:Int)(hs:okS w h=true)(hq:0≤q∧q≤3)(hx:sml2 x)(hy:sml2 y):SpecP Tryd.prog G 54 [.agg [.int .i64 w,.int .i64 h],.agg [.int .i64 x,.int .i64 y,.int .u8 q]] (.int .i64 (idI w h x y q)) []:=by
 refine fnP_spec hcm hmx CS2ok ok54 rfl (ob_o54 w h x y q) ?_
 unfold sml2 at hx hy
 obtain⟨h1,h2,h3,h4,h5⟩:=okS_iff.1 hs
 simp only[ltb_iff,ltb_no,leb_iff,leb_no,inR_i64,and_true]
 unfold idI
 rcases bool_or (inB w h x y)with hb|hb<;>rw[hb]
 ·have hi:=inB_iff.1 hb
  have hm:=mul_le (a:=w) (b:=y) (c:=256) (d:=256) (by omega) (by omega) (by omega) (by omega)
  have hm0:0≤w*y:=Int.mul_nonneg (by omega) (by omega)
  have e4:4*w*y=4*(w*y):=Int.mul_assoc _ _ _
  exact⟨by omega,fun _=>⟨by omega,fun _=>⟨by omega,fun _=>⟨by omega,fun _=>⟨by omega,fun _=>⟨by omega,by omega,by omega,by omega,by omega,by omega,rfl⟩⟩⟩⟩⟩⟩
 ·have hi:=inB_no.1 hb
  exact⟨fun _=>rfl,fun a=>⟨fun _=>rfl,fun b=>⟨fun _=>rfl,fun c=>⟨fun _=>rfl,fun d=>absurd ⟨by omega,by omega,by omega,by omega⟩ hi⟩⟩⟩⟩
theorem ct54:CtOk Tryd.prog G 54 e54:=by
 intro args r h hp
 unfold e54 at h
 split at h<;>cases h
 obtain⟨h1,h2,h3,h4,h5⟩:=hp
 exact(sp54 _ _ _ _ _ h1 ⟨h2,h3⟩ h4 h5).caps
theorem cNok:CtsOk Tryd.prog G cN':=⟨ct55,ct54,trivial⟩
theorem CNok:TabOk Tryd.prog G CN:=tabL_ok noCh_ok cNok
theorem okS_of {w h:Int}(hs:s5 w h):okS w h=true:=by
 obtain⟨h1,h2,h3,h4⟩:=hs
 have:=mul_le (a:=w) (b:=h) (c:=5) (d:=5) (by omega) (by omega) (by omega) (by omega)
 exact okS_iff.2 ⟨by omega,by omega,by omega,by omega,by omega⟩
theorem sp21 (w h i e:Int)(hs:s5 w h)(h0:0≤i)(hi:i<4*w*h)(he:0≤e∧e≤2):SpecP Tryd.prog G 21 [.agg [.int .i64 w,.int .i64 h],.int .i64 i,.int .i64 e] (.int .i64 (nbI w h i e)) []:=by
 refine fnP_spec hcm hmx CNok ok21 rfl (ob_o21 w h i e) ?_
 have hS:=okS_of hs
 have hB:hasB w h i=true:=hasB_iff.2 ⟨h0,hi⟩
 obtain⟨⟨a1,a2⟩,⟨a3,a4⟩,⟨a5,a6⟩,a7,a8,a9,a10,a11⟩:=cell_ok hS hB
 obtain⟨b1,b2,b3,b4⟩:=hs
 have e1:Int.tdiv i (4*w)=qY w i:=by
  unfold qY
  rw[Int.tdiv_eq_ediv_of_nonneg h0,a8,Int.tdiv_eq_ediv_of_nonneg (by omega),Int.ediv_ediv_of_nonneg (by omega)]
 have e2:Int.tmod (Int.tdiv i 4) w=qX w i:=rfl
 have e3:Int.tmod i 4=qQ i:=rfl
 have hn:=nbQ_ok (q:=qQ i) ⟨a5,a6⟩ he
 have hx:=nbXY_ok (qX w i) (qQ i) e
 have hy:=nbXY_ok (qY w i) (qQ i) e
 rw[e1,e2,e3]
 simp only[inR_i64,inR_u8,and_true,Bool.not_eq_true',beq_eq_false_iff_ne,ne_eq]
 refine⟨by omega,by omega,by omega,by omega,by omega,by omega,by omega,⟨hS,by omega,by omega,by omega,by omega⟩,?_⟩
 unfold idI nbI
 cases inB w h (nbX (qX w i) (qQ i) e) (nbY (qY w i) (qQ i) e)with
 |false=>rfl
 |true=>
  simp only[cond_true]
  generalize nbX (qX w i) (qQ i) e=X
  generalize nbY (qY w i) (qQ i) e=Y
  have:4*w*Y=4*(Y*w):=by rw[Int.mul_assoc,Int.mul_comm w Y]
  omega
theorem ct21:CtOk Tryd.prog G 21 e21:=by
 intro args r h hp
 unfold e21 at h
 split at h<;>cases h
 obtain⟨h1,h2,h3,h4,h5⟩:=hp
 exact(sp21 _ _ _ _ h1 h2 h3 ⟨h4,h5⟩).caps
end Go.Proofs.YtfpcbimohikhmaaDoor.X
