/-
 The contracts of the functions on lines and cells: normals, distances, corners, mirror images, lines of edges.
-/
import Derived.Test.YtfpcbimohikhmaaDoorQO1Z
set_option maxRecDepth 1000000
set_option linter.unusedVariables false
set_option linter.unusedSimpArgs false
namespace Go.Proofs.YtfpcbimohikhmaaDoor.X
open Go Go.Ab

theorem ac_ok (k:Int):(acA k=1∧acB k=0)∨(acA k=0∧acB k=1)∨(acA k=1∧acB k=1)∨(acA k= -1∧acB k=1):=by
 unfold acA acB
 by_cases h1:k=1
 ·simp[h1]
 ·by_cases h2:k=2
  ·simp[h2]
  ·by_cases h3:k=3
   ·simp[h3]
   ·simp[h1,h2,h3]
theorem hg_ok (q:Int):(hQ q=0∨hQ q=2)∧(gQ q=0∨gQ q=2):=by
 unfold hQ gQ
 constructor<;>split<;>simp
theorem td2 (n:Int):(0≤n→n.tdiv 2=n/2)∧(n≤0→n.tdiv 2= -(-n/2)):=by
 refine⟨fun h=>Int.tdiv_eq_ediv_of_nonneg h,fun h=>?_⟩
 have:n= -(-n):=by omega
 rw[this,Int.neg_tdiv,Int.tdiv_eq_ediv_of_nonneg (by omega)]
 simp

theorem sp77 (k:Int):SpecP Tryd.prog G 77 [.int .u8 k] (.tup [.int .i64 (acA k),.int .i64 (acB k)]) []:=by
 refine fnP_spec hcm hmx T0ok ok77 rfl (ob_o77 k) ?_
 simp only[beq_iff_eq,beq_eq_false_iff_ne,and_true]
 unfold acA acB
 refine⟨fun h=>by simp[h],fun h1=>⟨fun h=>by simp[h],fun h2=>⟨fun h=>by simp[h],fun h3=>by simp[h1,h2,h3]⟩⟩⟩
theorem ct77:CtOk Tryd.prog G 77 e77:=by
 intro args r h hp
 unfold e77 at h
 split at h<;>cases h
 exact(sp77 _).caps
theorem cAok:CtsOk Tryd.prog G cA':=⟨ct77,trivial⟩
theorem CAok:TabOk Tryd.prog G CA:=tabL_ok noCh_ok cAok
theorem sp102 (k c x y:Int)(hc:sml c)(hx:sml x)(hy:sml y):SpecP Tryd.prog G 102 [.agg [.int .u8 k,.int .i64 c],.agg [.int .i64 x,.int .i64 y]] (.int .i64 (farI k c x y)) []:=by
 refine fnP_spec hcm hmx CAok ok102 rfl (ob_o102 k c x y) ?_
 unfold sml at hc hx hy
 unfold farI
 simp only[inR_i64,and_true]
 rcases ac_ok k with⟨h1,h2⟩|⟨h1,h2⟩|⟨h1,h2⟩|⟨h1,h2⟩<;>rw[h1,h2]<;>omega
theorem ct102:CtOk Tryd.prog G 102 e102:=by
 intro args r h hp
 unfold e102 at h
 split at h<;>cases h
 obtain⟨h1,h2,h3⟩:=hp
 exact(sp102 _ _ _ _ h1 h2 h3).caps
theorem sp76 (x y q:Int)(hx:sml x)(hy:sml y)(h0:0≤q)(h3:q≤3):SpecP Tryd.prog G 76 [.agg [.int .i64 x,.int .i64 y,.int .u8 q]] (.agg (corV x y q)) []:=by
 unfold sml at hx hy
 obtain rfl|rfl|rfl|rfl:q=0∨q=1∨q=2∨q=3:=by omega
 ·refine fnP_spec hcm hmx T0ok ok76 rfl (ob_o76a x y) ?_
  simp;omega
 ·refine fnP_spec hcm hmx T0ok ok76 rfl (ob_o76b x y) ?_
  simp;omega
 ·refine fnP_spec hcm hmx T0ok ok76 rfl (ob_o76c x y) ?_
  simp;omega
 ·refine fnP_spec hcm hmx T0ok ok76 rfl (ob_o76d x y) ?_
  simp;omega
theorem ct76:CtOk Tryd.prog G 76 e76:=by
 intro args r h hp
 unfold e76 at h
 split at h<;>cases h
 obtain⟨h1,h2,h3,h4⟩:=hp
 exact(sp76 _ _ _ h1 h2 h3 h4).caps
theorem cBok:CtsOk Tryd.prog G cB':=⟨ct102,ct76,cAok⟩
theorem CBok:TabOk Tryd.prog G CB:=tabL_ok noCh_ok cBok
theorem rfD_ok (k c x y:Int)(hc:sml c)(hx:sml x)(hy:sml y): -8000000≤rfD k c x y∧rfD k c x y≤8000000:=by
 unfold sml at hc hx hy
 unfold rfD farI
 rcases ac_ok k with⟨h1,h2⟩|⟨h1,h2⟩|⟨h1,h2⟩|⟨h1,h2⟩<;>rw[h1,h2]
 ·rw[show((1:Int)*1+0*0)=1 from rfl,Int.tdiv_one];omega
 ·rw[show((0:Int)*0+1*1)=1 from rfl,Int.tdiv_one];omega
 ·rw[show((1:Int)*1+1*1)=2 from rfl]
  have:=td2 (2*(1*x+1*y-2*c));omega
 ·rw[show((-1:Int)* -1+1*1)=2 from rfl]
  have:=td2 (2*(-1*x+1*y-2*c));omega
theorem sp88 (k c x y:Int)(hc:sml c)(hx:sml x)(hy:sml y):SpecP Tryd.prog G 88 [.agg [.int .u8 k,.int .i64 c],.agg [.int .i64 x,.int .i64 y]] (.agg [.int .i64 (x-rfD k c x y*acA k),.int .i64 (y-rfD k c x y*acB k)]) []:=by
 refine fnP_spec hcm hmx CBok ok88 rfl (ob_o88 k c x y) ?_
 have hd:=rfD_ok k c x y hc hx hy
 have he:Int.tdiv (2*farI k c x y) (acA k*acA k+acB k*acB k)=rfD k c x y:=rfl
 rw[he]
 generalize rfD k c x y=d at*
 unfold sml at hc hx hy
 have hf:farI k c x y=acA k*x+acB k*y-2*c:=rfl
 rw[hf]
 simp only[inR_i64,and_true]
 rcases ac_ok k with⟨h1,h2⟩|⟨h1,h2⟩|⟨h1,h2⟩|⟨h1,h2⟩<;>rw[h1,h2]<;>simp<;>omega
theorem ct88:CtOk Tryd.prog G 88 e88:=by
 intro args r h hp
 unfold e88 at h
 split at h<;>cases h
 obtain⟨h1,h2,h3⟩:=hp
 exact(sp88 _ _ _ _ h1 h2 h3).caps

theorem on_iff (a b c d k:Int):onB a b c d k=true↔acA k*a+acB k*b=acA k*c+acB k*d:=by unfold onB;simp
theorem ln_step {a b c d:Int}{n:Nat}:(acA ((n+1:Nat):Int)*a+acB ((n+1:Nat):Int)*b=acA ((n+1:Nat):Int)*c+acB ((n+1:Nat):Int)*d→lnK a b c d (n+1)=((n+1:Nat):Int)∧lnC a b c d (n+1)=(acA ((n+1:Nat):Int)*a+acB ((n+1:Nat):Int)*b).tdiv 2)∧
  (¬ acA ((n+1:Nat):Int)*a+acB ((n+1:Nat):Int)*b=acA ((n+1:Nat):Int)*c+acB ((n+1:Nat):Int)*d→lnK a b c d (n+1)=lnK a b c d n∧lnC a b c d (n+1)=lnC a b c d n):=by
 refine⟨fun h=>?_,fun h=>?_⟩
 ·have:=(on_iff a b c d ((n+1:Nat):Int)).2 h
  simp only[lnK,lnC,this,cond_true,and_self]
 ·have:onB a b c d ((n+1:Nat):Int)=false:=by
   cases hh:onB a b c d ((n+1:Nat):Int)with
   |false=>rfl
   |true=>exact absurd ((on_iff _ _ _ _ _).1 hh) h
  simp only[lnK,lnC,this,cond_false,and_self]
/-- The loop of Line, for two corners. -/
theorem line_step {x1 y1 x2 y2 o c:Int}{n:Nat}(hn:n≤4)(h1: -300000≤x1∧x1≤300000)(h2: -300000≤y1∧y1≤300000)(h3: -300000≤x2∧x2≤300000)(h4: -300000≤y2∧y2≤300000)(k:Int):
  (-600000≤acA k*x1∧acA k*x1≤600000)∧(-600000≤acB k*y1∧acB k*y1≤600000)∧(-600000≤acA k*x2∧acA k*x2≤600000)∧(-600000≤acB k*y2∧acB k*y2≤600000):=by
 rcases ac_ok k with⟨e1,e2⟩|⟨e1,e2⟩|⟨e1,e2⟩|⟨e1,e2⟩<;>rw[e1,e2]<;>omega
theorem e3 {e:Int}(h0:0≤e)(h2:e≤2):e=0∨e=1∨e=2:=by omega
theorem sp42 (x y q e:Int)(hx: -100000≤x∧x≤100000)(hy: -100000≤y∧y≤100000)(hq0:0≤q)(hq3:q≤3)(he0:0≤e)(he2:e≤2):SpecP Tryd.prog G 42 [.agg [.int .i64 x,.int .i64 y,.int .u8 q],.int .i64 e] (.agg [.int .u8 (liK x y q e),.int .i64 (liC x y q e)]) []:=by
 have hg:=hg_ok q
 rcases e3 he0 he2 with rfl|rfl|rfl
 ·refine fnP_spec hcm hmx CBok ok42 rfl (ob_o42a x y q) ?_
  simp only[ltb_iff,ltb_no,leb_iff,leb_no,inR_i64,inR_u8,and_true,true_and,beq_iff_eq,beq_eq_false_iff_ne,ne_eq]
  refine⟨by omega,⟨0,rfl,by omega,rfl,rfl⟩,?_⟩
  rintro⟨k,o,c⟩ ⟨n,rfl,hn,ho,hc⟩
  simp only at ho hc ⊢
  have hb:=line_step (x1:=2*x+hQ q) (y1:=2*y+hQ q) (x2:=2*x+gQ q) (y2:=2*y+(2-gQ q)) (o:=o) (c:=c) hn (by omega) (by omega) (by omega) (by omega) ((n+1:Nat):Int)
  have hs:=ln_step (a:=2*x+hQ q) (b:=2*y+hQ q) (c:=2*x+gQ q) (d:=2*y+(2-gQ q)) (n:=n)
  have ht:=td2 (acA ((n+1:Nat):Int)*(2*x+hQ q)+acB ((n+1:Nat):Int)*(2*y+hQ q))
  refine⟨fun hlt=>⟨by omega,by omega,by omega,by omega,by omega,by omega,fun h=>?_,fun h=>?_⟩,fun hge=>?_⟩
  ·obtain⟨s1,s2⟩:=hs.1 h
   exact⟨by omega,by omega,by omega,by omega,by omega,⟨n+1,by omega,by omega,s1.symm,s2.symm⟩,by omega⟩
  ·obtain⟨s1,s2⟩:=hs.2 h
   exact⟨by omega,⟨n+1,by omega,by omega,ho.trans s1.symm,hc.trans s2.symm⟩,by omega⟩
  ·have:n=4:=by omega
   subst this
   exact⟨ho,hc⟩
 ·refine fnP_spec hcm hmx CBok ok42 rfl (ob_o42b x y q) ?_
  simp only[ltb_iff,ltb_no,leb_iff,leb_no,inR_i64,inR_u8,and_true,true_and,beq_iff_eq,beq_eq_false_iff_ne,ne_eq]
  refine⟨by omega,⟨0,rfl,by omega,rfl,rfl⟩,?_⟩
  rintro⟨k,o,c⟩ ⟨n,rfl,hn,ho,hc⟩
  simp only at ho hc ⊢
  have hb:=line_step (x1:=2*x+gQ q) (y1:=2*y+(2-gQ q)) (x2:=2*x+1) (y2:=2*y+1) (o:=o) (c:=c) hn (by omega) (by omega) (by omega) (by omega) ((n+1:Nat):Int)
  have hs:=ln_step (a:=2*x+gQ q) (b:=2*y+(2-gQ q)) (c:=2*x+1) (d:=2*y+1) (n:=n)
  have ht:=td2 (acA ((n+1:Nat):Int)*(2*x+gQ q)+acB ((n+1:Nat):Int)*(2*y+(2-gQ q)))
  refine⟨fun hlt=>⟨by omega,by omega,by omega,by omega,by omega,by omega,fun h=>?_,fun h=>?_⟩,fun hge=>?_⟩
  ·obtain⟨s1,s2⟩:=hs.1 h
   exact⟨by omega,by omega,by omega,by omega,by omega,⟨n+1,by omega,by omega,s1.symm,s2.symm⟩,by omega⟩
  ·obtain⟨s1,s2⟩:=hs.2 h
   exact⟨by omega,⟨n+1,by omega,by omega,ho.trans s1.symm,hc.trans s2.symm⟩,by omega⟩
  ·have:n=4:=by omega
   subst this
   exact⟨ho,hc⟩
 ·refine fnP_spec hcm hmx CBok ok42 rfl (ob_o42c x y q) ?_
  simp only[ltb_iff,ltb_no,leb_iff,leb_no,inR_i64,inR_u8,and_true,true_and,beq_iff_eq,beq_eq_false_iff_ne,ne_eq]
  refine⟨by omega,⟨0,rfl,by omega,rfl,rfl⟩,?_⟩
  rintro⟨k,o,c⟩ ⟨n,rfl,hn,ho,hc⟩
  simp only at ho hc ⊢
  have hb:=line_step (x1:=2*x+1) (y1:=2*y+1) (x2:=2*x+hQ q) (y2:=2*y+hQ q) (o:=o) (c:=c) hn (by omega) (by omega) (by omega) (by omega) ((n+1:Nat):Int)
  have hs:=ln_step (a:=2*x+1) (b:=2*y+1) (c:=2*x+hQ q) (d:=2*y+hQ q) (n:=n)
  have ht:=td2 (acA ((n+1:Nat):Int)*(2*x+1)+acB ((n+1:Nat):Int)*(2*y+1))
  refine⟨fun hlt=>⟨by omega,by omega,by omega,by omega,by omega,by omega,fun h=>?_,fun h=>?_⟩,fun hge=>?_⟩
  ·obtain⟨s1,s2⟩:=hs.1 h
   exact⟨by omega,by omega,by omega,by omega,by omega,⟨n+1,by omega,by omega,s1.symm,s2.symm⟩,by omega⟩
  ·obtain⟨s1,s2⟩:=hs.2 h
   exact⟨by omega,⟨n+1,by omega,by omega,ho.trans s1.symm,hc.trans s2.symm⟩,by omega⟩
  ·have:n=4:=by omega
   subst this
   exact⟨ho,hc⟩
theorem ct42:CtOk Tryd.prog G 42 e42:=by
 intro args r h hp
 unfold e42 at h
 split at h<;>cases h
 obtain⟨h1,h2,h3,h4,h5,h6,h7,h8⟩:=hp
 exact(sp42 _ _ _ _ ⟨h1,h2⟩ ⟨h3,h4⟩ h5 h6 h7 h8).caps
end Go.Proofs.YtfpcbimohikhmaaDoor.X
