/-
 The contracts of the functions on cells and lists of cells.
-/
import Derived.Test.YtmnaghfndigfkaaDoorOAZ
set_option maxRecDepth 1000000
set_option linter.unusedVariables false
set_option linter.unusedSimpArgs false
namespace Go.Proofs.YtmnaghfndigfkaaDoor.X
open Go Go.Ab

theorem ltC_iff {a b:Cl}:ltC a b=true↔a.2.1<b.2.1∨(a.2.1=b.2.1∧(a.1<b.1∨(a.1=b.1∧a.2.2<b.2.2))):=by unfold ltC;rw[decide_eq_true_iff]
theorem ltC_no {a b:Cl}:ltC a b=false↔¬ (a.2.1<b.2.1∨(a.2.1=b.2.1∧(a.1<b.1∨(a.1=b.1∧a.2.2<b.2.2)))):=by unfold ltC;rw[decide_eq_false_iff_not]
/-! ### Cells -/
theorem vldC_iff {c:Cl}:vldC c=true↔ -4096≤c.1∧c.1≤4096∧ -4096≤c.2.1∧c.2.1≤4096∧c.2.2≤3:=by unfold vldC;rw[decide_eq_true_iff]
theorem vldC_no {c:Cl}:vldC c=false↔¬ (-4096≤c.1∧c.1≤4096∧ -4096≤c.2.1∧c.2.1≤4096∧c.2.2≤3):=by unfold vldC;rw[decide_eq_false_iff_not]
theorem ct86:CtOk Tryd.prog G 86 e86:=by
 intro args r h hp
 unfold e86 at h
 split at h<;>cases h
 rename_i x y q
 refine fnP_spec hcm hmx T0ok ok86 rfl (ob_o86 _ _ _) ?_
 have yes:∀{n:Int},vldC (x,y,q)=true→n=0→n=bI (vldC (x,y,q)) 0 1:=fun h e=>by rw[h,e];rfl
 have no:∀{n:Int},vldC (x,y,q)=false→n=1→n=bI (vldC (x,y,q)) 0 1:=fun h e=>by rw[h,e];rfl
 simp only[ltb_iff,ltb_no,and_true]
 refine⟨fun h=>no (vldC_no.2 ?_) rfl,fun h=>⟨fun h2=>no (vldC_no.2 ?_) rfl,fun h2=>⟨fun h3=>no (vldC_no.2 ?_) rfl,fun h3=>⟨fun h4=>no (vldC_no.2 ?_) rfl,fun h4=>⟨fun h5=>no (vldC_no.2 ?_) rfl,fun h5=>yes (vldC_iff.2 ?_) rfl⟩⟩⟩⟩⟩<;>
  (simp only;omega)
theorem ct202:CtOk Tryd.prog G 202 e202:=by
 intro args r h hp
 unfold e202 at h
 split at h<;>cases h
 refine fnP_spec hcm hmx T0ok ok202 rfl (ob_o202 _) ?_
 simp
theorem TB1ok:TabOk Tryd.prog G TB1:=tabL_ok noCh_ok ⟨ct202,trivial⟩
theorem cmp_ob (x y:Int):(ltb x y=true→ -1=cmpI x y∧True)∧(ltb x y=false→(ltb y x=true→1=cmpI x y∧True)∧(ltb y x=false→0=cmpI x y∧True)):=by
 unfold cmpI
 simp only[ltb_iff,ltb_no,and_true]
 refine⟨fun h=>by rw[if_pos h],fun h=>⟨fun h2=>by rw[if_neg (by omega),if_pos h2],fun h2=>by rw[if_neg (by omega),if_neg (by omega)]⟩⟩
theorem ct163:CtOk Tryd.prog G 163 e163:=by
 intro args r h hp
 unfold e163 at h
 split at h<;>cases h
 exact fnP_spec hcm hmx TB1ok ok163 rfl (ob_o163 _ _) (cmp_ob _ _)
theorem TB2ok:TabOk Tryd.prog G TB2:=tabL_ok noCh_ok ⟨ct163,ct202,trivial⟩
theorem ord_ob (a b c d e f:Int):(Cont.vals [AV.int IntKind.i64 a,AV.int IntKind.i64 b,AV.int IntKind.i64 c,AV.int IntKind.i64 d,AV.int IntKind.i64 e,AV.int IntKind.i64 f]=Cont.vals [AV.int IntKind.i64 a,AV.int IntKind.i64 b,
AV.int IntKind.i64 c,AV.int IntKind.i64 d,AV.int IntKind.i64 e,AV.int IntKind.i64 f]∧3=3∧iI 3=3∧iI 0=0∧((iI 0≤iI 0∧iI 0≤iI 3)∧(iI 1≤iI 0→cmpI a b=0)∧(iI 2≤iI 0→
cmpI c d=0)∧(iI 3≤iI 0→cmpI e f=0))∧∀(b_1:L1),(0≤b_1.i∧b_1.i≤3)∧(1≤b_1.i→cmpI a b=0)∧(2≤b_1.i→cmpI c d=0)∧(3≤b_1.i→cmpI e f=0)→(ltb b_1.i 3=true→leb
0 b_1.i=true∧ltb b_1.i 3=true∧(List.drop (Int.toNat b_1.i*2) [AV.int IntKind.i64 a,AV.int IntKind.i64 b,AV.int IntKind.i64 c,AV.int IntKind.i64 d,AV.int IntKind.i64 e,AV.int IntKind.i64
f])[0]? =some (AV.int IntKind.i64 (p3 a c e b_1.i))∧(List.drop (Int.toNat b_1.i*2) [AV.int IntKind.i64 a,AV.int IntKind.i64 b,AV.int IntKind.i64 c,AV.int IntKind.i64 d,AV.int IntKind.i64 e,
AV.int IntKind.i64 f])[1]? =some (AV.int IntKind.i64 (p3 b d f b_1.i))∧((cmpI (List.getD [p3 a c e b_1.i,p3 b d f b_1.i] 0 0) (List.getD [p3 a c e b_1.i,p3 b d f b_1.i] 1 0) !=0)=true→cmpI
(List.getD [p3 a c e b_1.i,p3 b d f b_1.i] 0 0) (List.getD [p3 a c e b_1.i,p3 b d f b_1.i] 1 0)=ord3 a b c d e f∧True)∧((cmpI (List.getD [p3 a c e b_1.i,p3 b d f b_1.i] 0 0) (List.getD [p3 a
c e b_1.i,p3 b d f b_1.i] 1 0) !=0)=false→inR IntKind.i64 (b_1.i+1)=true∧Cont.vals [AV.int IntKind.i64 a,AV.int IntKind.i64 b,AV.int IntKind.i64 c,AV.int IntKind.i64 d,AV.int
IntKind.i64 e,AV.int IntKind.i64 f]=Cont.vals [AV.int IntKind.i64 a,AV.int IntKind.i64 b,AV.int IntKind.i64 c,AV.int IntKind.i64 d,AV.int IntKind.i64 e,AV.int IntKind.i64 f]∧3=3∧iI 3=3
∧b_1.i+1=b_1.i+1∧((0≤b_1.i+1∧b_1.i+1≤3)∧(1≤b_1.i+1→cmpI a b=0)∧(2≤b_1.i+1→cmpI c d=0)∧(3≤b_1.i+1→cmpI e f=0))∧3-Int.toNat (b_1.i+1)<3-
Int.toNat b_1.i∧True))∧(ltb b_1.i 3=false→0=ord3 a b c d e f∧True)):=by
 simp only[ltb_iff,ltb_no,leb_iff,inR_i64,and_true,true_and,iI]
 refine⟨⟨by decide,fun h=>by omega,fun h=>by omega,fun h=>by omega⟩,?_⟩
 rintro⟨i⟩ ⟨⟨h0,h3⟩,g1,g2,g3⟩
 simp only at h0 h3 g1 g2 g3 ⊢
 have hd:∀x y:Int,List.getD [x,y] 0 0=x∧List.getD [x,y] 1 0=y:=fun x y=>⟨rfl,rfl⟩
 simp only[(hd _ _).1,(hd _ _).2,bne_iff_ne,ne_eq,bne_eq_false_iff_eq]
 have hi:i=0∨i=1∨i=2∨i=3:=by omega
 rcases hi with rfl|rfl|rfl|rfl
 ·refine⟨fun _=>⟨by decide,by decide,rfl,rfl,fun hne=>?_,fun he=>⟨by decide,⟨by decide,fun _=>he,fun h=>by omega,fun h=>by omega⟩,by decide⟩⟩,fun h=>by omega⟩
  have hne:¬ cmpI a b=0:=hne
  show cmpI a b=_
  unfold ord3;rw[if_pos hne]
 ·have e1:=g1 (by omega)
  refine⟨fun _=>⟨by decide,by decide,rfl,rfl,fun hne=>?_,fun he=>⟨by decide,⟨by decide,fun _=>e1,fun _=>he,fun h=>by omega⟩,by decide⟩⟩,fun h=>by omega⟩
  have hne:¬ cmpI c d=0:=hne
  show cmpI c d=_
  unfold ord3;rw[if_neg (by omega),if_pos hne]
 ·have e1:=g1 (by omega)
  have e2:=g2 (by omega)
  refine⟨fun _=>⟨by decide,by decide,rfl,rfl,fun hne=>?_,fun he=>⟨by decide,⟨by decide,fun _=>e1,fun _=>e2,fun _=>he⟩,by decide⟩⟩,fun h=>by omega⟩
  show cmpI e f=_
  unfold ord3;rw[if_neg (by omega),if_neg (by omega)]
 ·have e1:=g1 (by omega)
  have e2:=g2 (by omega)
  have e3:=g3 (by omega)
  refine⟨fun h=>by omega,fun _=>?_⟩
  unfold ord3;rw[if_neg (by omega),if_neg (by omega),e3]
theorem ct127:CtOk Tryd.prog G 127 e127:=by
 intro args r h hp
 unfold e127 at h
 split at h<;>cases h
 rename_i a b c d e f n _
 subst hp
 exact(fnP_spec hcm hmx TB2ok ok127 rfl (ob_o127 a b c d e f) (ord_ob a b c d e f):SpecP Tryd.prog G 127 _ _ []).caps
theorem TB3ok:TabOk Tryd.prog G TB3:=tabL_ok noCh_ok ⟨ct127,ct163,ct202,trivial⟩
theorem ct79:CtOk Tryd.prog G 79 e79:=by
 intro args r h hp
 unfold e79 at h
 split at h<;>cases h
 refine fnP_spec hcm hmx TB3ok ok79 rfl (ob_o79 _ _ _ _ _ _) ?_
 obtain⟨h0,h1,h2,h3⟩:=hp
 simp only[inR_i64,and_true,true_and]
 exact⟨by omega,by omega,rfl⟩
/-! ### Lists -/
theorem caps2 {f:Nat}{a b v:AV}{bs:List Blk}(h:SpecP Tryd.prog G f [a,capsV b] v bs):SpecP Tryd.prog G f [a,b] v bs:=h.args fun w F xs h=>by
 cases h with
 |cons _ _ _ _ h1 h2=>
  cases h2 with
  |cons _ _ _ _ h3 h4=>exact .cons _ _ _ _ h1 (.cons _ _ _ _ h3.caps h4)
/-! ### Add, Of -/
end Go.Proofs.YtmnaghfndigfkaaDoor.X
