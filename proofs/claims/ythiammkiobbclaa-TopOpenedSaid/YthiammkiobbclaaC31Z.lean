/-
 Strips: the contracts of what crosses.
-/
import Derived.Test.YthiammkiobbclaaO30Z
import Derived.Test.YthiammkiobbclaaC30Z
set_option maxRecDepth 1000000
set_option linter.unusedVariables false
set_option linter.unusedSimpArgs false
namespace Go.Proofs.Ythiammkiobbclaa.X
open Go Go.Ab

theorem st84:CtOk Try.prog G 84 s84:=by
 intro args r h hp
 unfold s84 at h
 split at h
 ·rename_i x0 x1 x2 x3 x4 x5 x6 x7 tl c x
  cases hM:isZ 24 tl with
  |false=>rw[hM,cond_false]at h;cases h
  |true=>
  rw[hM,cond_true]at h
  cases h
  obtain rfl:=isZ_24 hM
  obtain⟨h0,h1⟩:=hp
  refine(fnP_spec hcm hmx T0ok ok84 rfl (ob_s84 x0 x1 x2 x3 x4 x5 x6 x7 c x) ?_:SpecP Try.prog G 84 _ _ [])
  dsimp -failIfUnchanged -proj -eta -iota -zeta only[rd,rdw,qs,ql,qx]
  have g1:=z32get (x0:=x0) (x1:=x1) (x2:=x2) (x3:=x3) (x4:=x4) (x5:=x5) (x6:=x6) (x7:=x7) h0 (by omega)
  have g2:=z32get (x0:=x0) (x1:=x1) (x2:=x2) (x3:=x3) (x4:=x4) (x5:=x5) (x6:=x6) (x7:=x7) (show 0≤c+1 by omega) (by omega)
  generalize hX:[x0,x1,x2,x3,x4,x5,x6,x7]=X at*
  have d1:(if gR X (c+1)<gR X c then gR X (c+1)else gR X c)=mnI (gR X c) (gR X (c+1)):=rfl
  have d2:(if gR X (c+1)>gR X c then gR X (c+1)else gR X c)=mxI (gR X c) (gR X (c+1)):=rfl
  simp only[g1,g2,d1,d2]
  unfold btS
  generalize mnI (gR X c) (gR X (c+1))=lo
  generalize mxI (gR X c) (gR X (c+1))=hi
  simp only[inR_i64,and_true,true_and,leb_iff,ltb_iff,imp_self,implies_true,eq_self_iff_true]
  cases ltb lo x<;>simp<;>omega
 ·cases h
theorem st85:CtOk Try.prog G 85 s85:=by
 intro args r h hp
 unfold s85 at h
 split at h<;>cases h
 rename_i a n _ k m _ r p _ t b
 obtain⟨rfl,rfl,rfl⟩:=hp
 exact con_caps (fnP_spec hcm hmx T0ok ok85 rfl (ob_s85 a k r t b) (by repeat (first|exact trivial|exact rfl|apply And.intro)))
end Go.Proofs.Ythiammkiobbclaa.X
