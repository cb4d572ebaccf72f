/-
 Cones, plain: turned, mirrored, turned over, a fan has as many ways.
-/
import Derived.Test.YthiammkiobbclaaGreatDoorP8Z
import Derived.Test.YthiammkiobbclaaGreatDoorD4Z
set_option maxRecDepth 1000000
set_option linter.unusedVariables false
namespace Go.Proofs.YthiammkiobbclaaGreatDoor.X
open Go Go.Ab

/-! ### Alternating -/
/-! ### Kinds that fit -/
def fitZ (k h:List Int):Bool:=(k.zip h).all fun p=>p.1==3||p.1==p.2
theorem fitZ_cons (x y:Int)(k h:List Int):fitZ (x::k) (y::h)=((x==3||x==y)&&fitZ k h):=rfl
theorem fit_get {k h:List Int}:fitB k h=true↔∀i:Nat,i<k.length→gR k i=3∨gR k i=gR h i:=by
 unfold fitB
 rw[beq_iff_eq,anyN_noI]
 refine forall_congr' fun i=>imp_congr_right fun _=>?_
 rw[Bool.and_eq_false_iff]
 simp only[bne_eq_false_iff_eq]
theorem fit_z:∀(k h:List Int),h.length=k.length→fitB k h=fitZ k h
 |[],[],_=>rfl
 |x::k,y::h,hl=>by
  have ih:=fit_z k h (by simpa using hl)
  rw[fitZ_cons,← ih,Bool.eq_iff_iff,Bool.and_eq_true,Bool.or_eq_true,beq_iff_eq,beq_iff_eq,fit_get,fit_get]
  constructor
  ·intro hf
   refine⟨by simpa[gR]using hf 0 (by simp),fun i hi=>?_⟩
   have:=hf (i+1) (by simpa using hi)
   unfold gR at this ⊢
   rw[show((i+1:Nat):Int).toNat=i+1 by omega]at this
   simpa using this
  ·rintro⟨h0,hf⟩ i hi
   cases i with
   |zero=>simpa[gR]using h0
   |succ i=>
    have:=hf i (by simpa using hi)
    unfold gR at this ⊢
    rw[show((i+1:Nat):Int).toNat=i+1 by omega]
    simpa using this
 |[],y::h,hl=>by simp at hl
 |x::k,[],hl=>by simp at hl
/-! ### The tables -/
end Go.Proofs.YthiammkiobbclaaGreatDoor.X
