/-
 The move that moves nothing: the contracts.
-/
import Derived.Test.YtmnaghfndigfkaaDoorPCZ
set_option maxRecDepth 1000000
set_option linter.unusedVariables false
set_option linter.unusedSimpArgs false
namespace Go.Proofs.YtmnaghfndigfkaaDoor.X
open Go Go.Ab

theorem and_one (x:Int):bitI .and .i64 x 1=x%2:=by
 have h:(BitVec.ofInt 64 x &&& BitVec.ofInt 64 1).toNat=(x%2).toNat:=by
  rw[BitVec.toNat_and,BitVec.toNat_ofInt,BitVec.toNat_ofInt]
  have e:(1%((2 ^ 64:Nat):Int)).toNat=1:=rfl
  rw[e,Nat.and_one_is_mod]
  omega
 show IntKind.i64.wrap (((BitVec.ofInt 64 x &&& BitVec.ofInt 64 1).toNat:Nat):Int)=_
 rw[h]
 have h2:x%2=0∨x%2=1:=by omega
 rcases h2 with e|e<;>rw[e]<;>rfl
theorem ptB_iff {x y:Int}:ptB x y=true↔ -65536≤x∧x≤65536∧ -65536≤y∧y≤65536:=by unfold ptB;rw[decide_eq_true_iff]
theorem ptB_no {x y:Int}:ptB x y=false↔¬ (-65536≤x∧x≤65536∧ -65536≤y∧y≤65536):=by unfold ptB;rw[decide_eq_false_iff_not]
theorem ct151:CtOk Tryd.prog G 151 e151:=by
 intro args r h hp
 unfold e151 at h
 split at h<;>cases h
 rename_i x y
 refine fnP_spec hcm hmx T0ok ok151 rfl (ob_o151 x y) ?_
 simp only[ltb_iff,ltb_no,and_true]
 have no:¬ (-65536≤x∧x≤65536∧ -65536≤y∧y≤65536)→1=bI (ptB x y) 0 1:=fun h=>by rw[ptB_no.2 h];rfl
 refine⟨fun h=>no (by omega),fun h1=>⟨fun h=>no (by omega),fun h2=>⟨fun h=>no (by omega),fun h3=>⟨fun h=>no (by omega),fun h4=>?_⟩⟩⟩⟩
 rw[ptB_iff.2 (by omega)];rfl
theorem ct165:CtOk Tryd.prog G 165 e165:=by
 intro args r h hp
 unfold e165 at h
 split at h<;>cases h
 obtain⟨s1,s2,s3,s4⟩:=hp
 refine fnP_spec hcm hmx T0ok ok165 rfl (ob_o165 _ _ _) ?_
 simp only[inR_i64,and_true]
 refine⟨?_,?_,?_,?_⟩<;>omega
theorem kA (q:Int)(n:Nat):kAft q n=if q<n then q else 0:=rfl
end Go.Proofs.YtmnaghfndigfkaaDoor.X
