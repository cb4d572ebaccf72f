/-
 Cones: the laws of valid orders and of errors.
-/
import Derived.Test.YthiammkiobbclaaGreatDoorO12Z
import Derived.Test.YthiammkiobbclaaGreatDoorC11Z
import Derived.Test.YthiammkiobbclaaGreatDoorTVZ
set_option maxRecDepth 1000000
set_option linter.unusedVariables false
set_option linter.unusedSimpArgs false
namespace Go.Proofs.YthiammkiobbclaaGreatDoor.X
open Go Go.Ab

/-! ### Orders as plain data -/
/-! ### Valid orders -/
theorem ofE_14 {a k:List Int}(hc:chk a k=0)(h:altS a k=false):ofE a k=14:=by
 unfold ofE
 rw[if_pos hc,if_neg]
 intro hb
 rw[altS_iff.2 ⟨hc,hb⟩]at h;cases h
theorem lst_no {a k o:List Int}(h:ofE a k≠0):lstE a k o=ofE a k:=by unfold lstE;rw[if_neg h]
theorem vld_no {a k o:List Int}(h:lstE a k o≠0):vldE a k o=lstE a k o:=by unfold vldE;rw[if_neg h]
end Go.Proofs.YthiammkiobbclaaGreatDoor.X
