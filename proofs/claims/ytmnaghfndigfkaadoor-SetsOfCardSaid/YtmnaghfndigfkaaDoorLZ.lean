/-
 The chapters' examples hold (the functions are run by the kernel).
-/
import Derived.Test.YtmnaghfndigfkaaDoorLMZ
set_option maxRecDepth 1000000
set_option linter.unusedVariables false
namespace Go.Proofs.YtmnaghfndigfkaaDoor.X
open Go Go.Ab
theorem ev37 : evM G (aget xpl) (fun _ _ => none) (memoT (memF mems)) 100000 1000 1 [] (.fn 37 [] []) [] = some ⟨.bool true, [], [], []⟩ := by kernel_rfl
theorem sp37 : SpecP Tryd.prog G 37 [] (.bool true) [] := specP_of_evM hcm hmx xpOk natNo meOk ev37 rfl
def e37 : CtE
 | [] => some ⟨.bool true, [], none⟩
 | _ => none
theorem ct37 : CtOk Tryd.prog G 37 e37 := by
 intro args r h hp
 unfold e37 at h
 split at h <;> cases h
 exact sp37
end Go.Proofs.YtmnaghfndigfkaaDoor.X
