/-
 The examples of the chapter on stacks hold (the functions are run by the kernel).
-/
import Derived.Test.YtmnaghfndigfkaaDoorDZ
set_option maxRecDepth 1000000
set_option linter.unusedVariables false
namespace Go.Proofs.YtmnaghfndigfkaaDoor.X
open Go Go.Ab
theorem ev21:evM G (aget xpl) (fun _ _=>none) (fun _ _ _ _=>none) 100000 1000 1 [] (.fn 21 [] []) []=some ⟨.bool true,[],[],[]⟩:=by kernel_rfl
theorem noMe2:TBok Tryd.prog G (fun _ _ _ _=>none):=fun _ _ _ _ _ h=>by cases h
theorem sp21:SpecP Tryd.prog G 21 [] (.bool true) []:=specP_of_evM hcm hmx xpOk natNo noMe2 ev21 rfl
def e21:CtE
 |[]=>some ⟨.bool true,[],none⟩
 |_=>none
theorem ct21:CtOk Tryd.prog G 21 e21:=by
 intro args r h hp
 unfold e21 at h
 split at h<;>cases h
 exact sp21
end Go.Proofs.YtmnaghfndigfkaaDoor.X
