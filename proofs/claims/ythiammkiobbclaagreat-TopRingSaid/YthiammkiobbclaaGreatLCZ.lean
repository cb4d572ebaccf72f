/-
 Two stamps have two ways (run by the kernel).
-/
import Derived.Test.YthiammkiobbclaaGreatLEZ
import Derived.Test.YthiammkiobbclaaGreatD25Z
set_option maxRecDepth 1000000
set_option linter.unusedVariables false
namespace Go.Proofs.YthiammkiobbclaaGreat.X
open Go Go.Ab

theorem ev6:evM G (aget xpl) nats meI 100000 1000 1 [] (.fn 6 [] []) []=some ⟨.bool true,[],[],[]⟩:=by kernel_rfl
theorem sp6:SpecP Tryz.prog G 6 [] (.bool true) []:=specP_of_evM hcm hmx xpOk natsOk meIok ev6 rfl
theorem ct6:CtOk Tryz.prog G 6 eTrue:=by
 intro args r h hp
 unfold eTrue at h
 split at h<;>cases h
 exact sp6
end Go.Proofs.YthiammkiobbclaaGreat.X
