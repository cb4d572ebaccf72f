/-
 Two stamps have two ways (run by the kernel).
-/
import Derived.Test.YthiammkiobbclaaLEZ
set_option maxRecDepth 1000000
set_option linter.unusedVariables false
namespace Go.Proofs.Ythiammkiobbclaa.X
open Go Go.Ab

def eTrue:CtE
 |[]=>some ⟨.bool true,[],none⟩
 |_=>none
theorem ev8:evM G (aget xpl) nats meI 100000 1000 1 [] (.fn 8 [] []) []=some ⟨.bool true,[],[],[]⟩:=by kernel_rfl
theorem sp8:SpecP Try.prog G 8 [] (.bool true) []:=specP_of_evM hcm hmx xpOk natsOk meIok ev8 rfl
theorem ct8:CtOk Try.prog G 8 eTrue:=by
 intro args r h hp
 unfold eTrue at h
 split at h<;>cases h
 exact sp8
end Go.Proofs.Ythiammkiobbclaa.X
