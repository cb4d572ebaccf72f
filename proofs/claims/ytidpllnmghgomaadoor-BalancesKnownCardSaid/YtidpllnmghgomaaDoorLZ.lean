/-
  The chapter's examples hold (the function is run by the kernel).
-/
import Derived.Test.YtidpllnmghgomaaDoorKZ
set_option maxRecDepth 1000000
namespace Go.Proofs.YtidpllnmghgomaaDoor.X
open Go Go.Ab
theorem ev14 : evM G (aget xpl) nats (memoT (memF mems)) 100000 1000 1 [] (.fn 14 [] []) [] = some ⟨.bool true, [], [], []⟩ := by kernel_rfl
theorem sp14 : SpecP Tryd.prog G 14 [] (.bool true) [] := specP_of_evM hcm hmx xpOk natsOk meOk ev14 rfl
end Go.Proofs.YtidpllnmghgomaaDoor.X
