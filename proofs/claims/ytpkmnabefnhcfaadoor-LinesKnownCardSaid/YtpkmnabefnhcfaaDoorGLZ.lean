/-
  The chapter's examples hold (the function is run by the kernel).
-/
import Derived.Test.YtpkmnabefnhcfaaDoorGDZ
import Derived.Test.YtpkmnabefnhcfaaDoorAb5
import Derived.KernelRfl
set_option maxRecDepth 1000000
namespace Go.Proofs.YtpkmnabefnhcfaaDoor.X
open Go Go.Ab
theorem nat58 : NatOk Tryd.prog (natIdx 58) :=
  natIdx_ok Tryd.func58 (by kernel_rfl) (by kernel_rfl) (by kernel_rfl) (by kernel_rfl)
theorem ev16 : evCall G (aget xpl) (natIdx 58) 100000 1000 1 [] (.fn 16 [] []) [] = some ⟨.bool true, [], [], []⟩ := by kernel_rfl
theorem sp16 : SpecP Tryd.prog G 16 [] (.bool true) [] := specP_of_ev hcm hmx xpOk nat58 ev16 rfl
end Go.Proofs.YtpkmnabefnhcfaaDoor.X
