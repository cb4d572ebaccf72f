/-
  The native functions.
-/
import Derived.Test.YtidpllnmghgomaaDoorDZ
import Derived.Test.YtidpllnmghgomaaDoorAb5
import Derived.KernelRfl
set_option maxRecDepth 1000000
namespace Go.Proofs.YtidpllnmghgomaaDoor.X
open Go Go.Ab
theorem nat55 : NatOk Tryd.prog (natIdx 55) :=
  natIdx_ok Tryd.func55 (by kernel_rfl) (by kernel_rfl) (by kernel_rfl) (by kernel_rfl)
theorem nat58 : NatOk Tryd.prog (natCnt 58) :=
  natCnt_ok Tryd.func58 (by kernel_rfl) (by kernel_rfl) (by kernel_rfl) (by kernel_rfl)
def nats : Nat → List AV → Option AV := natOr (natIdx 55) (natCnt 58)
theorem natsOk : NatOk Tryd.prog nats := natOr_ok nat55 nat58
end Go.Proofs.YtidpllnmghgomaaDoor.X
