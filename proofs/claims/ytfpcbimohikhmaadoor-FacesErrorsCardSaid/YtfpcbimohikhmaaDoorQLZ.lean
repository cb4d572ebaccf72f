/-
 The chapter's examples hold (the function is run by the kernel).
-/
import Derived.Test.YtfpcbimohikhmaaDoorQC6Z
import Derived.Test.YtfpcbimohikhmaaDoorAb5
import Derived.KernelRfl
set_option maxRecDepth 1000000
set_option linter.unusedVariables false
namespace Go.Proofs.YtfpcbimohikhmaaDoor.X
open Go Go.Ab
theorem nil_cells {w:World}{F:Nat→Prop}{a b:AV}:∀{xs:List Value},RelIs w F [a,b,.nils] xs→RelIs w F [a,b,.imm (.vals []) 0 (some 0)] xs
 |_,.cons _ _ _ _ h1 (.cons _ _ _ _ h2 (.cons _ _ _ _ h3 h4))=>.cons _ _ _ _ h1 (.cons _ _ _ _ h2 (.cons _ _ _ _ (RelI.nil_imm rfl h3) h4))
theorem nil_args {w:World}{F:Nat→Prop}{a b:AV}{l:List AV}:∀{xs:List Value},RelIs w F (.agg [a,b,.nils]::l) xs→RelIs w F (.agg [a,b,.imm (.vals []) 0 (some 0)]::l) xs
 |_,.cons _ _ _ _ (.agg _ x h) h2=>.cons _ _ _ _ (.agg _ x (nil_cells h)) h2
theorem natNo:NatOk Tryd.prog (fun _ _=>none):=fun _ _ _ h=>by cases h
end Go.Proofs.YtfpcbimohikhmaaDoor.X
