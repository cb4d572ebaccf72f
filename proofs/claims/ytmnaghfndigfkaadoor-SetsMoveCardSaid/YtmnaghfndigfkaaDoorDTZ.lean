/-
 What the reference's outline and connection compute.
-/
import Derived.Test.YtmnaghfndigfkaaDoorDVZ
set_option maxRecDepth 1000000
set_option linter.unusedVariables false
namespace Go.Proofs.YtmnaghfndigfkaaDoor.X
open Go Go.Ab

/-! ### Connection, by marking again and again -/
structure L46 where (m : Bool) (o : List AV) (n : Nat)
structure M46 where (i : Int) (m : Bool) (o : List AV) (n : Nat)
end Go.Proofs.YtmnaghfndigfkaaDoor.X
