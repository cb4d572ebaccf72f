/-
 What Connected computes.
-/
import Derived.Test.YtmnaghfndigfkaaDoorDHZ
set_option maxRecDepth 1000000
set_option linter.unusedVariables false
namespace Go.Proofs.YtmnaghfndigfkaaDoor.X
open Go Go.Ab

structure L42 where (es : ME) (k : Nat) (o : List AV) (n w : Nat)
structure M42 where (e : Int) (es : ME) (k : Nat) (o : List AV) (n w : Nat)
end Go.Proofs.YtmnaghfndigfkaaDoor.X
