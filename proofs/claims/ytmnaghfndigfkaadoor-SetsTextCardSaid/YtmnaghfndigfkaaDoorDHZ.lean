/-
 What neighbours, squares, outlines compute.
-/
import Derived.Test.YtmnaghfndigfkaaDoorDDZ
set_option maxRecDepth 1000000
set_option linter.unusedVariables false
namespace Go.Proofs.YtmnaghfndigfkaaDoor.X
open Go Go.Ab

/-! ### The map of a set -/
abbrev ME : Type := List (List Int × List Int × Nat)
def kyC (c : Cl) : List Int := [c.1, c.2.1, c.2.2]
def memS : List Cl → ME × Nat → ME × Nat
 | [], s => s
 | c :: r, s => memS r (mput s.1 (kyC c) [1] s.2, mck s.1 (kyC c) s.2)
structure L96 where (i : Int) (es : ME) (k : Nat)
def repM (es : ME) (L : List Cl) : Prop := (es.map fun e => (e.1, e.2.1)) = (L.map fun c => (kyC c, [1])) ∧ L.Nodup
/-! ### Squares -/
structure L44 where (i : Int) (o : List AV) (n : Nat)
/-! ### The outline -/
structure M43 where (i : Int) (o : List AV) (n : Nat)
end Go.Proofs.YtmnaghfndigfkaaDoor.X
