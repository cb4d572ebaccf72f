/-
 What the functions on cells and lists of cells compute.
-/
import Derived.Test.YtmnaghfndigfkaaDoorQDZ
import Derived.Test.YtmnaghfndigfkaaDoorAb7
set_option maxRecDepth 1000000
set_option linter.unusedVariables false
namespace Go.Proofs.YtmnaghfndigfkaaDoor.X
open Go Go.Ab

def bI (b : Bool) (x y : Int) : Int := cond b x y
def eqCl (a b : Cl) : Bool := a.1 == b.1 && (a.2.1 == b.2.1 && a.2.2 == b.2.2)
def i8P (x : Int) : Prop := -128 ≤ x ∧ x ≤ 127
/-! ### Lists -/
structure L1 where (i : Int)
/-! ### Add, Of -/
structure L92 where (i d : Int) (o : List AV) (n : Nat)
structure L62 where (i : Int) (o : List AV) (n : Nat)
/-! ### The set of plain data -/
def cel (x : Cl) : Cl := (x.1, x.2.1, x.2.2.tmod 4)
structure L31 where (i : Int) (o : List AV) (n : Nat)
def p3 (a b c : Int) (i : Int) : Int := if i = 0 then a else if i = 1 then b else c
end Go.Proofs.YtmnaghfndigfkaaDoor.X
