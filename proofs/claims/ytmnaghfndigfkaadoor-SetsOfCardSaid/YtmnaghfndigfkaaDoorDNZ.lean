/-
 What neighbours, squares, outlines compute.
-/
import Derived.Test.YtmnaghfndigfkaaDoorDDZ
import Derived.Test.YtmnaghfndigfkaaDoorDCZ
import Derived.Test.YtmnaghfndigfkaaDoorAb7

set_option maxRecDepth 1000000
set_option linter.unusedVariables false
namespace Go.Proofs.YtmnaghfndigfkaaDoor.X
open Go Go.Ab

/-! ### The map of a set -/
abbrev ME : Type := List (List Int × List Int × Nat)
def kyC (c : Cl) : List Int := [c.1, c.2.1, c.2.2]
def memS : List Cl → ME × Nat → ME × Nat
 | [], s => s
 | c :: r, s => memS r (mput s.1 (kyC c) [1] s.2, mck s.1 (kyC c) s.2)
structure L96 where (i : Int) (es : ME) (k : Nat)
def repM (es : ME) (L : List Cl) : Prop := (es.map fun e => (e.1, e.2.1)) = (L.map fun c => (kyC c, [1])) ∧ L.Nodup
/-! ### Squares -/
structure L44 where (i : Int) (o : List AV) (n : Nat)
/-! ### The outline -/
structure M43 where (i : Int) (o : List AV) (n : Nat)
end Go.Proofs.YtmnaghfndigfkaaDoor.X

/-
 What Connected computes.
-/
set_option maxRecDepth 1000000
set_option linter.unusedVariables false
namespace Go.Proofs.YtmnaghfndigfkaaDoor.X
open Go Go.Ab

def rwB (o : List AV) (n : Nat) : Blk := ⟨.vals o, 3, n, none, some false, true, false⟩
structure L42 where (es : ME) (k : Nat) (o : List AV) (n w : Nat)
structure M42 where (e : Int) (es : ME) (k : Nat) (o : List AV) (n w : Nat)
end Go.Proofs.YtmnaghfndigfkaaDoor.X
/-
 Sorting cells: where nothing is listed and draws are counted.
-/
set_option maxRecDepth 1000000
set_option linter.unusedVariables false
namespace Go.Proofs.YtmnaghfndigfkaaDoor.X
open Go Go.Ab

/-- What is known of memory where nothing is listed, draws counted. -/
noncomputable def Gs : GL := { g := fun _ => none, cm := cmOf Tryd.prog, strong := True }
end Go.Proofs.YtmnaghfndigfkaaDoor.X
/-
 The move that moves nothing: what the functions on moves compute of it.
-/
set_option maxRecDepth 1000000
set_option linter.unusedVariables false
namespace Go.Proofs.YtmnaghfndigfkaaDoor.X
open Go Go.Ab

/-! ### The quarters, one after the other -/
structure L132 where (i k : Int)
/-! ### Sorting -/
def clq (c : Cl) : Cl := (c.1, c.2.1, c.2.2 % 256)
def RCq : RowS Cl where
 k := 3
 row x := [(.i64, x.1), (.i64, x.2.1), (.u8, x.2.2 % 256)]
 len _ := rfl
def cmpQ (a b : Cl) : Int := cmpC (clq a) (clq b)
def srtQ (l : List Cl) : List Cl := sortL cmpQ l
/-! ### Move -/
structure L38 where (i : Int) (o : List AV)
end Go.Proofs.YtmnaghfndigfkaaDoor.X
