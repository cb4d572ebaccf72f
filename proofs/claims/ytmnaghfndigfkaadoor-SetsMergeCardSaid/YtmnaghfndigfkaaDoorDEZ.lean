/-
 The law on merging: its contracts.
-/
import Derived.Test.YtmnaghfndigfkaaDoorDDZ
set_option maxRecDepth 1000000
set_option linter.unusedVariables false
namespace Go.Proofs.YtmnaghfndigfkaaDoor.X
open Go Go.Ab

/-- The code of a cell: 1 if it is of a, 2 if it is of b. -/
def cdC (a b : List Cl) (c : Cl) : Int := bI (hasL a c) 1 0 + 2 * bI (hasL b c) 1 0
def whB (m : Int) (a b : List Cl) (c : Cl) : Bool := bitI .and .i64 (Int.fdiv m (2 ^ min (cdC a b c).toNat 64)) 1 == 1
def whF (m : Int) (a b : List Cl) (o : List Cl) (c : Cl) : List Cl := cond (whB m a b c) (addL o c) o
def whL (m : Int) (a b : List Cl) (l : List Cl) : List Cl := l.foldl (whF m a b) []
structure L36 where (i : Int) (o : List AV) (n : Nat)
def l36 (m : Int) (a b : List Cl) : LpS L36 where
 ov c := [(9, .int .i64 c.i), (7, .imm (.vals c.o) c.n none)]
 bk c := []
 rd S := match aget S.t 9, aget S.t 7 with
  | some (.int _ i), some (.imm (.vals o) n _) => some ⟨i, o, n⟩
  | some (.int _ i), some .nils => some ⟨i, [], 0⟩
  | _, _ => none
 pre c := ∃ n : Nat, c.i = n ∧ n ≤ (a ++ b).length ∧ c.o = flatK (whL m a b ((a ++ b).take n)) ∧ c.n = (whL m a b ((a ++ b).take n)).length
 mu c := (a ++ b).length - c.i.toNat
def tE1 : List (Nat × CtE) := [(47, e47), (92, e92)]
def TE1 : Tab := tabL tE1 noCh
def e36 : CtE
 | [.imm (.vals a) n _, .imm (.vals b) k _, .int .i64 m] => some ⟨cls (whL m (unK a) (unK b) (unK a ++ unK b)), [], some (okL a n ∧ okL b k ∧ (unK a ++ unK b).length < 1000000)⟩
 | _ => none
end Go.Proofs.YtmnaghfndigfkaaDoor.X
