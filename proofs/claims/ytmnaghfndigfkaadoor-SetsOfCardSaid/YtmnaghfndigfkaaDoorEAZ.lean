/-
 The law on Of: its table and its loop.
-/
import Derived.Test.YtmnaghfndigfkaaDoorDOZ
set_option maxRecDepth 1000000
set_option linter.unusedVariables false
namespace Go.Proofs.YtmnaghfndigfkaaDoor.X
open Go Go.Ab

def tE14 : List (Nat × CtE) := [(59, e59), (60, eHasB), (47, e47), (61, e61), (52, e52), (41, e41), (62, e62), (35, e35), (63, eSame), (37, e37)]
def TE14 : Tab := tabL tE14 noCh
def l14 (l : List Cl) : LpS L1 where
 ov b := [(7, .int .i64 b.i)]
 bk b := []
 rd S := match aget S.t 7 with
  | some (.int _ i) => some ⟨i⟩
  | _ => none
 pre b := ∃ n : Nat, b.i = n ∧ n ≤ l.length ∧ badL (l.drop n) = badL l
 mu b := l.length - b.i.toNat
end Go.Proofs.YtmnaghfndigfkaaDoor.X
