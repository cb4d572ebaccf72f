/-
 The law on moves: its table; the set by a name; its loop.
-/
import Derived.Test.YtmnaghfndigfkaaDoorDVZ
set_option maxRecDepth 1000000
set_option linter.unusedVariables false
namespace Go.Proofs.YtmnaghfndigfkaaDoor.X
open Go Go.Ab

noncomputable def tW9 : List (Nat × CtE) := [(31, e31), (38, e38), (39, e39), (40, e40), (41, e41), (42, e42), (35, e35), (37, e37)]
noncomputable def TW9 : Tab := tabL tW9 noCh
structure S9 where (a : List AV) (n : Nat)
def s9 (x : List Cl) : LpS S9 where
 ov v := [(5, .imm (.vals v.a) v.n none)]
 bk v := []
 rd S := match aget S.t 5 with
  | some (.imm (.vals a) n _) => some ⟨a, n⟩
  | _ => none
 pre v := v.a = flatK x ∧ v.n = x.length
 mu v := 0
/-- The set that is wanted. -/
def wan (t a b : Int) (x : List Cl) : List Cl := ofL (mvL t a b x)
def alB (l : List Cl) : Bool := l.all vldC
def l9 (w : List Cl) : LpS L1 where
 ov b := [(9, .int .i64 b.i)]
 bk b := []
 rd S := match aget S.t 9 with
  | some (.int _ i) => some ⟨i⟩
  | _ => none
 pre b := ∃ n : Nat, b.i = n ∧ n ≤ w.length ∧ alB (w.take n) = true
 mu b := w.length - b.i.toNat
end Go.Proofs.YtmnaghfndigfkaaDoor.X
