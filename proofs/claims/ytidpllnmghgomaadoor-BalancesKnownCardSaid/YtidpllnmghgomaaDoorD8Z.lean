/-
  What the functions of the balances compute: the law on what fans lack.
-/
import Derived.Test.YtidpllnmghgomaaDoorD7Z
set_option maxRecDepth 1000000
set_option linter.unusedVariables false
namespace Go.Proofs.YtidpllnmghgomaaDoor.X
open Go Go.Ab

/-- Mirror of a fan that has creases: its kinds can be written. -/
def e21p : CtE
  | [.agg [.imm (.ints .i64 a) n _, .imm (.ints .u8 k) m _]] => some ⟨.agg [.imm (.ints .i64 a.reverse) a.length none, .full 0 (mirK k).length], [blkN .u8 (mirK k)], some (n = a.length ∧ m = k.length ∧ a.length < 100000000000 ∧ 0 < k.length ∧ k.length < 100000000000)⟩
  | _ => none
def e20m : CtE
  | [.agg [.imm (.ints .i64 a) n _, .imm (.ints .u8 k) m _], .int .i64 i] => some ⟨.tup [.agg [.full 0 (rotL a i.toNat).length, .full 1 (rotL k i.toNat).length], .int .i64 0], [blkN .i64 (rotL a i.toNat), blkN .u8 (rotL k i.toNat)], some (n = a.length ∧ m = k.length ∧ a.length < 100000000000 ∧ chk a k = 0 ∧ 0 ≤ i ∧ i < a.length)⟩
  | _ => none
structure L22 where (i : Int) (l : List Int)
def l22 (k : List Int) : LpS L22 where
  ov b := [(11, .int .i64 b.i)]
  bk b := [(8256, .blk (blkN .u8 b.l))]
  rd S := match aget S.t 11, aget S.h 8256 with
    | some (.int _ i), some (.blk ⟨.ints _ l, _, _, _, _, _, _⟩) => some ⟨i, l⟩
    | _, _ => none
  pre b := ∃ n : Nat, b.i = n ∧ n ≤ k.length ∧ b.l = (ovK k).take n ++ k.drop n
  mu b := k.length - b.i.toNat
def TO : Tab := tabL ((21, e21p) :: tlC) noCh
def TOz : Tab := tabL ((21, e21) :: tlC) noCh
def tlD : List (Nat × CtE) := (20, e20m) :: (21, e21) :: (22, e22) :: tl9
def TD : Tab := tabL tlD noCh
/-- What the law wants, step by step. -/
def wS (a k : List Int) : Int := if ptB a k = true then 4 else 0
def wD (a k : List Int) : Int := if unbB a k = true then 3 else wS a k
def wA (a k : List Int) : Int := if unevB a = true then 2 else wD a k
end Go.Proofs.YtidpllnmghgomaaDoor.X
