/-
  What the functions of the balances compute: counts, ranges, choices.
-/
import Derived.Test.YtidpllnmghgomaaDoorDZ
import Derived.Test.YtidpllnmghgomaaDoorAb5
set_option maxRecDepth 1000000
set_option linter.unusedVariables false
namespace Go.Proofs.YtidpllnmghgomaaDoor.X
open Go Go.Ab

/-- How often a number stands in a list. -/
def cntK : List Int → Int → Int
  | [], _ => 0
  | a :: r, x => (bif a == x then 1 else 0) + cntK r x
structure L23 where (i n : Int)
def l23 (k : List Int) (x : Int) : LpS L23 where
  ov b := [(11, .int .i64 b.i), (5, .int .i64 b.n)]
  bk b := []
  rd S := match aget S.t 11, aget S.t 5 with
    | some (.int _ i), some (.int _ n) => some ⟨i, n⟩
    | _, _ => none
  pre b := ∃ n : Nat, b.i = n ∧ n ≤ k.length ∧ 0 ≤ b.n ∧ b.n ≤ n ∧ b.n + cntK (k.drop n) x = cntK k x
  mu b := k.length - b.i.toNat
def e23 : CtE
  | [.agg [.imm (.ints .i64 a) n _, .imm (.ints .u8 k) m _], .int .u8 x] => some ⟨.int .i64 (cntK k x), [], some (n = a.length ∧ m = k.length ∧ k.length < 1000000000000)⟩
  | _ => none
/-- Mountains less valleys; those that are not decided. -/
def dif (k : List Int) : Int := cntK k 1 - cntK k 2
def e10 : CtE
  | [.agg [.imm (.ints .i64 a) n _, .imm (.ints .u8 k) m _]] => some ⟨.tup [.int .i64 (bI (isOk a k) (dif k - cntK k 3) 0), .int .i64 (bI (isOk a k) (dif k + cntK k 3) 0), .int .i64 (chk a k)], [], some (n = a.length ∧ m = k.length ∧ a.length < 1000000000000)⟩
  | _ => none
/-- The choices. -/
def chL (d t : Int) : Nat → List Int
  | 0 => []
  | n + 1 => if d + 2 * n - t = 2 ∨ d + 2 * n - t = -2 then chL d t n ++ [(n : Int)] else chL d t n
def chs (a k : List Int) : List Int := if a.length = 0 then [0] else chL (dif k) (cntK k 3) ((cntK k 3).toNat + 1)
structure L24 where (i : Int) (l : List Int)
def l24 (d t : Int) : LpS L24 where
  ov b := [(22, .int .i64 b.i), (5, .full 9001 b.l.length)]
  bk b := [(9001, .blk (blkI b.l))]
  rd S := match aget S.t 22, aget S.h 9001 with
    | some (.int _ i), some (.blk ⟨.ints _ l, _, _, _, _, _, _⟩) => some ⟨i, l⟩
    | _, _ => none
  pre b := ∃ n : Nat, b.i = n ∧ n ≤ t.toNat + 1 ∧ b.l.length ≤ n ∧ b.l = chL d t n
  mu b := t.toNat + 1 - b.i.toNat
def e24 : CtE
  | [.agg [.imm (.ints .i64 a) n _, .imm (.ints .u8 k) m _]] => some ⟨.imm (.ints .i64 (chs a k)) (chs a k).length (some (chs a k).length), [], some (n = a.length ∧ m = k.length ∧ k.length < 1000000000000)⟩
  | _ => none
/-- Choices, of a fan that is valid, and of one that is not. -/
def e11 : CtE
  | [.agg [.imm (.ints .i64 a) n _, .imm (.ints .u8 k) m _]] => some ⟨.tup [.imm (.ints .i64 (chs a k)) (chs a k).length (some (chs a k).length), .int .i64 0], [], some (n = a.length ∧ m = k.length ∧ a.length < 1000000000000 ∧ chk a k = 0)⟩
  | _ => none
def e11n : CtE
  | [.agg [.imm (.ints .i64 a) n _, .imm (.ints .u8 k) m _]] => some ⟨.tup [.nils, .int .i64 (chk a k)], [], some (n = a.length ∧ m = k.length ∧ a.length < 1000000000000 ∧ chk a k ≠ 0)⟩
  | _ => none
/-- slices.Clip, of integers. -/
def e26 : CtE
  | [.imm (.ints .i64 a) n _] => some ⟨.imm (.ints .i64 a) n (some n), [], some (n = a.length)⟩
  | _ => none
def tl4 : List (Nat × CtE) := (23, e23) :: (26, e26) :: tl3
def T4 : Tab := tabL tl4 noCh
def tl5 : List (Nat × CtE) := (24, e24) :: tl4
def T5 : Tab := tabL tl5 noCh
end Go.Proofs.YtidpllnmghgomaaDoor.X
