/-
  What the functions of the balances compute: the list of the sharp angles; lists compared.
-/
import Derived.Test.YtidpllnmghgomaaDoorD4Z
set_option maxRecDepth 1000000
set_option linter.unusedVariables false
namespace Go.Proofs.YtidpllnmghgomaaDoor.X
open Go Go.Ab

def e37 : CtE
  | [.nils, .fn 38 [] [.iptr (.vals [.imm (.ints .i64 a) n none, .imm (.ints .u8 k) m none])]] => some ⟨.imm (.ints .i64 (shps a k)) (shps a k).length none, [], some (n = a.length ∧ m = k.length ∧ a.length = k.length ∧ a.length < 1000000000000)⟩
  | _ => none
def e27 : CtE
  | [.fn 38 [] [.iptr (.vals [.imm (.ints .i64 a) n none, .imm (.ints .u8 k) m none])]] => some ⟨.imm (.ints .i64 (shps a k)) (shps a k).length none, [], some (n = a.length ∧ m = k.length ∧ a.length = k.length ∧ a.length < 1000000000000)⟩
  | _ => none
/-- Lists, of a fan that is valid; otherwise none. -/
def bL (b : Bool) (l : List Int) : List Int := cond b l []
def e15 : CtE
  | [.agg [.imm (.ints .i64 a) n _, .imm (.ints .u8 k) m _]] => some ⟨.tup [.imm (.ints .i64 (bL (isOk a k) (shps a k))) (bL (isOk a k) (shps a k)).length (some (bL (isOk a k) (shps a k)).length), .int .i64 (chk a k)], [], some (n = a.length ∧ m = k.length ∧ a.length < 1000000000000)⟩
  | _ => none
def e11u : CtE
  | [.agg [.imm (.ints .i64 a) n _, .imm (.ints .u8 k) m _]] => some ⟨.tup [.imm (.ints .i64 (bL (isOk a k) (chs a k))) (bL (isOk a k) (chs a k)).length (some (bL (isOk a k) (chs a k)).length), .int .i64 (chk a k)], [], some (n = a.length ∧ m = k.length ∧ a.length < 1000000000000)⟩
  | _ => none
def eqL (a b : List Int) : Bool := decide (a = b)
structure L13 where (i : Int)
def l13 (a b : List Int) : LpS L13 where
  ov s := [(5, .int .i64 s.i)]
  bk s := []
  rd S := match aget S.t 5 with
    | some (.int _ i) => some ⟨i⟩
    | _ => none
  pre s := ∃ n : Nat, s.i = n ∧ n ≤ a.length ∧ a.length = b.length ∧ a.take n = b.take n
  mu s := a.length - s.i.toNat
def e13 : CtE
  | [.imm (.ints .i64 a) n (some c), .imm (.ints .i64 b) m _] => some ⟨.bool (eqL a b), [], some (n = a.length ∧ c = a.length ∧ m = b.length ∧ a.length < 1000000000000)⟩
  | _ => none
def tl6a : List (Nat × CtE) := (28, e28) :: (37, e37) :: tl5
def T6a : Tab := tabL tl6a noCh
def tl6 : List (Nat × CtE) := (27, e27) :: tl6a
def T6 : Tab := tabL tl6 noCh
def tl7 : List (Nat × CtE) := (15, e15) :: (13, e13) :: (11, e11u) :: (10, e10) :: tl6
def T7 : Tab := tabL tl7 noCh
/-- The law's own list of sharp angles. -/
structure L4 where (i : Int) (l : List Int)
def l4 (a k : List Int) : LpS L4 where
  ov b := [(8, .int .i64 b.i), (7, .full 9001 b.l.length)]
  bk b := [(9001, .blk (blkI b.l))]
  rd S := match aget S.t 8, aget S.h 9001 with
    | some (.int _ i), some (.blk ⟨.ints _ l, _, _, _, _, _, _⟩) => some ⟨i, l⟩
    | _, _ => none
  pre b := ∃ n : Nat, b.i = n ∧ n ≤ a.length ∧ b.l.length ≤ n ∧ (n = 0 ∨ 4 ≤ a.length) ∧ b.l = shpL a k n
  mu b := a.length - b.i.toNat
def befI (n : Nat) (i : Int) : Int := if i = 0 then n - 1 else i - 1
def nexI (n : Nat) (i : Int) : Int := if i = n - 1 then 0 else i + 1
end Go.Proofs.YtidpllnmghgomaaDoor.X
