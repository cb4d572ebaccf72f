/-
  What the functions of the balances compute: fans turned, mirrored, turned over.
-/
import Derived.Test.YtidpllnmghgomaaDoorD6Z
set_option maxRecDepth 1000000
set_option linter.unusedVariables false
namespace Go.Proofs.YtidpllnmghgomaaDoor.X
open Go Go.Ab

/-- A block that is not nil. -/
def blkN (k : IntKind) (a : List Int) : Blk := ⟨.ints k a, 1, a.length, none, some false, true, false⟩
/-- slices.Grow of a nil slice. -/
def eGrow (k : IntKind) (by_ : Int) : CtE
  | [.nils, .int .i64 n] => some ⟨.full 0 0, [blkN k []], some (0 < n ∧ n < 1000000000000)⟩
  | _ => none
/-- slices.Concat of two lists. -/
def eCat (k : IntKind) : CtE
  | [.imm (.vals [.imm (.ints k1 x) n none, .imm (.ints k2 y) m none]) 2 _] => cond (beqK k1 k && beqK k2 k) (some ⟨.full 0 (x ++ y).length, [blkN k (x ++ y)], some (n = x.length ∧ m = y.length ∧ 0 < x.length + y.length ∧ x.length + y.length < 100000000000)⟩) none
  | _ => none
/-- slices.Clip of kinds. -/
def e40 : CtE
  | [.imm (.ints .u8 a) n _] => some ⟨.imm (.ints .u8 a) n (some n), [], some (n = a.length)⟩
  | _ => none
/-- A list that begins at another place. -/
def rotL (l : List Int) (n : Nat) : List Int := l.drop n ++ l.take n
/-- Contracts on a heap of one block: Clip; Reverse. -/
def chT (k : IntKind) (id f1 f2 : Nat) (h : List (Nat × HO)) (cv : AV) (args : List AV) : Option Cx :=
  match cv, args, aget h id with
  | .fn f [] [], [.full i n], some (.blk ⟨.ints _ l, _, _, _, _, _, _⟩) => cond (Nat.beq i id) (cond (Nat.beq f f1) (some ⟨.full id n, [], some (h = [(id, .blk (blkN k l))] ∧ n = l.length)⟩) (cond (Nat.beq f f2) (some ⟨.tup [], [(id, .blk (blkN k l.reverse))], some (h = [(id, .blk (blkN k l))] ∧ n = l.length ∧ l.length < 1000000000000)⟩) none)) none
  | _, _, _ => none
def eBegun (k : IntKind) : CtE
  | [.imm (.ints k1 a) n _, .int .i64 i] => cond (beqK k1 k) (some ⟨.full 0 (rotL a i.toNat).length, [blkN k (rotL a i.toNat)], some (n = a.length ∧ 0 < a.length ∧ a.length < 100000000000 ∧ 0 ≤ i ∧ i ≤ a.length)⟩) none
  | _ => none
/-- slices.Clone of a list that is not empty; of an empty one. -/
def eCloneP (k : IntKind) : CtE
  | [.imm (.ints k1 a) n _] => cond (beqK k1 k) (some ⟨.full 0 a.length, [blkN k a], some (n = a.length ∧ 0 < a.length ∧ a.length < 100000000000)⟩) none
  | _ => none
def eCloneZ (k : IntKind) : CtE
  | [.imm (.ints k1 a) n _] => cond (beqK k1 k) (some ⟨.imm (.ints k []) 0 none, [], some (n = 0 ∧ a = [])⟩) none
  | _ => none
def eRevZ (k : IntKind) : CtE
  | [.imm (.ints k1 a) n _] => cond (beqK k1 k) (some ⟨.tup [], [], some (n = 0 ∧ a = [])⟩) none
  | _ => none
def eTurned (k : IntKind) : CtE
  | [.imm (.ints k1 a) n _] => cond (beqK k1 k) (some ⟨.imm (.ints k a.reverse) a.length none, [], some (n = a.length ∧ a.length < 100000000000)⟩) none
  | _ => none
structure L43 where (i j : Int) (l : List Int)
def l43 (k : IntKind) (a : List Int) : LpS L43 where
  ov b := [(2, .int .i64 b.i), (3, .int .i64 b.j)]
  bk b := [(8256, .blk (blkN k b.l))]
  rd S := match aget S.t 2, aget S.t 3, aget S.h 8256 with
    | some (.int _ i), some (.int _ j), some (.blk ⟨.ints _ l, _, _, _, _, _, _⟩) => some ⟨i, j, l⟩
    | _, _, _ => none
  pre b := ∃ n : Nat, b.i = n ∧ b.j = (a.length : Int) - 1 - n ∧ 2 * n ≤ a.length + 1 ∧ b.l.length = a.length ∧ ∀ m, m < a.length → b.l[m]?.getD 0 = if m < n ∨ a.length ≤ m + n then a[a.length - 1 - m]?.getD 0 else a[m]?.getD 0
  mu b := a.length - b.i.toNat
def tlA : List (Nat × CtE) := (48, eGrow .i64 8) :: (49, eGrow .u8 1) :: tl9
def TA : Tab := tabL tlA noCh
def tlB : List (Nat × CtE) := (39, eCat .i64) :: (41, eCat .u8) :: (40, e40) :: tlA
def TB32 : Tab := tabL tlB (chT .i64 8640 26 26)
def TB33 : Tab := tabL tlB (chT .u8 8640 40 40)
def tlP : List (Nat × CtE) := (42, eCloneP .i64) :: (44, eCloneP .u8) :: tlB
def TP34 : Tab := tabL tlP (chT .i64 8256 26 43)
def TP35 : Tab := tabL tlP (chT .u8 8256 40 45)
def tlZ : List (Nat × CtE) := (42, eCloneZ .i64) :: (44, eCloneZ .u8) :: (43, eRevZ .i64) :: (45, eRevZ .u8) :: tlB
def TZ34 : Tab := tabL tlZ noCh
def tlC : List (Nat × CtE) := (32, eBegun .i64) :: (33, eBegun .u8) :: (34, eTurned .i64) :: (35, eTurned .u8) :: tlB
def TC : Tab := tabL tlC noCh
/-- The kinds of a fan that is mirrored; turned over. -/
def mirK (k : List Int) : List Int := rotL k.reverse (k.length - 1)
def ovK (k : List Int) : List Int := k.map fun x => if x = 1 ∨ x = 2 then 3 - x else x
def e20 : CtE
  | [.agg [.imm (.ints .i64 a) n _, .imm (.ints .u8 k) m _], .int .i64 i] => some ⟨.tup [.agg [.imm (.ints .i64 (rotL a i.toNat)) (rotL a i.toNat).length none, .imm (.ints .u8 (rotL k i.toNat)) (rotL k i.toNat).length none], .int .i64 0], [], some (n = a.length ∧ m = k.length ∧ a.length < 100000000000 ∧ chk a k = 0 ∧ 0 ≤ i ∧ i < a.length)⟩
  | _ => none
def e21 : CtE
  | [.agg [.imm (.ints .i64 a) n _, .imm (.ints .u8 k) m _]] => some ⟨.agg [.imm (.ints .i64 a.reverse) a.length none, .imm (.ints .u8 (mirK k)) (mirK k).length none], [], some (n = a.length ∧ m = k.length ∧ a.length < 100000000000 ∧ k.length < 100000000000)⟩
  | _ => none
def e22 : CtE
  | [.agg [.imm (.ints .i64 a) n _, .imm (.ints .u8 k) m _]] => some ⟨.agg [.imm (.ints .i64 a.reverse) a.length none, .imm (.ints .u8 (ovK (mirK k))) (ovK (mirK k)).length none], [], some (n = a.length ∧ m = k.length ∧ a.length < 100000000000 ∧ k.length < 100000000000)⟩
  | _ => none
end Go.Proofs.YtidpllnmghgomaaDoor.X
