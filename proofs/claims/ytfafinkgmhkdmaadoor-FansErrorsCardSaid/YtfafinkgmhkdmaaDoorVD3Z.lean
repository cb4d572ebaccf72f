/-
 What the functions on fans compute: fans turned, mirrored, turned over.
-/
import Derived.Test.YtfafinkgmhkdmaaDoorVDZ
set_option maxRecDepth 1000000
set_option linter.unusedVariables false
namespace Go.Proofs.YtfafinkgmhkdmaaDoor.X
open Go Go.Ab

def immL (k : IntKind) (l : List Int) : AV := .imm (.ints k l) l.length (some l.length)
def immN (k : IntKind) (l : List Int) : AV := .imm (.ints k l) l.length none
def rotL' (l : List Int) (n : Nat) : List Int := l.drop n ++ l.take n
def mirK' (k : List Int) : List Int := rotL' k.reverse (k.length - 1)
def ovK' (k : List Int) : List Int := k.map fun x => if x = 1 ∨ x = 2 then 3 - x else x
/-- A block that is not nil. -/
def blkN (k : IntKind) (a : List Int) : Blk := ⟨.ints k a, 1, a.length, none, some false, true, false⟩
/-- slices.Grow of a nil slice. -/
def eGrow (k : IntKind) (by_ : Int) : CtE
 | [.nils, .int .i64 n] => some ⟨.full 0 0, [blkN k []], some (0 < n ∧ n < 1000000000000)⟩
 | _ => none
/-- slices.Concat of two lists. -/
def eCat (k : IntKind) : CtE
 | [.imm (.vals [.imm (.ints k1 x) n none, .imm (.ints k2 y) m none]) 2 _] => cond (beqK k1 k && beqK k2 k) (some ⟨.full 0 (x ++ y).length, [blkN k (x ++ y)], some (n = x.length ∧ m = y.length ∧ 0 < x.length + y.length ∧ x.length + y.length < 100000000000)⟩) none
 | _ => none
/-- Contracts on a heap of one block: Clip; Reverse. -/
def chT (k : IntKind) (id f1 f2 : Nat) (h : List (Nat × HO)) (cv : AV) (args : List AV) : Option Cx :=
 match cv, args, aget h id with
 | .fn f [] [], [.full i n], some (.blk ⟨.ints _ l, _, _, _, _, _, _⟩) => cond (Nat.beq i id && Nat.beq f f1) (some ⟨.fullc id n n, [], some (h = [(id, .blk (blkN k l))] ∧ n = l.length)⟩) none
 | .fn f [] [], [.fullc i n c], some (.blk ⟨.ints _ l, _, _, _, _, _, _⟩) => cond (Nat.beq i id && Nat.beq f f2) (some ⟨.tup [], [(id, .blk (blkN k l.reverse))], some (h = [(id, .blk (blkN k l))] ∧ n = l.length ∧ c = l.length ∧ l.length < 1000000000000)⟩) none
 | _, _, _ => none
def chT1 (k : IntKind) (id f1 : Nat) (h : List (Nat × HO)) (cv : AV) (args : List AV) : Option Cx :=
 match cv, args, aget h id with
 | .fn f [] [], [.full i n], some (.blk ⟨.ints _ l, _, _, _, _, _, _⟩) => cond (Nat.beq i id && Nat.beq f f1) (some ⟨.fullc id n n, [], some (h = [(id, .blk (blkN k l))] ∧ n = l.length)⟩) none
 | _, _, _ => none
def eBegun (k : IntKind) : CtE
 | [.imm (.ints k1 a) n _, .int .i64 i] => cond (beqK k1 k) (some ⟨.fullc 0 (rotL' a i.toNat).length (rotL' a i.toNat).length, [blkN k (rotL' a i.toNat)], some (n = a.length ∧ 0 < a.length ∧ a.length < 100000000000 ∧ 0 ≤ i ∧ i ≤ a.length)⟩) none
 | _ => none
/-- slices.Clone of a list that is not empty; of an empty one. -/
def eCloneP (k : IntKind) : CtE
 | [.imm (.ints k1 a) n _] => cond (beqK k1 k) (some ⟨.full 0 a.length, [blkN k a], some (n = a.length ∧ 0 < a.length ∧ a.length < 100000000000)⟩) none
 | _ => none
def eCloneZ (k : IntKind) : CtE
 | [.imm (.ints k1 a) n _] => cond (beqK k1 k) (some ⟨.imm (.ints k []) 0 none, [], some (n = 0 ∧ a = [])⟩) none
 | _ => none
def eRevZ (k : IntKind) : CtE
 | [.imm (.ints k1 a) n _] => cond (beqK k1 k) (some ⟨.tup [], [], some (n = 0 ∧ a = [])⟩) none
 | _ => none
def eTurned (k : IntKind) : CtE
 | [.imm (.ints k1 a) n _] => cond (beqK k1 k) (some ⟨.imm (.ints k a.reverse) a.length (some a.length), [], some (n = a.length ∧ a.length < 100000000000)⟩) none
 | _ => none
structure L68 where (i j : Int) (l : List Int)
def l68 (k : IntKind) (a : List Int) : LpS L68 where
 ov b := [(2, .int .i64 b.i), (3, .int .i64 b.j)]
 bk b := [(8256, .blk (blkN k b.l))]
 rd S := match aget S.t 2, aget S.t 3, aget S.h 8256 with
  | some (.int _ i), some (.int _ j), some (.blk ⟨.ints _ l, _, _, _, _, _, _⟩) => some ⟨i, j, l⟩
  | _, _, _ => none
 pre b := ∃ n : Nat, b.i = n ∧ b.j = (a.length : Int) - 1 - n ∧ 2 * n ≤ a.length + 1 ∧ b.l.length = a.length ∧ ∀ m, m < a.length → b.l[m]?.getD 0 = if m < n ∨ a.length ≤ m + n then a[a.length - 1 - m]?.getD 0 else a[m]?.getD 0
 mu b := a.length - b.i.toNat
def uA : List (Nat × CtE) := (85, eGrow .i64 8) :: (86, eGrow .u8 1) :: tlA
def UA : Tab := tabL uA noCh
def uB : List (Nat × CtE) := (65, eCat .i64) :: (66, eCat .u8) :: uA
def UB42 : Tab := tabL uB (chT1 .i64 8640 41)
def UB43 : Tab := tabL uB (chT1 .u8 8640 61)
def uP : List (Nat × CtE) := (67, eCloneP .i64) :: (69, eCloneP .u8) :: uB
def UP44 : Tab := tabL uP (chT .i64 8256 41 68)
def UP45 : Tab := tabL uP (chT .u8 8256 61 70)
def uZ : List (Nat × CtE) := (67, eCloneZ .i64) :: (69, eCloneZ .u8) :: (68, eRevZ .i64) :: (70, eRevZ .u8) :: uB
def UZ44 : Tab := tabL uZ noCh
def uC : List (Nat × CtE) := (42, eBegun .i64) :: (43, eBegun .u8) :: (44, eTurned .i64) :: (45, eTurned .u8) :: uB
def UC : Tab := tabL uC noCh
/-- A fan with capacities. -/
def fanC (a k : List Int) : AV := .agg [immL .i64 a, immL .u8 k]
def e20 : CtE
 | [.agg [.imm (.ints .i64 a) n _, .imm (.ints .u8 k) m _]] => some ⟨fanC a.reverse (mirK' k), [], some (n = a.length ∧ m = k.length ∧ a.length < 100000000000 ∧ k.length < 100000000000)⟩
 | _ => none
def e21 : CtE
 | [.agg [.imm (.ints .i64 a) n _, .imm (.ints .u8 k) m _]] => some ⟨fanC a.reverse (ovK' (mirK' k)), [], some (n = a.length ∧ m = k.length ∧ a.length < 100000000000 ∧ k.length < 100000000000)⟩
 | _ => none
/-- Mirror of a fan that has creases: its kinds can be written. -/
def e20p : CtE
 | [.agg [.imm (.ints .i64 a) n _, .imm (.ints .u8 k) m _]] => some ⟨.agg [immL .i64 a.reverse, .fullc 0 (mirK' k).length (mirK' k).length], [blkN .u8 (mirK' k)], some (n = a.length ∧ m = k.length ∧ a.length < 100000000000 ∧ 0 < k.length ∧ k.length < 100000000000)⟩
 | _ => none
def e19m : CtE
 | [.agg [.imm (.ints .i64 a) n _, .imm (.ints .u8 k) m _], .int .i64 i] => some ⟨.tup [.agg [.fullc 0 (rotL' a i.toNat).length (rotL' a i.toNat).length, .fullc 1 (rotL' k i.toNat).length (rotL' k i.toNat).length], .int .i64 0], [blkN .i64 (rotL' a i.toNat), blkN .u8 (rotL' k i.toNat)], some (n = a.length ∧ m = k.length ∧ a.length < 100000000000 ∧ chk a k = 0 ∧ 0 ≤ i ∧ i < a.length)⟩
 | _ => none
structure L21 where (i : Int) (l : List Int)
def l21 (k : List Int) : LpS L21 where
 ov b := [(11, .int .i64 b.i)]
 bk b := [(8256, .blk (blkN .u8 b.l))]
 rd S := match aget S.t 11, aget S.h 8256 with
  | some (.int _ i), some (.blk ⟨.ints _ l, _, _, _, _, _, _⟩) => some ⟨i, l⟩
  | _, _ => none
 pre b := ∃ n : Nat, b.i = n ∧ n ≤ k.length ∧ b.l = (ovK' k).take n ++ k.drop n
 mu b := k.length - b.i.toNat
def UO : Tab := tabL ((20, e20p) :: uC) noCh
def UOz : Tab := tabL ((20, e20) :: uC) noCh
end Go.Proofs.YtfafinkgmhkdmaaDoor.X
