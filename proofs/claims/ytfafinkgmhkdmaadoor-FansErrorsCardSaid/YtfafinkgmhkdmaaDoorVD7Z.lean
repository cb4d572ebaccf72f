/-
 What the law on turned fans computes: comparisons, the least turn.
-/
import Derived.Test.YtfafinkgmhkdmaaDoorVD6Z
import Derived.Test.YtfafinkgmhkdmaaDoorVP3Z
import Derived.Test.YtfafinkgmhkdmaaDoorAb5
set_option maxRecDepth 1000000
set_option linter.unusedVariables false
namespace Go.Proofs.YtfafinkgmhkdmaaDoor.X
open Go Go.Ab

def cmpI (x y : Int) : Int := if x < y then -1 else if y < x then 1 else 0
def orI (x y : Int) : Int := if x = 0 then y else x
def eCmpI (k : IntKind) : CtE
 | [.int k1 x, .int k2 y] => cond (beqK k1 k && beqK k2 k) (some ⟨.int .i64 (cmpI x y), [], none⟩) none
 | _ => none
def eNaN (k : IntKind) : CtE
 | [.int k1 x] => cond (beqK k1 k) (some ⟨.bool false, [], none⟩) none
 | _ => none
def e47 : CtE
 | [.imm (.ints .i64 [x, y]) 2 _] => some ⟨.int .i64 (orI x y), [], none⟩
 | _ => none
def eCmp (k : IntKind) : CtE
 | [.imm (.ints k1 a) n _, .imm (.ints k2 b) m _] => cond (beqK k1 k && beqK k2 k) (some ⟨.int .i64 (cmpL a b), [], some (n = a.length ∧ m = b.length ∧ a.length < 1000000000000 ∧ b.length < 1000000000000)⟩) none
 | _ => none
structure L48 where (i : Int)
def l48 (a b : List Int) : LpS L48 where
 ov c := [(11, .int .i64 c.i)]
 bk c := []
 rd S := match aget S.t 11 with
  | some (.int _ i) => some ⟨i⟩
  | _ => none
 pre c := ∃ n : Nat, c.i = n ∧ n ≤ a.length ∧ n ≤ b.length ∧ cmpL (a.drop n) (b.drop n) = cmpL a b
 mu c := a.length - c.i.toNat
/-- A list that begins at another place, by value. -/
def eBegI (k : IntKind) : CtE
 | [.imm (.ints k1 a) n _, .int .i64 i] => cond (beqK k1 k) (some ⟨immL k (rotL' a i.toNat), [], some (n = a.length ∧ a.length < 100000000000 ∧ 0 ≤ i ∧ i ≤ a.length)⟩) none
 | _ => none
def wA : List (Nat × CtE) := (52, eCmpI .i64) :: (72, eCmpI .u8) :: (75, eNaN .i64) :: (87, eNaN .u8) :: (47, e47) :: uC
def WA : Tab := tabL wA noCh
def wN : List (Nat × CtE) := [(75, eNaN .i64), (87, eNaN .u8)]
def WN : Tab := tabL wN noCh
def wB : List (Nat × CtE) := (42, eBegI .i64) :: (43, eBegI .u8) :: (48, eCmp .i64) :: (49, eCmp .u8) :: wA
def WB : Tab := tabL wB noCh
/-- Turn. -/
def tOk (a : List Int) (i : Int) : Bool := decide (0 ≤ i ∧ (i < a.length ∨ i = 0))
def bLt (b : Bool) (l : List Int) : List Int := cond b l []
def e19f : CtE
 | [.agg [.imm (.ints .i64 a) n _, .imm (.ints .u8 k) m _], .int .i64 i] => some ⟨.tup [.agg [immL .i64 (bLt (tOk a i) (rotL' a i.toNat)), immL .u8 (bLt (tOk a i) (rotL' k i.toNat))], .int .i64 (bI (tOk a i) 0 1)], [], some (n = a.length ∧ m = k.length ∧ a.length < 100000000000 ∧ chk a k = 0)⟩
 | _ => none
/-- The iterator of turns. -/
abbrev fanVC (a k : List Int) : Cont := .vals [.imm (.ints .i64 a) a.length none, .imm (.ints .u8 k) k.length none]
def e46 : CtE
 | [.agg [.imm (.ints .i64 a) n _, .imm (.ints .u8 k) m _]] => some ⟨.fn 71 [] [.iptr (fanVC a k)], [], some (n = a.length ∧ m = k.length)⟩
 | _ => none
def ltF (b j oa ok : List Int) : Bool := ltb (orI (cmpL b oa) (cmpL j ok)) 0
def box28 (a k : List Int) : HO := .blk ⟨.cells [immL .i64 a, immL .u8 k], 2, 1, none, some false, true, true⟩
def befB (a k b j : List Int) : Bool := ltb (cmpL (a ++ k) (b ++ j)) 0
def e29 : CtE
 | [.agg [.imm (.ints .i64 a) n _, .imm (.ints .u8 k) m _], .agg [.imm (.ints .i64 b) n' _, .imm (.ints .u8 j) m' _]] => some ⟨.bool (befB a k b j), [], some (n = a.length ∧ m = k.length ∧ n' = b.length ∧ m' = j.length ∧ a.length = b.length ∧ k.length = j.length ∧ a.length < 1000000000000 ∧ k.length < 1000000000000)⟩
 | _ => none
def m29 (a b k j : List Int) : LpS L26 where
 ov c := [(5, .int .i64 c.i)]
 bk c := []
 rd S := match aget S.t 5 with
  | some (.int _ i) => some ⟨i⟩
  | _ => none
 pre c := ∃ n : Nat, c.i = n ∧ n ≤ a.length ∧ cmpL (a.drop n ++ k) (b.drop n ++ j) = cmpL (a ++ k) (b ++ j)
 mu c := a.length - c.i.toNat
def n29 (a b k j : List Int) : LpS L26 where
 ov c := [(6, .int .i64 c.i)]
 bk c := []
 rd S := match aget S.t 6 with
  | some (.int _ i) => some ⟨i⟩
  | _ => none
 pre c := ∃ n : Nat, c.i = n ∧ n ≤ k.length ∧ cmpL (k.drop n) (j.drop n) = cmpL (a ++ k) (b ++ j)
 mu c := k.length - c.i.toNat
end Go.Proofs.YtfafinkgmhkdmaaDoor.X
