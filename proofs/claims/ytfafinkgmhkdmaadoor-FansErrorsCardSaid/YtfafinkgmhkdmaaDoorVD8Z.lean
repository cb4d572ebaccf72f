/-
 What the least turn of a fan computes: the range over its turns.
-/
import Derived.Test.YtfafinkgmhkdmaaDoorVD7Z
set_option maxRecDepth 1000000
set_option linter.unusedVariables false
namespace Go.Proofs.YtfafinkgmhkdmaaDoor.X
open Go Go.Ab

def tm28 (a k : List Int) : List (Nat × AV) := [(2, .ptr 65 0), (4, .ptr 133 0), (17, .fn 71 [] [.iptr (fanVC a k)])]
/-- The heap of the range: the fan that is the least so far. -/
noncomputable def H28 (a k oa ok : List Int) : List (Nat × HO) := [(133, box28 oa ok), (65, .blk ⟨.cells [.nils, .nils], 2, 1, none, some false, true, true⟩), (9002, .loop (rfLoop fe28 (tm28 a k)))]
def selL (c : Bool) (x y : List Int) : List Int := cond c x y
structure L71 where (i : Int) (a k : List Int)
def l71 (a k : List Int) : LpS L71 where
 ov b := [(7, .int .i64 b.i)]
 bk b := [(133, box28 b.a b.k)]
 rd S := match aget S.t 7, aget S.h 133 with
  | some (.int _ i), some (.blk ⟨.cells [.imm (.ints _ x) _ _, .imm (.ints _ y) _ _], _, _, _, _, _, _⟩) => some ⟨i, x, y⟩
  | _, _ => none
 pre b := ∃ n : Nat, b.i = n ∧ n ≤ a.length ∧ b.a = rotL' a (bestN (trn a k) n) ∧ b.k = rotL' k (bestN (trn a k) n)
 mu b := a.length - b.i.toNat
/-- A round, by its contract. -/
noncomputable def ch28 (a k : List Int) (h : List (Nat × HO)) (cv : AV) (args : List AV) : Option Cx :=
 match cv, args, aget h 133 with
 | .yld id, [.agg [.imm (.ints .i64 x) n (some c), .imm (.ints .u8 y) m (some d)]], some (.blk ⟨.cells [.imm (.ints .i64 oa) _ _, .imm (.ints .u8 ok) _ _], _, _, _, _, _, _⟩) => cond (Nat.beq id 9002) (some ⟨.bool true, [(133, box28 (selL (ltF x y oa ok) x oa) (selL (ltF x y oa ok) y ok))], some (h = H28 a k oa ok ∧ n = x.length ∧ m = y.length ∧ c = n ∧ d = m ∧ x.length < 1000000000 ∧ y.length < 1000000000 ∧ oa.length < 1000000000 ∧ ok.length < 1000000000)⟩) none
 | _, _, _ => none
noncomputable def TY28 (a k : List Int) : Tab := tabL [(42, eBegI .i64), (43, eBegI .u8)] (ch28 a k)
/-- The iterator, by its contract. -/
noncomputable def ch71 (a k : List Int) (h : List (Nat × HO)) (cv : AV) (args : List AV) : Option Cx :=
 match cv, args with
 | .fn f [] [], [.yld id, .iptr _] => cond (Nat.beq id 9002 && Nat.beq f 71) (some ⟨.tup [], [(133, box28 (lsA a k) (lsK a k))], some (h = H28 a k (rotL' a 0) (rotL' k 0) ∧ args = [.yld 9002, .iptr (fanVC a k)] ∧ k.length = a.length ∧ a.length < 1000000000)⟩) none
 | _, _ => none
noncomputable def T28 (a k : List Int) : Tab := tabL ((19, e19f) :: (46, e46) :: wB) (ch71 a k)
def e28 : CtE
 | [.agg [.imm (.ints .i64 a) n _, .imm (.ints .u8 k) m _]] => some ⟨.tup [fanC (lsA a k) (lsK a k), .int .i64 0], [], some (n = a.length ∧ m = k.length ∧ a.length < 1000000000 ∧ chk a k = 0)⟩
 | _ => none
def wL : List (Nat × CtE) := (27, e12) :: (28, e28) :: (29, e29) :: (26, e26) :: (25, e25) :: (19, e19f) :: wB
def WL : Tab := tabL wL noCh
structure L9 where (k : Int) (f : Bool)
/-- Some turn before is the least one. -/
def fndB (a k : List Int) (n : Nat) : Bool := (a.length == 0) || (List.range n).any fun i => eqB (rotL' a i) (lsA a k) && eqB (rotL' k i) (lsK a k)
def l9 (a k : List Int) : LpS L9 where
 ov b := [(9, .bool b.f), (10, .int .i64 b.k)]
 bk b := []
 rd S := match aget S.t 10, aget S.t 9 with
  | some (.int _ i), some (.bool f) => some ⟨i, f⟩
  | _, _ => none
 pre b := ∃ n : Nat, b.k = n ∧ n ≤ a.length ∧ b.f = fndB a k n
 mu b := a.length - b.k.toNat
def m9 (a : List Int) : LpS L26 where
 ov c := [(15, .int .i64 c.i)]
 bk c := []
 rd S := match aget S.t 15 with
  | some (.int _ i) => some ⟨i⟩
  | _ => none
 pre c := ∃ n : Nat, c.i = n ∧ n ≤ a.length
 mu c := a.length - c.i.toNat
end Go.Proofs.YtfafinkgmhkdmaaDoor.X
