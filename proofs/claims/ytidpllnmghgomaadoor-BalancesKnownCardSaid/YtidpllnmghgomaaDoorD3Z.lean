/-
  What the functions of the balances compute: sharp angles.
-/
import Derived.Test.YtidpllnmghgomaaDoorD2Z
set_option maxRecDepth 1000000
set_option linter.unusedVariables false
namespace Go.Proofs.YtidpllnmghgomaaDoor.X
open Go Go.Ab

/-- A fan that is captured. -/
abbrev fanC (a k : List Int) : Cont := .vals [.imm (.ints .i64 a) a.length none, .imm (.ints .u8 k) k.length none]
def e28 : CtE
  | [.agg [.imm (.ints .i64 a) n _, .imm (.ints .u8 k) m _]] => some ⟨.fn 38 [] [.iptr (fanC a k)], [], some (n = a.length ∧ m = k.length)⟩
  | _ => none
/-- Whether an angle is sharp; the sharp ones. -/
def shB (a k : List Int) (i : Nat) : Bool :=
  let j := (i + 1) % a.length
  decide (a[i]?.getD 0 < a[j]?.getD 0) && (decide (a[i]?.getD 0 < a[(i + a.length - 1) % a.length]?.getD 0) && ((k[i]?.getD 0 == k[j]?.getD 0) && (k[i]?.getD 0 != 3)))
def shpL (a k : List Int) : Nat → List Int
  | 0 => []
  | n + 1 => if shB a k n then shpL a k n ++ [(n : Int)] else shpL a k n
def shps (a k : List Int) : List Int := if a.length < 4 then [] else shpL a k a.length
/-- The heap of a range over the sharp angles, in AppendSeq. -/
def box37 (n : Nat) : HO := .blk ⟨.cells [.full 9001 n], 1, 1, none, some false, true, true⟩
def tm37 (a k : List Int) : List (Nat × AV) := [(2, .ptr 64 0), (6, .fn 38 [] [.iptr (fanC a k)])]
noncomputable def H37 (a k l : List Int) : List (Nat × HO) := [(9001, .blk (blkI l)), (64, box37 l.length), (9002, .loop (rfLoop fe37 (tm37 a k)))]
/-- The same before the first round. -/
noncomputable def H37e (a k : List Int) : List (Nat × HO) := [(9001, .blk ⟨.ints .i64 [], 1, 0, some 0, some true, true, false⟩), (64, box37 0), (9002, .loop (rfLoop fe37 (tm37 a k)))]
structure L38 where (i : Int) (l : List Int)
def l38 (a k : List Int) : LpS L38 where
  ov b := [(15, .int .i64 b.i)]
  bk b := [(9001, .blk (blkI b.l)), (64, box37 b.l.length)]
  rd S := match aget S.t 15, aget S.h 9001 with
    | some (.int _ i), some (.blk ⟨.ints _ l, _, _, _, _, _, _⟩) => some ⟨i, l⟩
    | _, _ => none
  pre b := ∃ n : Nat, b.i = n ∧ n ≤ a.length ∧ b.l.length ≤ n ∧ b.l = shpL a k n
  mu b := a.length - b.i.toNat
/-- A round, by its contract. -/
noncomputable def ch37 (a k : List Int) (h : List (Nat × HO)) (cv : AV) (args : List AV) : Option Cx :=
  match cv, args, aget h 9001 with
  | .yld id, [.int .i64 x], some (.blk ⟨.ints .i64 l, _, _, _, _, _, _⟩) => cond (Nat.beq id 9002) (some ⟨.bool true, [(64, box37 (l.length + 1)), (9001, .blk (blkI (l ++ [x])))], some (h = H37 a k l ∧ l.length < 1000000000000)⟩) none
  | _, _, _ => none
noncomputable def TY (a k : List Int) : Tab := tabL [] (ch37 a k)
end Go.Proofs.YtidpllnmghgomaaDoor.X
