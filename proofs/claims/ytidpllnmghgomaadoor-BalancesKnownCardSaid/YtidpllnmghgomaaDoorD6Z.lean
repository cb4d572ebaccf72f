/-
  What the functions of the balances compute: whether an angle is sharp; what a fan lacks.
-/
import Derived.Test.YtidpllnmghgomaaDoorD5Z
set_option maxRecDepth 1000000
set_option linter.unusedVariables false
namespace Go.Proofs.YtidpllnmghgomaaDoor.X
open Go Go.Ab

/-- The heap of the range over the sharp angles, in pointed. -/
def box84 (b : Bool) : HO := .blk ⟨.cells [.bool b], 1, 1, none, some false, true, true⟩
def tm84 (a k : List Int) : List (Nat × AV) := [(2, .ptr 65 0), (4, .fn 38 [] [.iptr (fanC a k)])]
noncomputable def L84 (a k : List Int) : LoopS := rfLoop fe84 (tm84 a k)
noncomputable def H84 (a k : List Int) : List (Nat × HO) := [(65, box84 false), (9002, .loop (L84 a k))]
noncomputable def W84 (a k : List Int) : List (Nat × HO) := [(65, box84 true), (9002, .loop { L84 a k with st := 2, pend := some .ret })]
structure LI where (i : Int)
/-- No angle is sharp. -/
def l38n (a k : List Int) : LpS LI where
  ov b := [(15, .int .i64 b.i)]
  bk b := []
  rd S := match aget S.t 15 with
    | some (.int _ i) => some ⟨i⟩
    | _ => none
  pre b := ∃ n : Nat, b.i = n ∧ n ≤ a.length
  mu b := a.length - b.i.toNat
/-- A sharp angle is to come. -/
def l38y (a k : List Int) : LpS LI where
  ov b := [(15, .int .i64 b.i)]
  bk b := []
  rd S := match aget S.t 15 with
    | some (.int _ i) => some ⟨i⟩
    | _ => none
  pre b := ∃ n m : Nat, b.i = n ∧ n ≤ m ∧ m < a.length ∧ shB a k m = true
  mu b := a.length - b.i.toNat
/-- A round, by its contract. -/
noncomputable def ch84 (a k : List Int) (h : List (Nat × HO)) (cv : AV) (args : List AV) : Option Cx :=
  match cv, args with
  | .yld id, [.int .i64 x] => cond (Nat.beq id 9002) (some ⟨.bool false, W84 a k, some (h = H84 a k)⟩) none
  | _, _ => none
noncomputable def TZ (a k : List Int) : Tab := tabL [] (ch84 a k)
noncomputable def ch38n (h : List (Nat × HO)) (cv : AV) (args : List AV) : Option Cx :=
  match cv, args with
  | .fn f [] [], [.yld id, .iptr (.vals [.imm (.ints .i64 a) n none, .imm (.ints .u8 k) m none])] => cond (Nat.beq f 38 && Nat.beq id 9002) (some ⟨.tup [], [], some (h = H84 a k ∧ n = a.length ∧ m = k.length ∧ a.length = k.length ∧ a.length < 1000000000000 ∧ shps a k = [])⟩) none
  | _, _ => none
noncomputable def ch38y (h : List (Nat × HO)) (cv : AV) (args : List AV) : Option Cx :=
  match cv, args with
  | .fn f [] [], [.yld id, .iptr (.vals [.imm (.ints .i64 a) n none, .imm (.ints .u8 k) m none])] => cond (Nat.beq f 38 && Nat.beq id 9002) (some ⟨.tup [], W84 a k, some (h = H84 a k ∧ n = a.length ∧ m = k.length ∧ a.length = k.length ∧ a.length < 1000000000000 ∧ shps a k ≠ [])⟩) none
  | _, _ => none
noncomputable def T84n : Tab := tabL tl6 ch38n
noncomputable def T84y : Tab := tabL tl6 ch38y
def ptB (a k : List Int) : Bool := ((shps a k).length : Int) != 0
def e84 : CtE
  | [.agg [.imm (.ints .i64 a) n _, .imm (.ints .u8 k) m _]] => some ⟨.bool (ptB a k), [], some (n = a.length ∧ m = k.length ∧ a.length = k.length ∧ a.length < 1000000000000)⟩
  | _ => none
def unbB (a k : List Int) : Bool := ((chs a k).length : Int) == 0
def e83 : CtE
  | [.agg [.imm (.ints .i64 a) n _, .imm (.ints .u8 k) m _]] => some ⟨.bool (unbB a k), [], some (n = a.length ∧ m = k.length ∧ k.length < 1000000000000)⟩
  | _ => none
def e82 : CtE
  | [.agg [.imm (.ints .i64 a) n _, .imm (.ints .u8 k) m _]] => some ⟨.bool false, [], some (n = a.length ∧ m = k.length)⟩
  | _ => none
def lk (a k : List Int) : Int := if oddB a = true then 1 else if unevB a = true then 2 else if unbB a k = true then 3 else if ptB a k = true then 4 else 0
def e19 : CtE
  | [.agg [.imm (.ints .i64 a) n _, .imm (.ints .u8 k) m _]] => some ⟨.tup [.int .u8 (bI (isOk a k) (lk a k) 0), .int .i64 (chk a k)], [], some (n = a.length ∧ m = k.length ∧ a.length < 1000000000000)⟩
  | _ => none
def tl8 : List (Nat × CtE) := (82, e82) :: (83, e83) :: (84, e84) :: tl7
def T8 : Tab := tabL tl8 noCh
def tl9 : List (Nat × CtE) := (19, e19) :: tl8
def T9 : Tab := tabL tl9 noCh
end Go.Proofs.YtidpllnmghgomaaDoor.X
