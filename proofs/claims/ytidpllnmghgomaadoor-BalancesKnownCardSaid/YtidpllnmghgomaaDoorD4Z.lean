/-
  What the functions of the balances compute: sharp angles, collected.
-/
import Derived.Test.YtidpllnmghgomaaDoorD3Z
set_option maxRecDepth 1000000
set_option linter.unusedVariables false
namespace Go.Proofs.YtidpllnmghgomaaDoor.X
open Go Go.Ab

/-- The sharp angles of a captured fan, over AppendSeq's heap. -/
noncomputable def ch38 (h : List (Nat × HO)) (cv : AV) (args : List AV) : Option Cx :=
  match cv, args with
  | .fn f [] [], [.yld id, .iptr (.vals [.imm (.ints .i64 a) n none, .imm (.ints .u8 k) m none])] => cond (Nat.beq f 38 && Nat.beq id 9002) (some ⟨.tup [], [(64, box37 (shps a k).length), (9001, .blk (blkI (shps a k)))], some (h = H37e a k ∧ n = a.length ∧ m = k.length ∧ a.length = k.length ∧ a.length < 1000000000000)⟩) none
  | _, _ => none
noncomputable def TS : Tab := tabL [] ch38
end Go.Proofs.YtidpllnmghgomaaDoor.X
