/-
 The move that moves nothing: the contracts.
-/
import Derived.Test.YtmnaghfndigfkaaDoorONZ
import Derived.Test.YtmnaghfndigfkaaDoorCSZ
import Derived.Test.YtmnaghfndigfkaaDoorCKZ
import Derived.Test.YtmnaghfndigfkaaDoorPCZ
set_option maxRecDepth 1000000
set_option linter.unusedVariables false
set_option linter.unusedSimpArgs false
namespace Go.Proofs.YtmnaghfndigfkaaDoor.X
open Go Go.Ab

theorem flatK_set : ∀ (R : List Cl) (n : Nat) (c : Cl), n < R.length → (((flatK R).set (n * 3) (.int .i64 c.1)).set (n * 3 + 1) (.int .i64 c.2.1)).set (n * 3 + 1 + 1) (.int .u8 c.2.2) = flatK (R.set n c)
 | [], n, c, h => by simp at h
 | a :: r, 0, c, h => by
  rw [List.set_cons_zero, flatK_cons, flatK_cons]; rfl
 | a :: r, n + 1, c, h => by
  have ih := flatK_set r n c (by simpa using h)
  rw [List.set_cons_succ, flatK_cons, flatK_cons, ← ih]
  rw [show (n + 1) * 3 = n * 3 + 1 + 1 + 1 by omega]
  simp only [List.set_cons_succ]
theorem zeroK : ∀ n : Nat, repL [AV.int .i64 0, AV.int .i64 0, AV.int .u8 0] n = flatK (List.replicate n (0, 0, 0))
 | 0 => rfl
 | n + 1 => by
  rw [List.replicate_succ, flatK_cons, ← zeroK n]; rfl
end Go.Proofs.YtmnaghfndigfkaaDoor.X
