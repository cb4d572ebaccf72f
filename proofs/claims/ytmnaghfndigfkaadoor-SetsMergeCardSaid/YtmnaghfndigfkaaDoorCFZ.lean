/-
 The law on union and common cells in other orders.
-/
import Derived.Test.YtmnaghfndigfkaaDoorCEZ
import Derived.Test.YtmnaghfndigfkaaDoorODZ
set_option maxRecDepth 1000000
set_option linter.unusedVariables false
set_option linter.unusedSimpArgs false
namespace Go.Proofs.YtmnaghfndigfkaaDoor.X
open Go Go.Ab

theorem okM_okL {n : Nat} {l : List Cl} (h : okM n l) (hn : n ≤ 1024) : okL (flatK l) l.length := okL_flat (by have := h.2.2; omega)
theorem okM_four (f : Nat) {n m : Nat} {a b : List Cl} (ha : okM n a) (hb : okM m b) (h : n + m ≤ 1024) : okL (flatK a) a.length ∧ okL (flatK b) b.length ∧ okS a ∧ okS b ∧ (mrg f a b).length ≤ 1024 :=
 ⟨okM_okL ha (by omega), okM_okL hb (by omega), okM_S ha (by omega), okM_S hb (by omega), Nat.le_trans (okM_mrg f ha hb).2.2 h⟩
end Go.Proofs.YtmnaghfndigfkaaDoor.X
