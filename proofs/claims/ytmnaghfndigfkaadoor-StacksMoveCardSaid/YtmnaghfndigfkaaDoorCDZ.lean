/-
 The contracts of the merging loop, and of the functions above it.
-/
import Derived.Test.YtmnaghfndigfkaaDoorCCZ
set_option maxRecDepth 1000000
set_option linter.unusedVariables false
set_option linter.unusedSimpArgs false
namespace Go.Proofs.YtmnaghfndigfkaaDoor.X
open Go Go.Ab

theorem k0 {l:List Cl}(h:0<l.length):(flatK l)[0]? =some (.int .i64 (kX l 0))∧(flatK l)[1]? =some (.int .i64 (kY l 0))∧(flatK l)[2]? =some (.int .u8 (kQ l 0)):=by
 cases l with
 |nil=>simp at h
 |cons c r=>exact⟨rfl,rfl,rfl⟩
end Go.Proofs.YtmnaghfndigfkaaDoor.X
