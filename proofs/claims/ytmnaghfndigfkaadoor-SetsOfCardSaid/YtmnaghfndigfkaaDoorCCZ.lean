/-
 The contracts of union, common cells and difference.
-/
import Derived.Test.YtmnaghfndigfkaaDoorCBZ
import Derived.Test.YtmnaghfndigfkaaDoorOCZ
set_option maxRecDepth 1000000
set_option linter.unusedVariables false
set_option linter.unusedSimpArgs false
namespace Go.Proofs.YtmnaghfndigfkaaDoor.X
open Go Go.Ab

theorem ct99 : CtOk Tryd.prog G 99 e99 := by
 intro args r h hp
 unfold e99 at h
 split at h <;> cases h
 obtain ⟨h1, h2, hz⟩ := hp
 generalize unK _ = l at *
 subst h1 h2
 refine (fnP_spec hcm hmx T0ok ok99 rfl (ob_o99 l) ?_ : SpecP Tryd.prog G 99 [cls l] _ []).caps
 simp [flatK_len, Cont.size]
end Go.Proofs.YtmnaghfndigfkaaDoor.X
