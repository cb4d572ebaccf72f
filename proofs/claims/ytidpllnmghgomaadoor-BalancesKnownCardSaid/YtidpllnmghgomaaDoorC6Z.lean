/-
  The contract of AppendSeq over the sharp angles.
-/
import Derived.Test.YtidpllnmghgomaaDoorO4Z
import Derived.Test.YtidpllnmghgomaaDoorC5Z
set_option maxRecDepth 1000000
set_option linter.unusedVariables false
set_option linter.unusedSimpArgs false
namespace Go.Proofs.YtidpllnmghgomaaDoor.X
open Go Go.Ab

theorem ch38ok : ChOk Tryd.prog G ch38 := by
  intro h cv args r hr hp
  unfold ch38 at hr
  split at hr
  · rename_i f id a n k m
    rw [cond_eq_ite] at hr
    split at hr
    · rename_i hid
      rw [Bool.and_eq_true] at hid
      cases hr
      obtain ⟨rfl, rfl, rfl, hk, hl⟩ := hp
      have h1 := Nat.eq_of_beq_eq_true hid.1
      have h2 := Nat.eq_of_beq_eq_true hid.2
      subst h1 h2
      exact sp38 _ _ hk hl
    · cases hr
  · cases hr
theorem TSok : TabOk Tryd.prog G TS := tabL_ok ch38ok trivial
theorem sp37 (a k : List Int) (hk : a.length = k.length) (hl : a.length < 1000000000000) : SpecP Tryd.prog G 37 [.nils, .fn 38 [] [.iptr (fanC a k)]] (.imm (.ints .i64 (shps a k)) (shps a k).length none) [] := by
  refine fnP_spec hcm hmx TSok ok37 rfl (ob_o37 a k) ?_
  simp [hk, hl]
  omega
end Go.Proofs.YtidpllnmghgomaaDoor.X
