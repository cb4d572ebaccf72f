/-
 Cones: the laws of valid orders and of errors.
-/
import Derived.Test.YthiammkiobbclaaGreatDoorO12Z
import Derived.Test.YthiammkiobbclaaGreatDoorC11Z
import Derived.Test.YthiammkiobbclaaGreatDoorTVZ
set_option maxRecDepth 1000000
set_option linter.unusedVariables false
set_option linter.unusedSimpArgs false
namespace Go.Proofs.YthiammkiobbclaaGreatDoor.X
open Go Go.Ab

/-! ### Orders as plain data -/
theorem rem_perm {l : List Int} {k : Int} (h0 : 0 ≤ k) (h1 : k < l.length) : l.Perm (gR l k :: remL l k) := by
 have hk : k.toNat < l.length := by omega
 unfold gR remL
 rw [List.getElem?_eq_getElem hk, show (k + 1).toNat = k.toNat + 1 by omega]
 have e : l = l.take k.toNat ++ l[k.toNat] :: l.drop (k.toNat + 1) := by
  rw [← List.drop_eq_getElem_cons hk, List.take_append_drop]
 conv => lhs; rw [e]
 exact List.perm_middle
theorem oxR_perm {x : List Int} (hx : ∀ y ∈ x, 0 ≤ y ∧ y < 256) : ∀ (f i : Nat) (l : List Int), l.length = f → (oxR x f i l).Perm l
 | 0, i, l, h => by rw [List.length_eq_zero_iff.1 h]; exact List.Perm.refl _
 | f + 1, i, l, h => by
  have hk := pkX_ok hx (i := i) (n := l.length) (by omega)
  have hp := rem_perm hk.1 hk.2
  have hr := remL_len hk.1 hk.2
  have ih := oxR_perm hx f (i + 1) (remL l (pkX x i l.length)) (by omega)
  rw [oxR]
  rw [show ((i + 1 : Nat) : Int) = (i : Int) + 1 by omega] at ih
  exact (List.Perm.cons _ ih).trans hp.symm
theorem ox_perm {x : List Int} (hx : ∀ y ∈ x, 0 ≤ y ∧ y < 256) (n : Nat) : (oxL x n).Perm (idO n) := oxR_perm hx n 0 (idN n) (idN_len n)
/-! ### Valid orders -/
theorem ofE_14 {a k : List Int} (hc : chk a k = 0) (h : altS a k = false) : ofE a k = 14 := by
 unfold ofE
 rw [if_pos hc, if_neg]
 intro hb
 rw [altS_iff.2 ⟨hc, hb⟩] at h; cases h
theorem lst_no {a k o : List Int} (h : ofE a k ≠ 0) : lstE a k o = ofE a k := by unfold lstE; rw [if_neg h]
theorem vld_no {a k o : List Int} (h : lstE a k o ≠ 0) : vldE a k o = lstE a k o := by unfold vldE; rw [if_neg h]
theorem T6ok : TabOk Tryz.prog G T6 := tabL_ok noCh_ok ⟨ct25, ctc25, ctc26, ctc27, ctc13, ctc28, ct24, ctc14, ct11t, trivial⟩
theorem sp6 (c l : Int) (ks ys : List Int) (hk : okK ks) (hy : ∀ y ∈ ys, 0 ≤ y ∧ y < 256) : SpecP Tryz.prog G 6 [fV c l ks, .imm (.ints .u8 ys) ys.length none] (.bool true) [] := by
 refine fnP_spec hcm hmx T6ok ok6 rfl (ob_o6 c l ks ys) ?_
 dsimp -failIfUnchanged -proj -eta -iota -zeta only
 obtain ⟨h1, h2, h3, h4⟩ := of_ok (c := c) (l := l) hk
 have hc := of_chk (c := c) (l := l) hk
 generalize ofA c l ks = a at *
 generalize ofK c ks = k at *
 have hrl := raysL_len a
 have hp := ox_perm hy a.length
 have hpl := perm_len hp
 simp only [Int.toNat_natCast, and_true, true_and, size_ints, len'_iff, decide_eq_true_eq, beq_iff_eq, Bool.not_eq_false', Bool.not_eq_true']
 refine ⟨hk, ⟨hy, by omega, by omega⟩, by omega, ⟨by omega, by omega⟩, fun h => ?_, fun h => ?_⟩
 ·have e1 : ∀ l, bLs true l = l := fun l => rfl
  rw [h]
  simp only [e1, and_true, true_and]
  refine ⟨by omega, ofE_0 h, h3, by omega, ⟨by rw [List.length_take]; omega, by rw [List.length_take]; omega⟩, ⟨h3, h1, hp⟩, vld_chk h hp⟩
 ·have e2 : ∀ l, bLs false l = [] := fun l => rfl
  have e3 := ofE_14 hc h
  have e4 : lstE a k (oxL ys a.length) = 14 := by rw [lst_no (by omega), e3]
  have e5 : vldE a k (oxL ys a.length) = 14 := by rw [vld_no (by omega), e4]
  rw [h]
  simp only [e2, and_true, true_and]
  exact ⟨by omega, e3, rfl, e5⟩
end Go.Proofs.YthiammkiobbclaaGreatDoor.X
