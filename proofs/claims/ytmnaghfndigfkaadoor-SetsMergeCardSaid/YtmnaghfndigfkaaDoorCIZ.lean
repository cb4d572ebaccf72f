/-
 The law on merging.
-/
import Derived.Test.YtmnaghfndigfkaaDoorCHZ
import Derived.Test.YtmnaghfndigfkaaDoorOFZ
set_option maxRecDepth 1000000
set_option linter.unusedVariables false
set_option linter.unusedSimpArgs false
namespace Go.Proofs.YtmnaghfndigfkaaDoor.X
open Go Go.Ab

theorem TD7ok : TabOk Tryd.prog G TD7 := tabL_ok noCh_ok ⟨ct31, ct32, ct33, ct34, ct35, ct36, ct37, trivial⟩
theorem eqLC_self (l : List Cl) : eqLC l l = true := eqLC_iff.2 rfl
theorem bI_t : bI true 1 0 = 1 := rfl
theorem sp7 (l1 l2 : List Cl) (h1 : rawP l1) (h2 : rawP l2) : SpecP Tryd.prog G 7 [rwS l1, rwS l2] (.bool true) [] := by
 refine fnP_spec hcm hmx TD7ok ok7 rfl (ob_o7 l1 l2) ?_
 simp only [unS_flat, and_true, true_and]
 have a := okM_sOf h1
 have b := okM_sOf h2
 generalize sOf l1 = x at *
 generalize sOf l2 = y at *
 have hu := okM_mrg 89 a b
 have hc := okM_mrg 90 a b
 have hm := okM_mrg 91 a b
 have la : x.length ≤ 40 := a.2.2
 have lb : y.length ≤ 40 := b.2.2
 have lu := hu.2.2
 have lc := hc.2.2
 have h89 := okM_four 89 a b (by decide)
 have h90 := okM_four 90 a b (by decide)
 have h91 := okM_four 91 a b (by decide)
 have hcm' := okM_four 89 hc hm (by decide)
 have hcnt : (mrg 89 x y).length + (mrg 90 x y).length = x.length + y.length := mrg_count _ x y (Nat.le_refl _)
 refine ⟨⟨h1, h2⟩, ?_⟩
 rintro ⟨a', b', n', m'⟩ ⟨e1, e2, e3, e4⟩
 simp only at e1 e2 e3 e4
 subst e1 e2 e3 e4
 simp only [unK_flat, and_true, true_and]
 refine ⟨h89, h90, h91, ?_⟩
 rintro ⟨u', c', d', p', q', r'⟩ ⟨⟨f1, f2⟩, ⟨f3, f4⟩, f5, f6⟩
 simp only at f1 f2 f3 f4 f5 f6
 subst f1 f2 f3 f4 f5 f6
 simp only [unK_flat, ← wh14 a.1 b.1, ← wh8 a.1 b.1, ← wh2 a.1 b.1, un_comm a.1 b.1, in_comm a.1 b.1, parts a.1 b.1, Nat.beq_refl, eqLC_self, Bool.and_self, Bool.and_true, Bool.true_and, bI_t, and_true, true_and]
 have ka := okM_okL a (by decide)
 have kb := okM_okL b (by decide)
 have ku := okM_okL hu (by decide)
 have kc := okM_okL hc (by decide)
 have km := okM_okL hm (by decide)
 have kl : (x ++ y).length < 1000000 := by rw [List.length_append]; omega
 rw [parts a.1 b.1] at hcm'
 refine ⟨⟨ka, kb, kl⟩, ⟨ku, ku⟩, by decide, ⟨ka, kb, kl⟩, ⟨kc, kc⟩, by decide, ⟨ka, kb, kl⟩, ⟨km, km⟩, by decide, ?_, ?_, ?_, ?_⟩
 ·exact ⟨kb, ka, h89.2.2.2.1, h89.2.2.1, h89.2.2.2.2⟩
 ·exact ⟨kb, ka, h90.2.2.2.1, h90.2.2.1, h90.2.2.2.2⟩
 ·exact hcm'
 rintro ⟨u', c', d', p', q', r'⟩ ⟨⟨f1, f2⟩, ⟨f3, f4⟩, f5, f6⟩ k _
 simp only at f1 f2 f3 f4 f5 f6
 subst f1 f2 f3 f4 f5 f6
 simp only [unK_flat, Nat.beq_refl, eqLC_self, Bool.and_self, Bool.and_true, Bool.true_and, bI_t, and_true, true_and, inR_i64, ltb_iff, beq_iff_eq]
 have hb : 0 ≤ bI (Nat.beq k x.length) 1 0 ∧ bI (Nat.beq k x.length) 1 0 ≤ 1 := by cases Nat.beq k x.length <;> decide
 refine ⟨⟨ku, ku⟩, ⟨kc, kc⟩, ⟨ka, ka⟩, ⟨ka, ka⟩, ?_, ?_, ?_, ?_, ?_⟩ <;> omega
end Go.Proofs.YtmnaghfndigfkaaDoor.X
