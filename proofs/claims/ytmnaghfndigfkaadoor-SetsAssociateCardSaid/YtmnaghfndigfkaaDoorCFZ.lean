/-
 The law on union and common cells in other orders.
-/
import Derived.Test.YtmnaghfndigfkaaDoorCEZ
import Derived.Test.YtmnaghfndigfkaaDoorODZ
set_option maxRecDepth 1000000
set_option linter.unusedVariables false
set_option linter.unusedSimpArgs false
namespace Go.Proofs.YtmnaghfndigfkaaDoor.X
open Go Go.Ab

theorem TD8ok : TabOk Tryd.prog G TD8 := tabL_ok noCh_ok ⟨ct31, ct32, ct33, ct34, ct35, ct37, trivial⟩
theorem okM_okL {n : Nat} {l : List Cl} (h : okM n l) (hn : n ≤ 1024) : okL (flatK l) l.length := okL_flat (by have := h.2.2; omega)
theorem okM_four (f : Nat) {n m : Nat} {a b : List Cl} (ha : okM n a) (hb : okM m b) (h : n + m ≤ 1024) : okL (flatK a) a.length ∧ okL (flatK b) b.length ∧ okS a ∧ okS b ∧ (mrg f a b).length ≤ 1024 :=
 ⟨okM_okL ha (by omega), okM_okL hb (by omega), okM_S ha (by omega), okM_S hb (by omega), Nat.le_trans (okM_mrg f ha hb).2.2 h⟩
theorem eq_bI {a b : List Cl} (h : a = b) : (bI (Nat.beq a.length a.length && eqLC a b) 1 0 == 1) = true := by
 rw [bI_eq, Nat.beq_refl, eqLC_iff.2 h]; rfl
theorem un_assoc {a b c : List Cl} (ha : Srt a) (hb : Srt b) (hc : Srt c) : mrg 89 (mrg 89 a b) c = mrg 89 a (mrg 89 b c) := by
 refine srt_ext (mrg_srt _ (mrg_srt _ ha hb) hc) (mrg_srt _ ha (mrg_srt _ hb hc)) fun x => ?_
 rw [mem_un (mrg_srt _ ha hb) hc, mem_un ha hb, mem_un ha (mrg_srt _ hb hc), mem_un hb hc, or_assoc]
theorem in_assoc {a b c : List Cl} (ha : Srt a) (hb : Srt b) (hc : Srt c) : mrg 90 (mrg 90 a b) c = mrg 90 a (mrg 90 b c) := by
 refine srt_ext (mrg_srt _ (mrg_srt _ ha hb) hc) (mrg_srt _ ha (mrg_srt _ hb hc)) fun x => ?_
 rw [mem_in (mrg_srt _ ha hb) hc, mem_in ha hb, mem_in ha (mrg_srt _ hb hc), mem_in hb hc, and_assoc]
theorem sp8 (l1 l2 l3 : List Cl) (h1 : rawP l1) (h2 : rawP l2) (h3 : rawP l3) : SpecP Tryd.prog G 8 [.agg [rwS l1, rwS l2, rwS l3]] (.bool true) [] := by
 refine fnP_spec hcm hmx TD8ok ok8 rfl (ob_o8 l1 l2 l3) ?_
 simp only [unK_flat, unS_flat, and_true, true_and]
 have a := okM_sOf h1
 have b := okM_sOf h2
 have c := okM_sOf h3
 generalize sOf l1 = x at *
 generalize sOf l2 = y at *
 generalize sOf l3 = z at *
 have ab := okM_mrg 89 a b
 have bc := okM_mrg 89 b c
 have ab' := okM_mrg 90 a b
 have bc' := okM_mrg 90 b c
 exact ⟨h1, h2, h3, okM_four 89 a b (by decide), okM_four 89 b c (by decide), okM_four 89 ab c (by decide), okM_four 89 a bc (by decide), okM_four 90 a b (by decide), okM_four 90 b c (by decide), okM_four 90 ab' c (by decide), okM_four 90 a bc' (by decide),
  ⟨okM_okL (okM_mrg 89 ab c) (by decide), okM_okL (okM_mrg 89 a bc) (by decide)⟩, eq_bI (un_assoc a.1 b.1 c.1), ⟨okM_okL (okM_mrg 90 ab' c) (by decide), okM_okL (okM_mrg 90 a bc') (by decide)⟩, eq_bI (in_assoc a.1 b.1 c.1)⟩
end Go.Proofs.YtmnaghfndigfkaaDoor.X
