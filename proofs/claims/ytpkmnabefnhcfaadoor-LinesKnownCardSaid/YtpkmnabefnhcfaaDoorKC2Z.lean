/-
  The closed law of the lines.
-/
import Derived.Test.YtpkmnabefnhcfaaDoorKO2Z
set_option maxRecDepth 1000000
set_option linter.unusedVariables false
set_option linter.unusedSimpArgs false
namespace Go.Proofs.YtpkmnabefnhcfaaDoor.X
open Go Go.Ab

theorem ct5 : CtOk Tryd.prog G 5 e5 := by
  intro args r h hp
  unfold e5 at h
  split at h <;> cases h
  exact law5 _ _ _ _
theorem ct6 : CtOk Tryd.prog G 6 e6 := by
  intro args r h hp
  unfold e6 at h
  split at h <;> cases h
  exact law6 _ _ _ _
theorem ct7 : CtOk Tryd.prog G 7 e7 := by
  intro args r h hp
  unfold e7 at h
  split at h <;> cases h
  exact law7 _ _ _
theorem ct8 : CtOk Tryd.prog G 8 e8 := by
  intro args r h hp
  unfold e8 at h
  split at h <;> cases h
  exact law8 _ _ _ _ _ _ hp.1 hp.2.1 hp.2.2
theorem ct9 : CtOk Tryd.prog G 9 e9 := by
  intro args r h hp
  unfold e9 at h
  split at h <;> cases h
  exact sp9 _ _ _ hp
theorem TZok : TabOk Tryd.prog G TZ := tabL_ok noCh_ok ⟨ct3, ct4, ct5, ct6, ct7, ct8, ct9, ct16, ct25, ct26, ct30, trivial⟩
theorem wrap8 (n : Int) : 0 ≤ IntKind.u8.wrap n ∧ IntKind.u8.wrap n ≤ 255 := by
  have : IntKind.u8.wrap n = n % 256 := rfl
  rw [this]
  omega
theorem inR_i8' {n : Int} : inR .i8 n = true ↔ (-128 ≤ n ∧ n ≤ 127) := by
  simp only [inR, decide_eq_true_eq]
  rw [show IntKind.i8.min = -128 from rfl, show IntKind.i8.max = 127 from rfl]
theorem sp10 : SpecP Tryd.prog G 10 [] (.bool true) [] := by
  refine fnP_spec hcm hmx TZok ok10 rfl ob_o10 ?_
  refine ⟨rfl, rfl, ⟨0, rfl, by omega, by decide, by decide⟩, ?_⟩
  rintro ⟨k, n⟩ ⟨m, hm, h1, h2, h3⟩
  simp only at hm h2 h3 ⊢
  subst hm
  obtain ⟨w0, w1⟩ := wrap8 (k.tdiv 7)
  have d3 : k.tdiv 3 = k / 3 := Int.tdiv_eq_ediv_of_nonneg h2
  have d7 : k.tdiv 7 = k / 7 := Int.tdiv_eq_ediv_of_nonneg h2
  have d11 : k.tdiv 11 = k / 11 := Int.tdiv_eq_ediv_of_nonneg h2
  have m100 : k.tmod 100 = k % 100 := Int.tmod_eq_emod_of_nonneg h2
  have m50 : k.tmod 50 = k % 50 := Int.tmod_eq_emod_of_nonneg h2
  have m9 : k.tmod 9000 = k % 9000 := Int.tmod_eq_emod_of_nonneg h2
  have m6 : (m : Int).tmod 6 = (m : Int) % 6 := Int.tmod_eq_emod_of_nonneg (by omega)
  have dm : (k * 31 + 7 * m + 11).tmod 100003 = (k * 31 + 7 * m + 11) % 100003 := Int.tmod_eq_emod_of_nonneg (by omega)
  have mn : (0 - k.tdiv 3).tmod 100 = -((k / 3) % 100) := by
    rw [d3, Int.zero_sub, Int.neg_tmod, Int.tmod_eq_emod_of_nonneg (by omega)]
  generalize IntKind.u8.wrap (k.tdiv 7) = w at *
  rw [mn]
  simp only [d3, d7, d11, m100, m50, m9, m6, dm, ltb_iff, ltb_no, inR_i64, inR_u8, inR_i8', Int.toNat_natCast, iI]
  refine ⟨fun hlt => ?_, fun _ => by decide⟩
  and_intros
  all_goals first | omega | trivial | exact ⟨m + 1, by omega, by omega, by omega, by omega⟩
end Go.Proofs.YtpkmnabefnhcfaaDoor.X
