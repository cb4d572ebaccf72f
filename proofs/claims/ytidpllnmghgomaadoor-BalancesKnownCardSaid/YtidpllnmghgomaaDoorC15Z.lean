/-
  The closed law.
-/
import Derived.Test.YtidpllnmghgomaaDoorO11Z
import Derived.Test.YtidpllnmghgomaaDoorC12Z
import Derived.Test.YtidpllnmghgomaaDoorC14Z
set_option maxRecDepth 1000000
set_option linter.unusedVariables false
set_option linter.unusedSimpArgs false
namespace Go.Proofs.YtidpllnmghgomaaDoor.X
open Go Go.Ab

theorem ctLaw {f : Nat} (h : ∀ c l ks, okK ks → SpecP Tryd.prog G f [fV c l ks] (.bool true) []) : CtOk Tryd.prog G f eLaw := by
  intro args r hr hp
  unfold eLaw at hr
  split at hr <;> cases hr
  obtain ⟨rfl, hk⟩ := hp
  exact (h _ _ _ hk).caps
theorem ctLaw7 : CtOk Tryd.prog G 7 eLaw7 := by
  intro args r hr hp
  unfold eLaw7 at hr
  split at hr <;> cases hr
  obtain ⟨rfl, hk, h0, h1⟩ := hp
  exact (sp7 _ _ _ _ hk ⟨h0, h1⟩).caps
theorem TKok : TabOk Tryd.prog G TK := tabL_ok noCh_ok ⟨ctLaw sp3, ctLaw sp4, ctLaw sp5, ctLaw7, ct14, trivial⟩
theorem wrap8 (n : Int) : 0 ≤ IntKind.u8.wrap n ∧ IntKind.u8.wrap n ≤ 255 := by
  have : IntKind.u8.wrap n = n % 256 := rfl
  rw [this]
  omega
theorem sp8 : SpecP Tryd.prog G 8 [] (.bool true) [] := by
  refine fnP_spec hcm hmx TKok ok8 rfl ob_o8 ?_
  simp only [ltb_iff, ltb_no, leb_iff, leb_no, ltn_iff, ltn_no, len'_iff, len'_no, inR_i64, inR_u8, inR_i32, size_ints, size_bools, size_vals, size_cells, getD_drop, List.getElem?_drop, beq_iff_eq, beq_eq_false_iff_ne, bne_iff_ne, bne_eq_false_iff_eq, ne_eq, Nat.zero_add, Nat.add_zero, Nat.mul_one, Int.toNat_natCast, and_true, true_and, List.length_drop, List.length_append, List.length_cons, List.length_nil, List.length_set, List.getD_eq_getElem?_getD, implies_true, iI, iL, Bool.not_eq_true', Bool.not_eq_false', Int.natCast_inj]
  refine ⟨⟨0, rfl, by omega, by decide, by decide⟩, ?_⟩
  rintro ⟨k, n⟩ ⟨m, hm, h1, h2, h3⟩
  simp only at hm h2 h3 ⊢
  subst hm
  have hok : okK [IntKind.u8.wrap k, IntKind.u8.wrap (k.tdiv 3), IntKind.u8.wrap (k.tdiv 7), IntKind.u8.wrap (k.tdiv 11), IntKind.u8.wrap m] := by
    intro x hx
    simp only [List.mem_cons, List.not_mem_nil, or_false] at hx
    rcases hx with rfl | rfl | rfl | rfl | rfl <;> exact wrap8 _
  have hw := wrap8 k
  have d3 : k.tdiv 3 = k / 3 := Int.tdiv_eq_ediv_of_nonneg h2
  have d7 : k.tdiv 7 = k / 7 := Int.tdiv_eq_ediv_of_nonneg h2
  have d11 : k.tdiv 11 = k / 11 := Int.tdiv_eq_ediv_of_nonneg h2
  have dm : (k * 31 + 11).tmod 100003 = (k * 31 + 11) % 100003 := Int.tmod_eq_emod_of_nonneg (by omega)
  simp only [hok, dm]
  rw [d3, d7, d11]
  simp only [Int.toNat_natCast]
  refine fun hlt => ⟨by omega, by omega, by omega, trivial, fun e => ⟨trivial, trivial, ⟨trivial, hw⟩, by omega, by omega, by omega, ⟨m + 1, by omega, by omega, by omega, by omega⟩, by omega⟩, fun e => ⟨by omega, by omega, by omega, ⟨m + 1, by omega, by omega, by omega, by omega⟩, by omega⟩⟩
end Go.Proofs.YtidpllnmghgomaaDoor.X
