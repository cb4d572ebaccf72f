/-
  The contracts of numbers formatted.
-/
import Derived.Test.YtpkmnabefnhcfaaDoorTO2Z
import Derived.Test.YtpkmnabefnhcfaaDoorTC1Z
set_option maxRecDepth 1000000
set_option linter.unusedVariables false
set_option linter.unusedSimpArgs false
namespace Go.Proofs.YtpkmnabefnhcfaaDoor.X
open Go Go.Ab

theorem tab8_le : ∀ n : Nat, n < 256 → (decide ((tab8.getD n 0).toNat ≤ 8)) = true := by decide +kernel
theorem l8_le (n : Int) (h0 : 0 ≤ n) (h1 : n < 256) : 0 ≤ l8 n ∧ l8 n ≤ 8 := by
  have := of_decide_eq_true (tab8_le n.toNat (by omega))
  unfold l8; omega
theorem sp66 (u : Int) (h0 : 0 ≤ u) (h1 : u < 65536) : SpecP Tryd.prog G 66 [.int .u64 u] (.int .i64 (len64 u)) [] := by
  refine fnP_spec hcm hmx T330 ok66 rfl (ob_o66 u) ?_
  have e : u.fdiv 256 = u / 256 := Int.fdiv_eq_ediv_of_nonneg u (by decide)
  simp only [ltb_iff, ltb_no, leb_iff, leb_no, ltn_iff, ltn_no, len'_iff, len'_no, inR_i64, inR_u8, inR_i32, size_ints, size_bools, size_vals, size_cells, getD_drop, List.getElem?_drop, beq_iff_eq, beq_eq_false_iff_ne, bne_iff_ne, bne_eq_false_iff_eq, ne_eq, Nat.zero_add, Nat.add_zero, Nat.mul_one, Int.toNat_natCast, and_true, true_and, List.length_drop, List.length_append, List.length_cons, List.length_nil, List.length_set, List.getD_eq_getElem?_getD, implies_true, iI, iL, Bool.not_eq_true', Bool.not_eq_false', Int.natCast_inj, e]
  refine ⟨by omega, by omega, fun h => ?_, fun h => ?_⟩
  · have hl := l8_le (u / 256) (by omega) (by omega)
    unfold l8 at hl
    rw [List.getD_eq_getElem?_getD] at hl
    refine ⟨by omega, by omega, by omega, by omega, by omega, ?_⟩
    unfold len64 l8
    rw [if_pos h, List.getD_eq_getElem?_getD]
  · have hl := l8_le u (by omega) (by omega)
    unfold l8 at hl
    rw [List.getD_eq_getElem?_getD] at hl
    refine ⟨by omega, by omega, by omega, by omega, by omega, ?_⟩
    unfold len64 l8
    rw [if_neg (by omega), List.getD_eq_getElem?_getD]; omega
theorem sp65 (x : Int) (h0 : 0 ≤ x) (h1 : x ≤ 64) : SpecP Tryd.prog G 65 [.int .i64 x] (.int .i64 (x * 78913 / 262144)) [] := by
  refine fnP_spec hcm hmx T330 ok65 rfl (ob_o65 x) ?_
  have e : (x * 78913).fdiv 262144 = x * 78913 / 262144 := Int.fdiv_eq_ediv_of_nonneg _ (by decide)
  simp only [ltb_iff, ltb_no, leb_iff, leb_no, ltn_iff, ltn_no, len'_iff, len'_no, inR_i64, inR_u8, inR_i32, size_ints, size_bools, size_vals, size_cells, getD_drop, List.getElem?_drop, beq_iff_eq, beq_eq_false_iff_ne, bne_iff_ne, bne_eq_false_iff_eq, ne_eq, Nat.zero_add, Nat.add_zero, Nat.mul_one, Int.toNat_natCast, and_true, true_and, List.length_drop, List.length_append, List.length_cons, List.length_nil, List.length_set, List.getD_eq_getElem?_getD, implies_true, iI, iL, Bool.not_eq_true', Bool.not_eq_false', Int.natCast_inj, e]
  omega
theorem sp67 (b : Bool) : SpecP Tryd.prog G 67 [.bool b] (.int .i64 (bI b 1 0)) [] := by
  refine fnP_spec hcm hmx T330 ok67 rfl (ob_o67 b) ?_
  cases b <;> simp [bI]
theorem T61ok : TabOk Tryd.prog G T61 := tabL_ok noCh_ok ⟨fun args r h hp => by
  unfold e66 at h
  split at h <;> cases h
  obtain ⟨g1, g2⟩ := hp
  exact sp66 _ g1 g2, fun args r h hp => by
  unfold e65 at h
  split at h <;> cases h
  obtain ⟨g1, g2⟩ := hp
  exact sp65 _ g1 g2, fun args r h hp => by
  unfold e67 at h
  split at h <;> cases h
  exact sp67 _, trivial⟩
theorem len64_le (u : Int) (h0 : 0 ≤ u) (h1 : u < 65536) : 0 ≤ len64 u ∧ len64 u ≤ 16 := by
  unfold len64
  split
  · have := l8_le (u / 256) (by omega) (by omega); omega
  · have := l8_le u h0 (by omega); omega
theorem sp61 (u : Int) (h0 : 0 ≤ u) (h1 : u < 10000) : SpecP Tryd.prog G 61 [.int .u64 u] (.int .i64 (ndg u)) [] := by
  refine fnP_spec hcm hmx T61ok ok61 rfl (ob_o61 u) ?_
  have hl := len64_le u h0 (by omega)
  have hn : ndg u = lg u + bI (leb (powT.getD (lg u).toNat 0) u) 1 0 := rfl
  have hb : ∀ b : Bool, 0 ≤ bI b 1 0 ∧ bI b 1 0 ≤ 1 := fun b => by cases b <;> simp [bI]
  unfold lg at hn
  simp only [ltb_iff, ltb_no, leb_iff, leb_no, ltn_iff, ltn_no, len'_iff, len'_no, inR_i64, inR_u8, inR_i32, size_ints, size_bools, size_vals, size_cells, getD_drop, List.getElem?_drop, beq_iff_eq, beq_eq_false_iff_ne, bne_iff_ne, bne_eq_false_iff_eq, ne_eq, Nat.zero_add, Nat.add_zero, Nat.mul_one, Int.toNat_natCast, and_true, true_and, List.length_drop, List.length_append, List.length_cons, List.length_nil, List.length_set, List.getD_eq_getElem?_getD, implies_true, iI, iL, Bool.not_eq_true', Bool.not_eq_false', Int.natCast_inj]
  have hl2 : powT.length = 20 := rfl
  have hb' := hb (leb (powT.getD (len64 u * 78913 / 262144).toNat 0) u)
  rw [List.getD_eq_getElem?_getD] at hb' hn
  refine ⟨⟨h0, by omega⟩, ⟨by omega, by omega⟩, by omega, by omega, ?_, ?_, hn.symm⟩
  · show 0 < powT.length - _
    omega
  · exact ⟨by omega, by omega⟩
def ndgC (b : Nat) : Bool := (List.range 100).all fun j => decide (b * 100 + j = 0) || decide (ndg ((b * 100 + j : Nat) : Int) = (decN ((b * 100 + j : Nat) : Int)).length)
theorem ndg_B : ∀ b : Nat, b < 100 → ndgC b = true := by decide +kernel
theorem ndg_eq (u : Int) (h0 : 1 ≤ u) (h1 : u < 10000) : ndg u = (decN u).length := by
  obtain ⟨m, rfl⟩ : ∃ m : Nat, u = m := ⟨u.toNat, (Int.toNat_of_nonneg (by omega)).symm⟩
  have := ndg_B (m / 100) (by omega)
  unfold ndgC at this
  rw [List.all_eq_true] at this
  have := this (m % 100) (by simp; omega)
  rw [show m / 100 * 100 + m % 100 = m by omega, decide_eq_false (by omega), Bool.false_or] at this
  exact of_decide_eq_true this
theorem tabS_B : ∀ q : Nat, q < 100 → (decide (((tabS.getD (q * 2) 0).toNat : Int) = 48 + q / 10) && decide (((tabS.getD (q * 2 + 1) 0).toNat : Int) = 48 + q % 10)) = true := by decide +kernel
theorem tabS_hi (q : Int) (h0 : 0 ≤ q) (h1 : q < 100) : ((tabS[(q * 2).toNat]?.getD 0).toNat : Int) = 48 + q / 10 ∧ ((tabS[(q * 2 + 1).toNat]?.getD 0).toNat : Int) = 48 + q % 10 := by
  obtain ⟨m, rfl⟩ : ∃ m : Nat, q = m := ⟨q.toNat, (Int.toNat_of_nonneg h0).symm⟩
  have := tabS_B m (by omega)
  rw [Bool.and_eq_true] at this
  have e1 := of_decide_eq_true this.1
  have e2 := of_decide_eq_true this.2
  rw [List.getD_eq_getElem?_getD] at e1 e2
  rw [show ((m : Int) * 2).toNat = m * 2 by omega, show ((m : Int) * 2 + 1).toNat = m * 2 + 1 by omega]
  exact ⟨e1, e2⟩
theorem dg_nat (n : Int) (h0 : 0 ≤ n) (h1 : n ≤ 9) : ((dg n).toNat : Int) = 48 + n := by
  unfold dg
  rw [UInt8.toNat_ofNat']
  omega
theorem w1 {u : Int} (h0 : 0 ≤ u) (h1 : u < 10) : [0, 48 + u, 0, 0, 0, 0, 0, 0, 0, 0, 0, 0, 0, 0, 0, 0, 0, 0, 0, 0, 0, 0, 0, 0] = W24 u := by
  unfold W24 decN
  rw [if_pos h1]
  simp only [List.map_cons, List.map_nil, dg_nat u h0 (by omega)]; rfl
theorem w2 {u : Int} (h0 : 10 ≤ u) (h1 : u < 100) : [0, 48 + u / 10, 48 + u % 10, 0, 0, 0, 0, 0, 0, 0, 0, 0, 0, 0, 0, 0, 0, 0, 0, 0, 0, 0, 0, 0] = W24 u := by
  unfold W24 decN
  rw [if_neg (by omega), if_pos h1]
  simp only [List.map_cons, List.map_nil, dg_nat (u / 10) (by omega) (by omega), dg_nat (u % 10) (by omega) (by omega)]; rfl
theorem w3 {u : Int} (h0 : 100 ≤ u) (h1 : u < 1000) : [0, 48 + u / 100, 48 + u % 100 / 10, 48 + u % 100 % 10, 0, 0, 0, 0, 0, 0, 0, 0, 0, 0, 0, 0, 0, 0, 0, 0, 0, 0, 0, 0] = W24 u := by
  unfold W24 decN
  rw [if_neg (by omega), if_neg (by omega), if_pos h1, show u % 100 / 10 = u / 10 % 10 by omega, show u % 100 % 10 = u % 10 by omega]
  simp only [List.map_cons, List.map_nil, dg_nat (u / 100) (by omega) (by omega), dg_nat (u / 10 % 10) (by omega) (by omega), dg_nat (u % 10) (by omega) (by omega)]; rfl
theorem w4 {u : Int} (h0 : 1000 ≤ u) (h1 : u < 10000) : [0, 48 + u % 10000 / 100 / 10, 48 + u % 10000 / 100 % 10, 48 + u % 10000 % 100 / 10, 48 + u % 10000 % 100 % 10, 0, 0, 0, 0, 0, 0, 0, 0, 0, 0, 0, 0, 0, 0, 0, 0, 0, 0, 0] = W24 u := by
  unfold W24 decN
  rw [if_neg (by omega), if_neg (by omega), if_neg (by omega), show u % 10000 / 100 / 10 = u / 1000 by omega, show u % 10000 / 100 % 10 = u / 100 % 10 by omega, show u % 10000 % 100 / 10 = u / 10 % 10 by omega, show u % 10000 % 100 % 10 = u % 10 by omega]
  simp only [List.map_cons, List.map_nil, dg_nat (u / 1000) (by omega) (by omega), dg_nat (u / 100 % 10) (by omega) (by omega), dg_nat (u / 10 % 10) (by omega) (by omega), dg_nat (u % 10) (by omega) (by omega)]; rfl
theorem u32R (n : Int) (h0 : 0 ≤ n) (h1 : n < 4294967296) : inR .u32 n = true := by
  have e1 : IntKind.u32.min = 0 := by decide
  have e2 : IntKind.u32.max = 4294967295 := by decide
  simp only [inR, decide_eq_true_eq]; omega
theorem u64R (n : Int) (h0 : 0 ≤ n) (h1 : n < 4294967296) : inR .u64 n = true := by
  have e1 : IntKind.u64.min = 0 := by decide
  have e2 : IntKind.u64.max = 18446744073709551615 := by decide
  simp only [inR, decide_eq_true_eq]; omega
theorem sp62a (u : Int) (h0 : 0 ≤ u) (h1 : u < 10) : SpecD Tryd.prog G (.fn 62 [] []) [.sl 320 1 1 23, .int .u64 u] [(320, blkZ Z24)] (.tup []) [(320, blkZ (W24 u))] [] := by
  refine fnD_spec hcm hmx T330 ok62 rfl (ob_d_62a u) ?_
  simp only [ltb_iff, ltb_no, leb_iff, leb_no, ltn_iff, ltn_no, len'_iff, len'_no, inR_i64, inR_u8, inR_i32, size_ints, size_bools, size_vals, size_cells, getD_drop, List.getElem?_drop, beq_iff_eq, beq_eq_false_iff_ne, bne_iff_ne, bne_eq_false_iff_eq, ne_eq, Nat.zero_add, Nat.add_zero, Nat.mul_one, Int.toNat_natCast, and_true, true_and, List.length_drop, List.length_append, List.length_cons, List.length_nil, List.length_set, List.getD_eq_getElem?_getD, implies_true, iI, iL, Bool.not_eq_true', Bool.not_eq_false', Int.natCast_inj]
  exact ⟨u32R _ h0 (by omega), u32R _ (by omega) (by omega), by omega, w1 h0 h1⟩
theorem sp62b (u : Int) (h0 : 10 ≤ u) (h1 : u < 100) : SpecD Tryd.prog G (.fn 62 [] []) [.sl 320 1 2 23, .int .u64 u] [(320, blkZ Z24)] (.tup []) [(320, blkZ (W24 u))] [] := by
  refine fnD_spec hcm hmx T330 ok62 rfl (ob_d_62b u) ?_
  have e1 : u.tdiv 100 = u / 100 := Int.tdiv_eq_ediv_of_nonneg (by omega)
  have e2 : u.tmod 100 = u % 100 := Int.tmod_eq_emod_of_nonneg (by omega)
  obtain ⟨t1, t2⟩ := tabS_hi (u % 100) (by omega) (by omega)
  simp only [ltb_iff, ltb_no, leb_iff, leb_no, ltn_iff, ltn_no, len'_iff, len'_no, inR_i64, inR_u8, inR_i32, size_ints, size_bools, size_vals, size_cells, getD_drop, List.getElem?_drop, beq_iff_eq, beq_eq_false_iff_ne, bne_iff_ne, bne_eq_false_iff_eq, ne_eq, Nat.zero_add, Nat.add_zero, Nat.mul_one, Int.toNat_natCast, and_true, true_and, List.length_drop, List.length_append, List.length_cons, List.length_nil, List.length_set, List.getD_eq_getElem?_getD, implies_true, iI, iL, Bool.not_eq_true', Bool.not_eq_false', Int.natCast_inj, e1, e2, t1, t2]
  refine ⟨u32R _ (by omega) (by omega), u32R _ (by omega) (by omega), u32R _ (by omega) (by omega), u32R _ (by omega) (by omega), by omega, by omega, by omega, by omega, ?_⟩
  rw [show u % 100 = u by omega]
  exact w2 h0 h1
theorem sp62c (u : Int) (h0 : 100 ≤ u) (h1 : u < 1000) : SpecD Tryd.prog G (.fn 62 [] []) [.sl 320 1 3 23, .int .u64 u] [(320, blkZ Z24)] (.tup []) [(320, blkZ (W24 u))] [] := by
  refine fnD_spec hcm hmx T330 ok62 rfl (ob_d_62c u) ?_
  have e1 : u.tdiv 100 = u / 100 := Int.tdiv_eq_ediv_of_nonneg (by omega)
  have e2 : u.tmod 100 = u % 100 := Int.tmod_eq_emod_of_nonneg (by omega)
  obtain ⟨t1, t2⟩ := tabS_hi (u % 100) (by omega) (by omega)
  simp only [ltb_iff, ltb_no, leb_iff, leb_no, ltn_iff, ltn_no, len'_iff, len'_no, inR_i64, inR_u8, inR_i32, size_ints, size_bools, size_vals, size_cells, getD_drop, List.getElem?_drop, beq_iff_eq, beq_eq_false_iff_ne, bne_iff_ne, bne_eq_false_iff_eq, ne_eq, Nat.zero_add, Nat.add_zero, Nat.mul_one, Int.toNat_natCast, and_true, true_and, List.length_drop, List.length_append, List.length_cons, List.length_nil, List.length_set, List.getD_eq_getElem?_getD, implies_true, iI, iL, Bool.not_eq_true', Bool.not_eq_false', Int.natCast_inj, e1, e2, t1, t2]
  exact ⟨u32R _ (by omega) (by omega), u32R _ (by omega) (by omega), u32R _ (by omega) (by omega), u32R _ (by omega) (by omega), by omega, by omega, by omega, by omega, u32R _ (by omega) (by omega), by omega, w3 h0 h1⟩
theorem sp62d (u : Int) (h0 : 1000 ≤ u) (h1 : u < 10000) : SpecD Tryd.prog G (.fn 62 [] []) [.sl 320 1 4 23, .int .u64 u] [(320, blkZ Z24)] (.tup []) [(320, blkZ (W24 u))] [] := by
  refine fnD_spec hcm hmx T330 ok62 rfl (ob_d_62d u) ?_
  have e0 : u.tmod 10000 = u % 10000 := Int.tmod_eq_emod_of_nonneg (by omega)
  have e3 : u.tdiv 10000 = u / 10000 := Int.tdiv_eq_ediv_of_nonneg (by omega)
  have e1 : (u % 10000).tdiv 100 = u % 10000 / 100 := Int.tdiv_eq_ediv_of_nonneg (by omega)
  have e2 : (u % 10000).tmod 100 = u % 10000 % 100 := Int.tmod_eq_emod_of_nonneg (by omega)
  obtain ⟨t1, t2⟩ := tabS_hi (u % 10000 / 100) (by omega) (by omega)
  obtain ⟨t3, t4⟩ := tabS_hi (u % 10000 % 100) (by omega) (by omega)
  simp only [ltb_iff, ltb_no, leb_iff, leb_no, ltn_iff, ltn_no, len'_iff, len'_no, inR_i64, inR_u8, inR_i32, size_ints, size_bools, size_vals, size_cells, getD_drop, List.getElem?_drop, beq_iff_eq, beq_eq_false_iff_ne, bne_iff_ne, bne_eq_false_iff_eq, ne_eq, Nat.zero_add, Nat.add_zero, Nat.mul_one, Int.toNat_natCast, and_true, true_and, List.length_drop, List.length_append, List.length_cons, List.length_nil, List.length_set, List.getD_eq_getElem?_getD, implies_true, iI, iL, Bool.not_eq_true', Bool.not_eq_false', Int.natCast_inj, e0, e1, e2, e3, t1, t2, t3, t4]
  exact ⟨u32R _ (by omega) (by omega), u32R _ (by omega) (by omega), u32R _ (by omega) (by omega), u32R _ (by omega) (by omega), u32R _ (by omega) (by omega), u32R _ (by omega) (by omega), by omega, by omega, by omega, by omega, u32R _ (by omega) (by omega), by omega, by omega, by omega, by omega, w4 h0 h1⟩
theorem ch62ok : ChOk Tryd.prog G ch62 := by
  intro h cv args r hr hp
  unfold ch62 at hr
  split at hr
  · rename_i f i off len cap u
    rw [cond_eq_ite] at hr
    split at hr
    · rename_i hid
      rw [Bool.and_eq_true] at hid
      have g1 := Nat.eq_of_beq_eq_true hid.1
      have g2 := Nat.eq_of_beq_eq_true hid.2
      subst g1 g2
      cases hr
      obtain ⟨rfl, rfl, rfl, rfl, h0, h1⟩ := hp
      unfold decN
      split
      · rename_i c; exact sp62a u h0 c
      · rename_i c
        split
        · rename_i c2; exact sp62b u (by omega) c2
        · rename_i c2
          split
          · rename_i c3; exact sp62c u (by omega) c3
          · rename_i c3; exact sp62d u (by omega) h1
    · cases hr
  · cases hr
end Go.Proofs.YtpkmnabefnhcfaaDoor.X
