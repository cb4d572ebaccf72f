/-
  The laws: it does not matter which angles are folded away; fans turned.
-/
import Derived.Test.YtfafinkgmhkdmaaDoorO5Z
import Derived.Test.YtfafinkgmhkdmaaDoorC6Z
import Derived.Test.YtfafinkgmhkdmaaDoorLZ
set_option maxRecDepth 1000000
set_option linter.unusedVariables false
set_option linter.unusedSimpArgs false
namespace Go.Proofs.YtfafinkgmhkdmaaDoor.X
open Go Go.Ab

theorem okF_chk : ∀ {a k : List Int} {s : Int}, okF a k s = true → chkL a k (8 - s) = 0
  | [], [], s, h => rfl
  | x :: a, y :: k, s, h => by
    simp only [okF, Bool.and_eq_true, Bool.or_eq_true, beq_iff_eq, decide_eq_true_eq] at h
    obtain ⟨h1, h2, h3, h4⟩ := h
    simp only [chkL]
    rw [if_neg (by omega)]
    have := okF_chk h4
    have e : 8 - s + x = 8 - (s - x) := by omega
    rw [e]; exact this
  | [], y :: k, s, h => by simp [okF] at h
  | x :: a, [], s, h => by simp [okF] at h
theorem memB_no {l : List Int} {x : Int} (h : x ∉ l) : memB l x = false := by
  rw [Bool.eq_false_iff]; intro e; exact h (memB_true.1 e)
theorem dcd_of {a k : List Int} (h : okF a k 8 = true) : dcd a k = 0 := by
  have hl := (okF_len h).1
  have hc : chk a k = 0 := by
    unfold chk
    rw [if_pos hl.symm]; exact okF_chk h
  have h3 : memB k 3 = false := memB_no fun hm => by have := (okF_ok (by omega) h).2.2 3 hm; omega
  unfold dcd
  rw [if_pos hc, h3]; rfl
theorem okD_of {a k : List Int} (h : okF a k 8 = true) : okD a k = true := okD_iff.2 (dcd_of h)
/-- The law's fan is decided. -/
theorem d_ok {c l : Int} {ks : List Int} (h : okK ks) : okF (ofA c l ks) (vK (ofK c ks)) 8 = true := by
  obtain ⟨h1, h2, h3, h4⟩ := of_ok (c := c) (l := l) h
  have hv : ∀ x ∈ vK (ofK c ks), 1 ≤ x ∧ x ≤ 2 := by
    intro x hx
    obtain ⟨y, hy, rfl⟩ := List.mem_map.1 hx
    have := h4 y hy
    split <;> omega
  have hc : chk (ofA c l ks) (vK (ofK c ks)) = 0 := chk_of (by rw [len_v, h1]) h3 fun x hx => by have := hv x hx; omega
  refine dcd_ok ?_
  unfold dcd
  rw [if_pos hc, memB_no fun hm => by have := hv 3 hm; omega]; rfl
theorem uLok : CtsOk Tryd.prog G uL := ⟨ct12, ct14, ct22, ct15, ct16, uFok⟩
theorem ULok : TabOk Tryd.prog G UL := tabL_ok noCh_ok uLok
theorem doB_of {a k : List Int} {i : Int} (h : okF a k 8 = true) (hi : isS a k i = true) : doB a k i = true := by
  unfold doB; rw [okD_of h, hi]; rfl
theorem doE_of {a k : List Int} {i : Int} (h : okF a k 8 = true) (hi : isS a k i = true) : doE a k i = 0 := by
  unfold doE; rw [if_pos (dcd_of h), hi]; rfl
theorem isS_of {a k : List Int} {x : Int} (h : x ∈ stI a k) : isS a k x = true := memB_true.2 h
theorem sp3 (c l : Int) (ks ys : List Int) (hk : okK ks) (hy : okK ys) : SpecP Tryd.prog G 3 [fV c l ks, .imm (.ints .u8 ys) ys.length none] (.bool true) [] := by
  refine fnP_spec hcm hmx ULok ok3 rfl (ob_o3 c l ks ys) ?_
  have hd := d_ok (c := c) (l := l) hk
  generalize ofA c l ks = A0 at *
  generalize vK (ofK c ks) = K0 at *
  obtain ⟨hl, h8⟩ := okF_len hd
  have h8 := h8 (by omega)
  simp only [ltb_iff, ltb_no, leb_iff, leb_no, ltn_iff, ltn_no, len'_iff, len'_no, inR_i64, inR_u8, inR_i32, size_ints, size_bools, size_vals, size_cells, getD_drop, List.getElem?_drop, beq_iff_eq, beq_eq_false_iff_ne, bne_iff_ne, bne_eq_false_iff_eq, ne_eq, Nat.zero_add, Nat.add_zero, Nat.mul_one, Int.toNat_natCast, and_true, true_and, List.length_drop, List.length_append, List.length_cons, List.length_nil, List.length_set, List.getD_eq_getElem?_getD, implies_true, iI, iL, Bool.not_eq_true', Bool.not_eq_false', Int.natCast_inj]
  refine fun h => ⟨hk, by omega, fun e => absurd (dcd_of hd) e, fun _ => ⟨⟨0, rfl, by omega, hd⟩, ?_⟩⟩
  rintro ⟨i, a, k⟩ ⟨n, rfl, hn, p1, p2⟩ hlt
  simp only at p1 p2 hlt ⊢
  have la := okF_len p1
  have la8 := la.2 (by omega)
  have hsl := stI_len (a := a) (k := k)
  simp only [okD_of p1, bLs_yes rfl, dcd_of p1, okD_of hd, Int.toNat_natCast]
  refine ⟨by omega, fun e => absurd trivial e, fun _ hne => ?_⟩
  have hyn : 0 ≤ ys[n]?.getD 0 ∧ ys[n]?.getD 0 ≤ 255 := hy _ (getD_mem (by omega))
  have t0 : 0 ≤ (ys[n]?.getD 0).tmod (stI a k).length := Int.tmod_nonneg _ hyn.1
  have t1 : (ys[n]?.getD 0).tmod (stI a k).length < (stI a k).length := Int.tmod_lt_of_pos _ (by omega)
  generalize (ys[n]?.getD 0).tmod (stI a k).length = t at *
  obtain ⟨j, rfl⟩ : ∃ j : Nat, t = j := ⟨t.toNat, by omega⟩
  have hx : (stI a k)[j]?.getD 0 ∈ stI a k := getD_mem (by omega)
  simp only [Int.toNat_natCast]
  generalize (stI a k)[j]?.getD 0 = x at *
  have hxs := isS_of hx
  have hst := stI_lt hxs
  obtain ⟨t1', t2⟩ := step_ok p1 hst.2.2.2
  have t3 := fold_step p1 hst.2.2.2
  have l2 := okF_len t1'
  have l3 := l2.2 (by omega)
  simp only [doB_of p1 hxs, doE_of p1 hxs, bLs_yes rfl, dcd_of t1', okD_of t1', t3, p2]
  exact ⟨by omega, by omega, by omega, by omega, by omega, by omega, by omega, by omega, by omega, by omega, by omega, by omega, trivial, trivial, fun e => absurd trivial e, fun _ => ⟨by omega, ⟨n + 1, by omega, by omega, t1', trivial⟩, by omega⟩⟩
theorem ev19 : evM G (aget xpl) nats me0 100000 1000 1 [] (.fn 19 [] []) [AV.agg [AV.imm (Cont.ints IntKind.i64 []) 0 none, AV.imm (Cont.ints IntKind.u8 []) 0 none], .int .i64 0] = some ⟨.tup [AV.agg [AV.imm (Cont.ints IntKind.i64 []) 0 (some 0), AV.imm (Cont.ints IntKind.u8 []) 0 (some 0)], .int .i64 0], [], [], []⟩ := by kernel_rfl
theorem sp19z0 : SpecP Tryd.prog G 19 [AV.agg [AV.imm (Cont.ints IntKind.i64 []) 0 none, AV.imm (Cont.ints IntKind.u8 []) 0 none], .int .i64 0] (.tup [AV.agg [AV.imm (Cont.ints IntKind.i64 []) 0 (some 0), AV.imm (Cont.ints IntKind.u8 []) 0 (some 0)], .int .i64 0]) [] := specP_of_evM hcm hmx xpOk natsOk me0Ok ev19 rfl
theorem ct19z : CtOk Tryd.prog G 19 e19z := by
  intro args r h hp
  unfold e19z at h
  split at h <;> cases h
  obtain ⟨rfl, rfl, rfl, rfl, rfl⟩ := hp
  exact sp19z0.caps
theorem UTok : TabOk Tryd.prog G UT := tabL_ok noCh_ok ⟨ct19, uLok⟩
theorem UTzok : TabOk Tryd.prog G UTz := tabL_ok noCh_ok ⟨ct19z, uLok⟩
theorem fold_ok {A K a k : List Int} (h : okF A K 8 = true) (h2 : okF a k 8 = true ∧ foldB a k = foldB A K) : dcd a k = 0 ∧ okD a k = true ∧ foldB a k = foldB A K := ⟨dcd_of h2.1, okD_of h2.1, h2.2⟩
theorem sp5 (c l : Int) (ks : List Int) (y : Int) (hk : okK ks) (hy : 0 ≤ y ∧ y ≤ 255) : SpecP Tryd.prog G 5 [fV c l ks, .int .u8 y] (.bool true) [] := by
  have hd := d_ok (c := c) (l := l) hk
  by_cases hA : (ofA c l ks).length = 0
  · refine fnP_spec hcm hmx UTzok ok5 rfl (ob_o5z c l ks y) ?_
    generalize ofA c l ks = A at *
    generalize vK (ofK c ks) = K at *
    obtain ⟨hl, h8⟩ := okF_len hd
    obtain rfl : A = [] := List.length_eq_zero_iff.1 hA
    obtain rfl : K = [] := List.length_eq_zero_iff.1 (by omega)
    have e1 : mirK' [] = [] := rfl
    have e2 : ovK' [] = [] := rfl
    simp only [ltb_iff, ltb_no, leb_iff, leb_no, ltn_iff, ltn_no, len'_iff, len'_no, inR_i64, inR_u8, inR_i32, size_ints, size_bools, size_vals, size_cells, getD_drop, List.getElem?_drop, beq_iff_eq, beq_eq_false_iff_ne, bne_iff_ne, bne_eq_false_iff_eq, ne_eq, Nat.zero_add, Nat.add_zero, Nat.mul_one, Int.toNat_natCast, and_true, true_and, List.length_drop, List.length_append, List.length_cons, List.length_nil, List.length_set, List.getD_eq_getElem?_getD, implies_true, iI, iL, Bool.not_eq_true', Bool.not_eq_false', Int.natCast_inj, e1, e2, List.reverse_nil, dcd_of hd, okD_of hd]
    have e3 : (if (1 : Int) > ((0 : Nat) : Int) then (1 : Int) else ((0 : Nat) : Int)) = 1 := rfl
    simp only [e3, Int.tmod_one]
    exact ⟨hk, by omega, by omega, by omega, trivial, by omega, by omega, by omega, by omega, by omega, by decide +kernel⟩
  · refine fnP_spec hcm hmx UTok ok5 rfl (ob_o5p c l ks y) ?_
    generalize ofA c l ks = A at *
    generalize vK (ofK c ks) = K at *
    obtain ⟨hl, h8⟩ := okF_len hd
    have h8 := h8 (by omega)
    have e : (if (1 : Int) > (A.length : Int) then (1 : Int) else (A.length : Int)) = A.length := by split <;> omega
    have i0 : 0 ≤ y.tmod A.length := Int.tmod_nonneg _ hy.1
    have i1 : y.tmod A.length < A.length := Int.tmod_lt_of_pos _ (by omega)
    simp only [e]
    generalize y.tmod A.length = t at *
    obtain ⟨j, rfl⟩ : ∃ j : Nat, t = j := ⟨t.toNat, by omega⟩
    obtain ⟨r1, r2, r3⟩ := fold_ok hd (fold_rot hd j (by omega))
    obtain ⟨m1, m2, m3⟩ := fold_ok hd (fold_mir hd)
    obtain ⟨o1, o2, o3⟩ := fold_ok hd (fold_ov hd)
    have hc : chk A K = 0 := by
      have := dcd_of hd
      unfold dcd at this
      split at this
      · assumption
      · contradiction
    simp only [ltb_iff, ltb_no, leb_iff, leb_no, ltn_iff, ltn_no, len'_iff, len'_no, inR_i64, inR_u8, inR_i32, size_ints, size_bools, size_vals, size_cells, getD_drop, List.getElem?_drop, beq_iff_eq, beq_eq_false_iff_ne, bne_iff_ne, bne_eq_false_iff_eq, ne_eq, Nat.zero_add, Nat.add_zero, Nat.mul_one, Int.toNat_natCast, and_true, true_and, List.length_drop, List.length_append, List.length_cons, List.length_nil, List.length_set, List.getD_eq_getElem?_getD, implies_true, iI, iL, Bool.not_eq_true', Bool.not_eq_false', Int.natCast_inj, r1, r2, r3, m1, m2, m3, o1, o2, o3, dcd_of hd, okD_of hd, len_rot, len_mir, len_ov, List.length_reverse]
    exact ⟨hk, by omega, by omega, by omega, ⟨by omega, hc, by omega, by omega⟩, by omega, by omega, by omega, by omega, by omega, by omega⟩
end Go.Proofs.YtfafinkgmhkdmaaDoor.X
