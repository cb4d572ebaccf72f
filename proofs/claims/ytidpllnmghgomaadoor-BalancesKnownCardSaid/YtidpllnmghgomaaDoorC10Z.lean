/-
  The contracts of slices joined, cloned, reversed.
-/
import Derived.Test.YtidpllnmghgomaaDoorO7Z
import Derived.Test.YtidpllnmghgomaaDoorC9Z
set_option maxRecDepth 1000000
set_option linter.unusedVariables false
set_option linter.unusedSimpArgs false
namespace Go.Proofs.YtidpllnmghgomaaDoor.X
open Go Go.Ab

theorem rev_get {a : List Int} {m : Nat} (h : m < a.length) : a.reverse[m]?.getD 0 = a[a.length - 1 - m]?.getD 0 := by
  rw [List.getElem?_reverse h]
theorem ext_getD {a b : List Int} (hl : a.length = b.length) (h : ∀ m, m < a.length → a[m]?.getD 0 = b[m]?.getD 0) : a = b := by
  refine List.ext_getElem hl fun m h1 h2 => ?_
  have := h m h1
  rwa [List.getElem?_eq_getElem h1, List.getElem?_eq_getElem h2] at this
theorem set_getD {l : List Int} {i m : Nat} {v : Int} (h : i < l.length) : (l.set i v)[m]?.getD 0 = if i = m then v else l[m]?.getD 0 := by
  rw [List.getElem?_set]
  split
  · simp_all
  · rfl
theorem revStep {a l : List Int} {n : Nat} (hl : l.length = a.length) (hn : n < a.length - 1 - n) (h : ∀ m, m < a.length → l[m]?.getD 0 = if m < n ∨ a.length ≤ m + n then a[a.length - 1 - m]?.getD 0 else a[m]?.getD 0) :
    ∀ m, m < a.length → ((l.set n (l[a.length - 1 - n]?.getD 0)).set (a.length - 1 - n) (l[n]?.getD 0))[m]?.getD 0 = if m < n + 1 ∨ a.length ≤ m + (n + 1) then a[a.length - 1 - m]?.getD 0 else a[m]?.getD 0 := by
  intro m hm
  rw [set_getD (by simp; omega), set_getD (by omega)]
  have h1 := h n (by omega)
  have h2 := h (a.length - 1 - n) (by omega)
  rw [if_neg (by omega)] at h1 h2
  by_cases e1 : a.length - 1 - n = m
  · rw [if_pos e1, if_pos (by omega), h1]; congr 2; omega
  · rw [if_neg e1]
    by_cases e2 : n = m
    · rw [if_pos e2, if_pos (by omega), h2, e2]
    · rw [if_neg e2, h m hm]
      by_cases e3 : m < n ∨ a.length ≤ m + n
      · rw [if_pos e3, if_pos (by omega)]
      · rw [if_neg e3, if_neg (by omega)]
theorem revEnd {a l : List Int} {n : Nat} (hl : l.length = a.length) (hn : a.length ≤ 2 * n + 1) (h : ∀ m, m < a.length → l[m]?.getD 0 = if m < n ∨ a.length ≤ m + n then a[a.length - 1 - m]?.getD 0 else a[m]?.getD 0) : l = a.reverse := by
  refine ext_getD (by simp [hl]) fun m hm => ?_
  rw [rev_get (by omega), h m (by omega)]
  split
  · rfl
  · congr 2; omega

theorem sp48 (n : Int) (h0 : 0 < n) (h1 : n < 1000000000000) : SpecP Tryd.prog G 48 [.nils, .int .i64 n] (.full 0 0) [blkN .i64 []] := by
  refine fnP_spec hcm hmx T0ok ok48 rfl (ob_o48 n) ?_
  simp
  omega
theorem ct48 : CtOk Tryd.prog G 48 (eGrow .i64 8) := by
  intro args r h hp
  unfold eGrow at h
  split at h <;> cases h
  obtain ⟨h0, h1⟩ := hp
  exact sp48 _ h0 h1

theorem sp49 (n : Int) (h0 : 0 < n) (h1 : n < 1000000000000) : SpecP Tryd.prog G 49 [.nils, .int .i64 n] (.full 0 0) [blkN .u8 []] := by
  refine fnP_spec hcm hmx T0ok ok49 rfl (ob_o49 n) ?_
  simp
  omega
theorem ct49 : CtOk Tryd.prog G 49 (eGrow .u8 1) := by
  intro args r h hp
  unfold eGrow at h
  split at h <;> cases h
  obtain ⟨h0, h1⟩ := hp
  exact sp49 _ h0 h1

theorem tlAok : CtsOk Tryd.prog G tlA := ⟨ct48, ct49, tl9ok⟩
theorem TAok : TabOk Tryd.prog G TA := tabL_ok noCh_ok tlAok

theorem sp39 (x y : List Int) (h0 : 0 < x.length + y.length) (h1 : x.length + y.length < 100000000000) : SpecP Tryd.prog G 39 [.imm (.vals [.imm (.ints .i64 x) x.length none, .imm (.ints .i64 y) y.length none]) 2 none] (.full 0 (x ++ y).length) [blkN .i64 (x ++ y)] := by
  refine fnP_spec hcm hmx TAok ok39 rfl (ob_o39 x y) ?_
  simp
  omega
theorem ct39 : CtOk Tryd.prog G 39 (eCat .i64) := by
  intro args r h hp
  unfold eCat at h
  split at h
  · rw [cond_eq_ite] at h
    split at h
    · rename_i hk
      rw [Bool.and_eq_true] at hk
      cases h
      obtain ⟨rfl, rfl, h0, h1⟩ := hp
      cases beqK_ok hk.1; cases beqK_ok hk.2
      exact (sp39 _ _ h0 h1).caps
    · cases h
  · cases h

theorem sp41 (x y : List Int) (h0 : 0 < x.length + y.length) (h1 : x.length + y.length < 100000000000) : SpecP Tryd.prog G 41 [.imm (.vals [.imm (.ints .u8 x) x.length none, .imm (.ints .u8 y) y.length none]) 2 none] (.full 0 (x ++ y).length) [blkN .u8 (x ++ y)] := by
  refine fnP_spec hcm hmx TAok ok41 rfl (ob_o41 x y) ?_
  simp
  omega
theorem ct41 : CtOk Tryd.prog G 41 (eCat .u8) := by
  intro args r h hp
  unfold eCat at h
  split at h
  · rw [cond_eq_ite] at h
    split at h
    · rename_i hk
      rw [Bool.and_eq_true] at hk
      cases h
      obtain ⟨rfl, rfl, h0, h1⟩ := hp
      cases beqK_ok hk.1; cases beqK_ok hk.2
      exact (sp41 _ _ h0 h1).caps
    · cases h
  · cases h

theorem sp40 (a : List Int) : SpecP Tryd.prog G 40 [.imm (.ints .u8 a) a.length none] (.imm (.ints .u8 a) a.length (some a.length)) [] := by
  refine fnP_spec hcm hmx T0ok ok40 rfl (ob_o40 a a.length) ?_
  simp [Cont.size]
theorem ct40 : CtOk Tryd.prog G 40 e40 := by
  intro args r h hp
  unfold e40 at h
  split at h <;> cases h
  obtain rfl := hp
  exact (sp40 _).caps
theorem tlBok : CtsOk Tryd.prog G tlB := ⟨ct39, ct41, ct40, tlAok⟩

theorem sp26b (a : List Int) : SpecD Tryd.prog G (.fn 26 [] []) [.full 8640 a.length] [(8640, .blk (blkN .i64 a))] (.full 8640 a.length) [] [] := by
  refine fnD_spec hcm hmx T0ok ok26 rfl (ob_d_26b a) ?_
  simp
theorem sp26t (a : List Int) : SpecD Tryd.prog G (.fn 26 [] []) [.full 8256 a.length] [(8256, .blk (blkN .i64 a))] (.full 8256 a.length) [] [] := by
  refine fnD_spec hcm hmx T0ok ok26 rfl (ob_d_26t a) ?_
  simp
theorem sp43 (a : List Int) (hl : a.length < 1000000000000) : SpecD Tryd.prog G (.fn 43 [] []) [.full 8256 a.length] [(8256, .blk (blkN .i64 a))] (.tup []) [(8256, .blk (blkN .i64 a.reverse))] [] := by
  refine fnD_spec hcm hmx T0ok ok43 rfl (ob_d_43 a) ?_
  simp only [ltb_iff, ltb_no, leb_iff, leb_no, ltn_iff, ltn_no, len'_iff, len'_no, inR_i64, inR_u8, inR_i32, size_ints, size_bools, size_vals, size_cells, getD_drop, List.getElem?_drop, beq_iff_eq, beq_eq_false_iff_ne, bne_iff_ne, bne_eq_false_iff_eq, ne_eq, Nat.zero_add, Nat.add_zero, Nat.mul_one, Int.toNat_natCast, and_true, true_and, List.length_drop, List.length_append, List.length_cons, List.length_nil, List.length_set, List.getD_eq_getElem?_getD, implies_true, iI, iL, Bool.not_eq_true', Bool.not_eq_false', Int.natCast_inj]
  refine ⟨by omega, ⟨0, rfl, by omega, by omega, fun m hm => by rw [if_neg (by omega)]⟩, ?_⟩
  rintro ⟨i, j, l⟩ ⟨n, rfl, rfl, h1, h2, h3⟩
  simp only [Int.toNat_natCast] at h2 h3 ⊢
  refine ⟨fun hlt => ?_, fun hge => ?_⟩
  · have ej : ((a.length : Int) - 1 - n).toNat = a.length - 1 - n := by omega
    rw [ej]
    have hs := revStep h2 (by omega) h3
    refine ⟨by omega, by omega, by omega, by omega, by omega, by omega, by omega, by omega, by omega, by omega, by omega, by omega, by omega, by omega, by omega, by omega, by omega, by omega, by omega, by omega, by omega, by omega, ⟨n + 1, by omega, by omega, by omega, by omega, hs⟩, by omega⟩
  · have := revEnd h2 (by omega) h3
    exact ⟨by rw [this], this⟩

theorem sp40b (a : List Int) : SpecD Tryd.prog G (.fn 40 [] []) [.full 8640 a.length] [(8640, .blk (blkN .u8 a))] (.full 8640 a.length) [] [] := by
  refine fnD_spec hcm hmx T0ok ok40 rfl (ob_d_40b a) ?_
  simp
theorem sp40t (a : List Int) : SpecD Tryd.prog G (.fn 40 [] []) [.full 8256 a.length] [(8256, .blk (blkN .u8 a))] (.full 8256 a.length) [] [] := by
  refine fnD_spec hcm hmx T0ok ok40 rfl (ob_d_40t a) ?_
  simp
theorem sp45 (a : List Int) (hl : a.length < 1000000000000) : SpecD Tryd.prog G (.fn 45 [] []) [.full 8256 a.length] [(8256, .blk (blkN .u8 a))] (.tup []) [(8256, .blk (blkN .u8 a.reverse))] [] := by
  refine fnD_spec hcm hmx T0ok ok45 rfl (ob_d_45 a) ?_
  simp only [ltb_iff, ltb_no, leb_iff, leb_no, ltn_iff, ltn_no, len'_iff, len'_no, inR_i64, inR_u8, inR_i32, size_ints, size_bools, size_vals, size_cells, getD_drop, List.getElem?_drop, beq_iff_eq, beq_eq_false_iff_ne, bne_iff_ne, bne_eq_false_iff_eq, ne_eq, Nat.zero_add, Nat.add_zero, Nat.mul_one, Int.toNat_natCast, and_true, true_and, List.length_drop, List.length_append, List.length_cons, List.length_nil, List.length_set, List.getD_eq_getElem?_getD, implies_true, iI, iL, Bool.not_eq_true', Bool.not_eq_false', Int.natCast_inj]
  refine ⟨by omega, ⟨0, rfl, by omega, by omega, fun m hm => by rw [if_neg (by omega)]⟩, ?_⟩
  rintro ⟨i, j, l⟩ ⟨n, rfl, rfl, h1, h2, h3⟩
  simp only [Int.toNat_natCast] at h2 h3 ⊢
  refine ⟨fun hlt => ?_, fun hge => ?_⟩
  · have ej : ((a.length : Int) - 1 - n).toNat = a.length - 1 - n := by omega
    rw [ej]
    have hs := revStep h2 (by omega) h3
    refine ⟨by omega, by omega, by omega, by omega, by omega, by omega, by omega, by omega, by omega, by omega, by omega, by omega, by omega, by omega, by omega, by omega, by omega, by omega, by omega, by omega, by omega, by omega, ⟨n + 1, by omega, by omega, by omega, by omega, hs⟩, by omega⟩
  · have := revEnd h2 (by omega) h3
    exact ⟨by rw [this], this⟩

theorem chTok {k : IntKind} {id f1 f2 : Nat} (h1 : ∀ a, SpecD Tryd.prog G (.fn f1 [] []) [.full id a.length] [(id, .blk (blkN k a))] (.full id a.length) [] []) (h2 : f1 ≠ f2 → ∀ a : List Int, a.length < 1000000000000 → SpecD Tryd.prog G (.fn f2 [] []) [.full id a.length] [(id, .blk (blkN k a))] (.tup []) [(id, .blk (blkN k a.reverse))] []) : ChOk Tryd.prog G (chT k id f1 f2) := by
  intro h cv args r hr hp
  unfold chT at hr
  split at hr
  · rename_i f i n k' l _ _ _ _ _ _ hh
    simp only [cond_eq_ite] at hr
    split at hr
    · rename_i hi
      have := Nat.eq_of_beq_eq_true hi; subst this
      split at hr
      · rename_i hf
        have := Nat.eq_of_beq_eq_true hf; subst this
        cases hr
        obtain ⟨rfl, rfl⟩ := hp
        exact h1 _
      · rename_i hf1
        split at hr
        · rename_i hf
          have := Nat.eq_of_beq_eq_true hf; subst this
          cases hr
          obtain ⟨rfl, rfl, hl⟩ := hp
          exact h2 (by rintro rfl; exact hf1 (Nat.beq_refl _)) _ hl
        · cases hr
    · cases hr
  · cases hr
theorem TB32ok : TabOk Tryd.prog G TB32 := tabL_ok (chTok sp26b (fun h => absurd rfl h)) tlBok
theorem TB33ok : TabOk Tryd.prog G TB33 := tabL_ok (chTok sp40b (fun h => absurd rfl h)) tlBok

theorem sp32 (a : List Int) (i : Int) (h0 : 0 < a.length) (hl : a.length < 100000000000) (h1 : 0 ≤ i) (h2 : i ≤ a.length) : SpecP Tryd.prog G 32 [.imm (.ints .i64 a) a.length none, .int .i64 i] (.full 0 (rotL a i.toNat).length) [blkN .i64 (rotL a i.toNat)] := by
  refine fnP_spec hcm hmx TB32ok ok32 rfl (ob_o32 a i) ?_
  simp [rotL, h1]
  omega
theorem ct32 : CtOk Tryd.prog G 32 (eBegun .i64) := by
  intro args r h hp
  unfold eBegun at h
  split at h
  · rw [cond_eq_ite] at h
    split at h
    · rename_i hk
      cases h
      cases beqK_ok hk
      obtain ⟨rfl, h0, hl, h1, h2⟩ := hp
      exact (sp32 _ _ h0 hl h1 h2).caps
    · cases h
  · cases h
theorem sp42 (a : List Int) (h0 : 0 < a.length) (hl : a.length < 100000000000) : SpecP Tryd.prog G 42 [.imm (.ints .i64 a) a.length none] (.full 0 a.length) [blkN .i64 a] := by
  refine fnP_spec hcm hmx T0ok ok42 rfl (ob_o42 a) ?_
  simp [h0]
  omega
theorem sp42z : SpecP Tryd.prog G 42 [.imm (.ints .i64 []) 0 none] (.imm (.ints .i64 []) 0 none) [] := by
  refine fnP_spec hcm hmx T0ok ok42 rfl ob_o42z ?_
  simp
theorem sp43z : SpecP Tryd.prog G 43 [.imm (.ints .i64 []) 0 none] (.tup []) [] := by
  refine fnP_spec hcm hmx T0ok ok43 rfl ob_o43z ?_
  simp
theorem ct42 : CtOk Tryd.prog G 42 (eCloneP .i64) := by
  intro args r h hp
  unfold eCloneP at h
  split at h
  · rw [cond_eq_ite] at h
    split at h
    · rename_i hk
      cases h
      cases beqK_ok hk
      obtain ⟨rfl, h0, hl⟩ := hp
      exact (sp42 _ h0 hl).caps
    · cases h
  · cases h
theorem ct42z : CtOk Tryd.prog G 42 (eCloneZ .i64) := by
  intro args r h hp
  unfold eCloneZ at h
  split at h
  · rw [cond_eq_ite] at h
    split at h
    · rename_i hk
      cases h
      cases beqK_ok hk
      obtain ⟨rfl, rfl⟩ := hp
      exact sp42z.caps
    · cases h
  · cases h
theorem ct43z : CtOk Tryd.prog G 43 (eRevZ .i64) := by
  intro args r h hp
  unfold eRevZ at h
  split at h
  · rw [cond_eq_ite] at h
    split at h
    · rename_i hk
      cases h
      cases beqK_ok hk
      obtain ⟨rfl, rfl⟩ := hp
      exact sp43z.caps
    · cases h
  · cases h

theorem sp33 (a : List Int) (i : Int) (h0 : 0 < a.length) (hl : a.length < 100000000000) (h1 : 0 ≤ i) (h2 : i ≤ a.length) : SpecP Tryd.prog G 33 [.imm (.ints .u8 a) a.length none, .int .i64 i] (.full 0 (rotL a i.toNat).length) [blkN .u8 (rotL a i.toNat)] := by
  refine fnP_spec hcm hmx TB33ok ok33 rfl (ob_o33 a i) ?_
  simp [rotL, h1]
  omega
theorem ct33 : CtOk Tryd.prog G 33 (eBegun .u8) := by
  intro args r h hp
  unfold eBegun at h
  split at h
  · rw [cond_eq_ite] at h
    split at h
    · rename_i hk
      cases h
      cases beqK_ok hk
      obtain ⟨rfl, h0, hl, h1, h2⟩ := hp
      exact (sp33 _ _ h0 hl h1 h2).caps
    · cases h
  · cases h
theorem sp44 (a : List Int) (h0 : 0 < a.length) (hl : a.length < 100000000000) : SpecP Tryd.prog G 44 [.imm (.ints .u8 a) a.length none] (.full 0 a.length) [blkN .u8 a] := by
  refine fnP_spec hcm hmx T0ok ok44 rfl (ob_o44 a) ?_
  simp [h0]
  omega
theorem sp44z : SpecP Tryd.prog G 44 [.imm (.ints .u8 []) 0 none] (.imm (.ints .u8 []) 0 none) [] := by
  refine fnP_spec hcm hmx T0ok ok44 rfl ob_o44z ?_
  simp
theorem sp45z : SpecP Tryd.prog G 45 [.imm (.ints .u8 []) 0 none] (.tup []) [] := by
  refine fnP_spec hcm hmx T0ok ok45 rfl ob_o45z ?_
  simp
theorem ct44 : CtOk Tryd.prog G 44 (eCloneP .u8) := by
  intro args r h hp
  unfold eCloneP at h
  split at h
  · rw [cond_eq_ite] at h
    split at h
    · rename_i hk
      cases h
      cases beqK_ok hk
      obtain ⟨rfl, h0, hl⟩ := hp
      exact (sp44 _ h0 hl).caps
    · cases h
  · cases h
theorem ct44z : CtOk Tryd.prog G 44 (eCloneZ .u8) := by
  intro args r h hp
  unfold eCloneZ at h
  split at h
  · rw [cond_eq_ite] at h
    split at h
    · rename_i hk
      cases h
      cases beqK_ok hk
      obtain ⟨rfl, rfl⟩ := hp
      exact sp44z.caps
    · cases h
  · cases h
theorem ct45z : CtOk Tryd.prog G 45 (eRevZ .u8) := by
  intro args r h hp
  unfold eRevZ at h
  split at h
  · rw [cond_eq_ite] at h
    split at h
    · rename_i hk
      cases h
      cases beqK_ok hk
      obtain ⟨rfl, rfl⟩ := hp
      exact sp45z.caps
    · cases h
  · cases h

theorem tlPok : CtsOk Tryd.prog G tlP := ⟨ct42, ct44, tlBok⟩
theorem TP34ok : TabOk Tryd.prog G TP34 := tabL_ok (chTok sp26t (fun _ => sp43)) tlPok
theorem TP35ok : TabOk Tryd.prog G TP35 := tabL_ok (chTok sp40t (fun _ => sp45)) tlPok
theorem tlZok : CtsOk Tryd.prog G tlZ := ⟨ct42z, ct44z, ct43z, ct45z, tlBok⟩
theorem TZ34ok : TabOk Tryd.prog G TZ34 := tabL_ok noCh_ok tlZok
end Go.Proofs.YtidpllnmghgomaaDoor.X
