/-
 The contracts of slices joined, cloned, reversed; of fans turned, mirrored, turned over.
-/
import Derived.Test.YtfafinkgmhkdmaaDoorVO3Z
import Derived.Test.YtfafinkgmhkdmaaDoorVC1Z
set_option maxRecDepth 1000000
set_option linter.unusedVariables false
set_option linter.unusedSimpArgs false
namespace Go.Proofs.YtfafinkgmhkdmaaDoor.X
open Go Go.Ab

theorem len_rot (l : List Int) (i : Nat) : (rotL' l i).length = l.length := by simp [rotL']; omega
theorem len_mir (l : List Int) : (mirK' l).length = l.length := by rw [mirK', len_rot, List.length_reverse]
theorem len_ov (l : List Int) : (ovK' l).length = l.length := by simp [ovK']
theorem chk_len {a k : List Int} (h : chk a k = 0) : a.length = k.length := (chk_ok h).1
theorem ov_get {k : List Int} {j : Nat} (hj : j < k.length) : (ovK' k)[j]?.getD 0 = if k[j]?.getD 0 = 1 ∨ k[j]?.getD 0 = 2 then 3 - k[j]?.getD 0 else k[j]?.getD 0 := by
 rw [ovK', List.getElem?_map, List.getElem?_eq_getElem hj]; rfl
theorem rev_get {a : List Int} {m : Nat} (h : m < a.length) : a.reverse[m]?.getD 0 = a[a.length - 1 - m]?.getD 0 := by
 rw [List.getElem?_reverse h]
theorem ext_getD {a b : List Int} (hl : a.length = b.length) (h : ∀ m, m < a.length → a[m]?.getD 0 = b[m]?.getD 0) : a = b := by
 refine List.ext_getElem hl fun m h1 h2 => ?_
 have := h m h1
 rwa [List.getElem?_eq_getElem h1, List.getElem?_eq_getElem h2] at this
theorem set_getD {l : List Int} {i m : Nat} {v : Int} (h : i < l.length) : (l.set i v)[m]?.getD 0 = if i = m then v else l[m]?.getD 0 := by
 rw [List.getElem?_set]
 split
 ·simp_all
 ·rfl
theorem revStep {a l : List Int} {n : Nat} (hl : l.length = a.length) (hn : n < a.length - 1 - n) (h : ∀ m, m < a.length → l[m]?.getD 0 = if m < n ∨ a.length ≤ m + n then a[a.length - 1 - m]?.getD 0 else a[m]?.getD 0) :
  ∀ m, m < a.length → ((l.set n (l[a.length - 1 - n]?.getD 0)).set (a.length - 1 - n) (l[n]?.getD 0))[m]?.getD 0 = if m < n + 1 ∨ a.length ≤ m + (n + 1) then a[a.length - 1 - m]?.getD 0 else a[m]?.getD 0 := by
 intro m hm
 rw [set_getD (by simp; omega), set_getD (by omega)]
 have h1 := h n (by omega)
 have h2 := h (a.length - 1 - n) (by omega)
 rw [if_neg (by omega)] at h1 h2
 by_cases e1 : a.length - 1 - n = m
 ·rw [if_pos e1, if_pos (by omega), h1]; congr 2; omega
 ·rw [if_neg e1]
  by_cases e2 : n = m
  ·rw [if_pos e2, if_pos (by omega), h2, e2]
  ·rw [if_neg e2, h m hm]
   by_cases e3 : m < n ∨ a.length ≤ m + n
   ·rw [if_pos e3, if_pos (by omega)]
   ·rw [if_neg e3, if_neg (by omega)]
theorem revEnd {a l : List Int} {n : Nat} (hl : l.length = a.length) (hn : a.length ≤ 2 * n + 1) (h : ∀ m, m < a.length → l[m]?.getD 0 = if m < n ∨ a.length ≤ m + n then a[a.length - 1 - m]?.getD 0 else a[m]?.getD 0) : l = a.reverse := by
 refine ext_getD (by simp [hl]) fun m hm => ?_
 rw [rev_get (by omega), h m (by omega)]
 split
 ·rfl
 ·congr 2; omega

theorem sp85 (n : Int) (h0 : 0 < n) (h1 : n < 1000000000000) : SpecP Tryd.prog G 85 [.nils, .int .i64 n] (.full 0 0) [blkN .i64 []] := by
 refine fnP_spec hcm hmx T0ok ok85 rfl (ob_o85 n) ?_
 simp
 omega
theorem ct85 : CtOk Tryd.prog G 85 (eGrow .i64 8) := by
 intro args r h hp
 unfold eGrow at h
 split at h <;> cases h
 obtain ⟨h0, h1⟩ := hp
 exact sp85 _ h0 h1

theorem sp86 (n : Int) (h0 : 0 < n) (h1 : n < 1000000000000) : SpecP Tryd.prog G 86 [.nils, .int .i64 n] (.full 0 0) [blkN .u8 []] := by
 refine fnP_spec hcm hmx T0ok ok86 rfl (ob_o86 n) ?_
 simp
 omega
theorem ct86 : CtOk Tryd.prog G 86 (eGrow .u8 1) := by
 intro args r h hp
 unfold eGrow at h
 split at h <;> cases h
 obtain ⟨h0, h1⟩ := hp
 exact sp86 _ h0 h1

theorem uAok : CtsOk Tryd.prog G uA := ⟨ct85, ct86, tlAok⟩
theorem UAok : TabOk Tryd.prog G UA := tabL_ok noCh_ok uAok

theorem sp65 (x y : List Int) (h0 : 0 < x.length + y.length) (h1 : x.length + y.length < 100000000000) : SpecP Tryd.prog G 65 [.imm (.vals [.imm (.ints .i64 x) x.length none, .imm (.ints .i64 y) y.length none]) 2 none] (.full 0 (x ++ y).length) [blkN .i64 (x ++ y)] := by
 refine fnP_spec hcm hmx UAok ok65 rfl (ob_o65 x y) ?_
 simp
 omega
theorem ct65 : CtOk Tryd.prog G 65 (eCat .i64) := by
 intro args r h hp
 unfold eCat at h
 split at h
 ·rw [cond_eq_ite] at h
  split at h
  ·rename_i hk
   rw [Bool.and_eq_true] at hk
   cases h
   obtain ⟨rfl, rfl, h0, h1⟩ := hp
   cases beqK_ok hk.1; cases beqK_ok hk.2
   exact (sp65 _ _ h0 h1).caps
  ·cases h
 ·cases h

theorem sp66 (x y : List Int) (h0 : 0 < x.length + y.length) (h1 : x.length + y.length < 100000000000) : SpecP Tryd.prog G 66 [.imm (.vals [.imm (.ints .u8 x) x.length none, .imm (.ints .u8 y) y.length none]) 2 none] (.full 0 (x ++ y).length) [blkN .u8 (x ++ y)] := by
 refine fnP_spec hcm hmx UAok ok66 rfl (ob_o66 x y) ?_
 simp
 omega
theorem ct66 : CtOk Tryd.prog G 66 (eCat .u8) := by
 intro args r h hp
 unfold eCat at h
 split at h
 ·rw [cond_eq_ite] at h
  split at h
  ·rename_i hk
   rw [Bool.and_eq_true] at hk
   cases h
   obtain ⟨rfl, rfl, h0, h1⟩ := hp
   cases beqK_ok hk.1; cases beqK_ok hk.2
   exact (sp66 _ _ h0 h1).caps
  ·cases h
 ·cases h

theorem uBok : CtsOk Tryd.prog G uB := ⟨ct65, ct66, uAok⟩

theorem sp41b (a : List Int) : SpecD Tryd.prog G (.fn 41 [] []) [.full 8640 a.length] [(8640, .blk (blkN .i64 a))] (.fullc 8640 a.length a.length) [] [] := by
 refine fnD_spec hcm hmx T0ok ok41 rfl (ob_d_41b a) ?_
 simp
theorem sp41t (a : List Int) : SpecD Tryd.prog G (.fn 41 [] []) [.full 8256 a.length] [(8256, .blk (blkN .i64 a))] (.fullc 8256 a.length a.length) [] [] := by
 refine fnD_spec hcm hmx T0ok ok41 rfl (ob_d_41t a) ?_
 simp
theorem sp68 (a : List Int) (hl : a.length < 1000000000000) : SpecD Tryd.prog G (.fn 68 [] []) [.fullc 8256 a.length a.length] [(8256, .blk (blkN .i64 a))] (.tup []) [(8256, .blk (blkN .i64 a.reverse))] [] := by
 refine fnD_spec hcm hmx T0ok ok68 rfl (ob_d_68 a) ?_
 simp only [ltb_iff, ltb_no, leb_iff, leb_no, ltn_iff, ltn_no, len'_iff, len'_no, inR_i64, inR_u8, inR_i32, size_ints, size_bools, size_vals, size_cells, getD_drop, List.getElem?_drop, beq_iff_eq, beq_eq_false_iff_ne, bne_iff_ne, bne_eq_false_iff_eq, ne_eq, Nat.zero_add, Nat.add_zero, Nat.mul_one, Int.toNat_natCast, and_true, true_and, List.length_drop, List.length_append, List.length_cons, List.length_nil, List.length_set, List.getD_eq_getElem?_getD, implies_true, iI, iL, Bool.not_eq_true', Bool.not_eq_false', Int.natCast_inj]
 refine ⟨by omega, ⟨0, rfl, by omega, by omega, fun m hm => by rw [if_neg (by omega)]⟩, ?_⟩
 rintro ⟨i, j, l⟩ ⟨n, rfl, rfl, h1, h2, h3⟩
 simp only [Int.toNat_natCast] at h2 h3 ⊢
 refine ⟨fun hlt => ?_, fun hge => ?_⟩
 ·have ej : ((a.length : Int) - 1 - n).toNat = a.length - 1 - n := by omega
  rw [ej]
  have hs := revStep h2 (by omega) h3
  refine ⟨by omega, by omega, by omega, by omega, by omega, by omega, by omega, by omega, by omega, by omega, by omega, by omega, by omega, by omega, by omega, by omega, by omega, by omega, by omega, by omega, by omega, by omega, ⟨n + 1, by omega, by omega, by omega, by omega, hs⟩, by omega⟩
 ·have := revEnd h2 (by omega) h3
  exact ⟨by rw [this], this⟩

theorem sp61b (a : List Int) : SpecD Tryd.prog G (.fn 61 [] []) [.full 8640 a.length] [(8640, .blk (blkN .u8 a))] (.fullc 8640 a.length a.length) [] [] := by
 refine fnD_spec hcm hmx T0ok ok61 rfl (ob_d_61b a) ?_
 simp
theorem sp61t (a : List Int) : SpecD Tryd.prog G (.fn 61 [] []) [.full 8256 a.length] [(8256, .blk (blkN .u8 a))] (.fullc 8256 a.length a.length) [] [] := by
 refine fnD_spec hcm hmx T0ok ok61 rfl (ob_d_61t a) ?_
 simp
theorem sp70 (a : List Int) (hl : a.length < 1000000000000) : SpecD Tryd.prog G (.fn 70 [] []) [.fullc 8256 a.length a.length] [(8256, .blk (blkN .u8 a))] (.tup []) [(8256, .blk (blkN .u8 a.reverse))] [] := by
 refine fnD_spec hcm hmx T0ok ok70 rfl (ob_d_70 a) ?_
 simp only [ltb_iff, ltb_no, leb_iff, leb_no, ltn_iff, ltn_no, len'_iff, len'_no, inR_i64, inR_u8, inR_i32, size_ints, size_bools, size_vals, size_cells, getD_drop, List.getElem?_drop, beq_iff_eq, beq_eq_false_iff_ne, bne_iff_ne, bne_eq_false_iff_eq, ne_eq, Nat.zero_add, Nat.add_zero, Nat.mul_one, Int.toNat_natCast, and_true, true_and, List.length_drop, List.length_append, List.length_cons, List.length_nil, List.length_set, List.getD_eq_getElem?_getD, implies_true, iI, iL, Bool.not_eq_true', Bool.not_eq_false', Int.natCast_inj]
 refine ⟨by omega, ⟨0, rfl, by omega, by omega, fun m hm => by rw [if_neg (by omega)]⟩, ?_⟩
 rintro ⟨i, j, l⟩ ⟨n, rfl, rfl, h1, h2, h3⟩
 simp only [Int.toNat_natCast] at h2 h3 ⊢
 refine ⟨fun hlt => ?_, fun hge => ?_⟩
 ·have ej : ((a.length : Int) - 1 - n).toNat = a.length - 1 - n := by omega
  rw [ej]
  have hs := revStep h2 (by omega) h3
  refine ⟨by omega, by omega, by omega, by omega, by omega, by omega, by omega, by omega, by omega, by omega, by omega, by omega, by omega, by omega, by omega, by omega, by omega, by omega, by omega, by omega, by omega, by omega, ⟨n + 1, by omega, by omega, by omega, by omega, hs⟩, by omega⟩
 ·have := revEnd h2 (by omega) h3
  exact ⟨by rw [this], this⟩

theorem chTok1 {k : IntKind} {id f1 : Nat} (h1 : ∀ a, SpecD Tryd.prog G (.fn f1 [] []) [.full id a.length] [(id, .blk (blkN k a))] (.fullc id a.length a.length) [] []) : ChOk Tryd.prog G (chT1 k id f1) := by
 intro h cv args r hr hp
 unfold chT1 at hr
 split at hr
 ·simp only [cond_eq_ite] at hr
  split at hr
  ·rename_i hi
   rw [Bool.and_eq_true] at hi
   have e1 := Nat.eq_of_beq_eq_true hi.1; have e2 := Nat.eq_of_beq_eq_true hi.2; subst e1; subst e2
   cases hr
   obtain ⟨rfl, rfl⟩ := hp
   exact h1 _
  ·cases hr
 ·cases hr
theorem chTok {k : IntKind} {id f1 f2 : Nat} (h1 : ∀ a, SpecD Tryd.prog G (.fn f1 [] []) [.full id a.length] [(id, .blk (blkN k a))] (.fullc id a.length a.length) [] []) (h2 : ∀ a : List Int, a.length < 1000000000000 → SpecD Tryd.prog G (.fn f2 [] []) [.fullc id a.length a.length] [(id, .blk (blkN k a))] (.tup []) [(id, .blk (blkN k a.reverse))] []) : ChOk Tryd.prog G (chT k id f1 f2) := by
 intro h cv args r hr hp
 unfold chT at hr
 split at hr
 ·simp only [cond_eq_ite] at hr
  split at hr
  ·rename_i hi
   rw [Bool.and_eq_true] at hi
   have e1 := Nat.eq_of_beq_eq_true hi.1; have e2 := Nat.eq_of_beq_eq_true hi.2; subst e1; subst e2
   cases hr
   obtain ⟨rfl, rfl⟩ := hp
   exact h1 _
  ·cases hr
 ·simp only [cond_eq_ite] at hr
  split at hr
  ·rename_i hi
   rw [Bool.and_eq_true] at hi
   have e1 := Nat.eq_of_beq_eq_true hi.1; have e2 := Nat.eq_of_beq_eq_true hi.2; subst e1; subst e2
   cases hr
   obtain ⟨rfl, rfl, rfl, hl⟩ := hp
   exact h2 _ hl
  ·cases hr
 ·cases hr
theorem UB42ok : TabOk Tryd.prog G UB42 := tabL_ok (chTok1 sp41b) uBok
theorem UB43ok : TabOk Tryd.prog G UB43 := tabL_ok (chTok1 sp61b) uBok

theorem sp42 (a : List Int) (i : Int) (h0 : 0 < a.length) (hl : a.length < 100000000000) (h1 : 0 ≤ i) (h2 : i ≤ a.length) : SpecP Tryd.prog G 42 [.imm (.ints .i64 a) a.length none, .int .i64 i] (.fullc 0 (rotL' a i.toNat).length (rotL' a i.toNat).length) [blkN .i64 (rotL' a i.toNat)] := by
 refine fnP_spec hcm hmx UB42ok ok42 rfl (ob_o42 a i) ?_
 simp [rotL', h1]
 omega
theorem ct42 : CtOk Tryd.prog G 42 (eBegun .i64) := by
 intro args r h hp
 unfold eBegun at h
 split at h
 ·rw [cond_eq_ite] at h
  split at h
  ·rename_i hk
   cases h
   cases beqK_ok hk
   obtain ⟨rfl, h0, hl, h1, h2⟩ := hp
   exact (sp42 _ _ h0 hl h1 h2).caps
  ·cases h
 ·cases h
theorem sp67 (a : List Int) (h0 : 0 < a.length) (hl : a.length < 100000000000) : SpecP Tryd.prog G 67 [.imm (.ints .i64 a) a.length none] (.full 0 a.length) [blkN .i64 a] := by
 refine fnP_spec hcm hmx T0ok ok67 rfl (ob_o67 a) ?_
 simp [h0]
 omega
theorem sp67z : SpecP Tryd.prog G 67 [.imm (.ints .i64 []) 0 none] (.imm (.ints .i64 []) 0 none) [] := by
 refine fnP_spec hcm hmx T0ok ok67 rfl ob_o67z ?_
 simp
theorem sp68z : SpecP Tryd.prog G 68 [.imm (.ints .i64 []) 0 none] (.tup []) [] := by
 refine fnP_spec hcm hmx T0ok ok68 rfl ob_o68z ?_
 simp
theorem ct67 : CtOk Tryd.prog G 67 (eCloneP .i64) := by
 intro args r h hp
 unfold eCloneP at h
 split at h
 ·rw [cond_eq_ite] at h
  split at h
  ·rename_i hk
   cases h
   cases beqK_ok hk
   obtain ⟨rfl, h0, hl⟩ := hp
   exact (sp67 _ h0 hl).caps
  ·cases h
 ·cases h
theorem ct67z : CtOk Tryd.prog G 67 (eCloneZ .i64) := by
 intro args r h hp
 unfold eCloneZ at h
 split at h
 ·rw [cond_eq_ite] at h
  split at h
  ·rename_i hk
   cases h
   cases beqK_ok hk
   obtain ⟨rfl, rfl⟩ := hp
   exact sp67z.caps
  ·cases h
 ·cases h
theorem ct68z : CtOk Tryd.prog G 68 (eRevZ .i64) := by
 intro args r h hp
 unfold eRevZ at h
 split at h
 ·rw [cond_eq_ite] at h
  split at h
  ·rename_i hk
   cases h
   cases beqK_ok hk
   obtain ⟨rfl, rfl⟩ := hp
   exact sp68z.caps
  ·cases h
 ·cases h

theorem sp43 (a : List Int) (i : Int) (h0 : 0 < a.length) (hl : a.length < 100000000000) (h1 : 0 ≤ i) (h2 : i ≤ a.length) : SpecP Tryd.prog G 43 [.imm (.ints .u8 a) a.length none, .int .i64 i] (.fullc 0 (rotL' a i.toNat).length (rotL' a i.toNat).length) [blkN .u8 (rotL' a i.toNat)] := by
 refine fnP_spec hcm hmx UB43ok ok43 rfl (ob_o43 a i) ?_
 simp [rotL', h1]
 omega
theorem ct43 : CtOk Tryd.prog G 43 (eBegun .u8) := by
 intro args r h hp
 unfold eBegun at h
 split at h
 ·rw [cond_eq_ite] at h
  split at h
  ·rename_i hk
   cases h
   cases beqK_ok hk
   obtain ⟨rfl, h0, hl, h1, h2⟩ := hp
   exact (sp43 _ _ h0 hl h1 h2).caps
  ·cases h
 ·cases h
theorem sp69 (a : List Int) (h0 : 0 < a.length) (hl : a.length < 100000000000) : SpecP Tryd.prog G 69 [.imm (.ints .u8 a) a.length none] (.full 0 a.length) [blkN .u8 a] := by
 refine fnP_spec hcm hmx T0ok ok69 rfl (ob_o69 a) ?_
 simp [h0]
 omega
theorem sp69z : SpecP Tryd.prog G 69 [.imm (.ints .u8 []) 0 none] (.imm (.ints .u8 []) 0 none) [] := by
 refine fnP_spec hcm hmx T0ok ok69 rfl ob_o69z ?_
 simp
theorem sp70z : SpecP Tryd.prog G 70 [.imm (.ints .u8 []) 0 none] (.tup []) [] := by
 refine fnP_spec hcm hmx T0ok ok70 rfl ob_o70z ?_
 simp
theorem ct69 : CtOk Tryd.prog G 69 (eCloneP .u8) := by
 intro args r h hp
 unfold eCloneP at h
 split at h
 ·rw [cond_eq_ite] at h
  split at h
  ·rename_i hk
   cases h
   cases beqK_ok hk
   obtain ⟨rfl, h0, hl⟩ := hp
   exact (sp69 _ h0 hl).caps
  ·cases h
 ·cases h
theorem ct69z : CtOk Tryd.prog G 69 (eCloneZ .u8) := by
 intro args r h hp
 unfold eCloneZ at h
 split at h
 ·rw [cond_eq_ite] at h
  split at h
  ·rename_i hk
   cases h
   cases beqK_ok hk
   obtain ⟨rfl, rfl⟩ := hp
   exact sp69z.caps
  ·cases h
 ·cases h
theorem ct70z : CtOk Tryd.prog G 70 (eRevZ .u8) := by
 intro args r h hp
 unfold eRevZ at h
 split at h
 ·rw [cond_eq_ite] at h
  split at h
  ·rename_i hk
   cases h
   cases beqK_ok hk
   obtain ⟨rfl, rfl⟩ := hp
   exact sp70z.caps
  ·cases h
 ·cases h

theorem uPok : CtsOk Tryd.prog G uP := ⟨ct67, ct69, uBok⟩
theorem UP44ok : TabOk Tryd.prog G UP44 := tabL_ok (chTok sp41t sp68) uPok
theorem UP45ok : TabOk Tryd.prog G UP45 := tabL_ok (chTok sp61t sp70) uPok
theorem uZok : CtsOk Tryd.prog G uZ := ⟨ct67z, ct69z, ct68z, ct70z, uBok⟩
theorem UZ44ok : TabOk Tryd.prog G UZ44 := tabL_ok noCh_ok uZok
theorem sp44 (a : List Int) (hl : a.length < 100000000000) : SpecP Tryd.prog G 44 [.imm (.ints .i64 a) a.length none] (.imm (.ints .i64 a.reverse) a.length (some a.length)) [] := by
 by_cases h : a = []
 ·subst h
  refine fnP_spec hcm hmx UZ44ok ok44 rfl ob_o44z ?_
  simp
 ·refine fnP_spec hcm hmx UP44ok ok44 rfl (ob_o44p a) ?_
  have : 0 < a.length := List.length_pos_iff.2 h
  simp [this, hl]
  omega
theorem sp45 (a : List Int) (hl : a.length < 100000000000) : SpecP Tryd.prog G 45 [.imm (.ints .u8 a) a.length none] (.imm (.ints .u8 a.reverse) a.length (some a.length)) [] := by
 by_cases h : a = []
 ·subst h
  refine fnP_spec hcm hmx UZ44ok ok45 rfl ob_o45z ?_
  simp
 ·refine fnP_spec hcm hmx UP45ok ok45 rfl (ob_o45p a) ?_
  have : 0 < a.length := List.length_pos_iff.2 h
  simp [this, hl]
  omega
theorem ct44 : CtOk Tryd.prog G 44 (eTurned .i64) := by
 intro args r h hp
 unfold eTurned at h
 split at h
 ·rw [cond_eq_ite] at h
  split at h
  ·rename_i hk
   cases h
   cases beqK_ok hk
   obtain ⟨rfl, hl⟩ := hp
   exact (sp44 _ hl).caps
  ·cases h
 ·cases h
theorem ct45 : CtOk Tryd.prog G 45 (eTurned .u8) := by
 intro args r h hp
 unfold eTurned at h
 split at h
 ·rw [cond_eq_ite] at h
  split at h
  ·rename_i hk
   cases h
   cases beqK_ok hk
   obtain ⟨rfl, hl⟩ := hp
   exact (sp45 _ hl).caps
  ·cases h
 ·cases h
theorem uCok : CtsOk Tryd.prog G uC := ⟨ct42, ct43, ct44, ct45, uBok⟩
theorem UCok : TabOk Tryd.prog G UC := tabL_ok noCh_ok uCok
theorem sp19 (a k : List Int) (i : Int) (hl : a.length < 100000000000) (hc : chk a k = 0) (h0 : 0 ≤ i) (h1 : i < a.length) : SpecP Tryd.prog G 19 [fanV a k, .int .i64 i] (.tup [.agg [.fullc 0 (rotL' a i.toNat).length (rotL' a i.toNat).length, .fullc 1 (rotL' k i.toNat).length (rotL' k i.toNat).length], .int .i64 0]) [blkN .i64 (rotL' a i.toNat), blkN .u8 (rotL' k i.toNat)] := by
 refine fnP_spec hcm hmx UCok ok19 rfl (ob_o19 a k i) ?_
 have hk := chk_len hc
 simp only [ltb_iff, ltb_no, leb_iff, leb_no, ltn_iff, ltn_no, len'_iff, len'_no, inR_i64, inR_u8, inR_i32, size_ints, size_bools, size_vals, size_cells, getD_drop, List.getElem?_drop, beq_iff_eq, beq_eq_false_iff_ne, bne_iff_ne, bne_eq_false_iff_eq, ne_eq, Nat.zero_add, Nat.add_zero, Nat.mul_one, Int.toNat_natCast, and_true, true_and, List.length_drop, List.length_append, List.length_cons, List.length_nil, List.length_set, List.getD_eq_getElem?_getD, implies_true, iI, iL, Bool.not_eq_true', Bool.not_eq_false', Int.natCast_inj, len_rot]
 refine ⟨by omega, hc, by omega, ?_, by omega, by omega⟩
 split <;> omega
theorem sp20p (a k : List Int) (hl : a.length < 100000000000) (h0 : 0 < k.length) (hk : k.length < 100000000000) : SpecP Tryd.prog G 20 [fanV a k] (.agg [immL .i64 a.reverse, .fullc 0 (mirK' k).length (mirK' k).length]) [blkN .u8 (mirK' k)] := by
 refine fnP_spec hcm hmx UCok ok20 rfl (ob_o20p a k) ?_
 have e : ((k.length : Int) - 1).toNat = k.length - 1 := by omega
 simp only [ltb_iff, ltb_no, leb_iff, leb_no, ltn_iff, ltn_no, len'_iff, len'_no, inR_i64, inR_u8, inR_i32, size_ints, size_bools, size_vals, size_cells, getD_drop, List.getElem?_drop, beq_iff_eq, beq_eq_false_iff_ne, bne_iff_ne, bne_eq_false_iff_eq, ne_eq, Nat.zero_add, Nat.add_zero, Nat.mul_one, Int.toNat_natCast, and_true, true_and, List.length_drop, List.length_append, List.length_cons, List.length_nil, List.length_set, List.getD_eq_getElem?_getD, implies_true, iI, iL, Bool.not_eq_true', Bool.not_eq_false', Int.natCast_inj, List.length_reverse, e, mirK']
 omega
theorem sp20 (a k : List Int) (hl : a.length < 100000000000) (hk : k.length < 100000000000) : SpecP Tryd.prog G 20 [fanV a k] (fanC a.reverse (mirK' k)) [] := by
 by_cases h : k = []
 ·subst h
  refine fnP_spec hcm hmx UCok ok20 rfl (ob_o20z a []) ?_
  simp [hl, mirK', rotL']
 ·refine fnP_spec hcm hmx UCok ok20 rfl (ob_o20f a k) ?_
  have : 0 < k.length := List.length_pos_iff.2 h
  have e : ((k.length : Int) - 1).toNat = k.length - 1 := by omega
  simp only [ltb_iff, ltb_no, leb_iff, leb_no, ltn_iff, ltn_no, len'_iff, len'_no, inR_i64, inR_u8, inR_i32, size_ints, size_bools, size_vals, size_cells, getD_drop, List.getElem?_drop, beq_iff_eq, beq_eq_false_iff_ne, bne_iff_ne, bne_eq_false_iff_eq, ne_eq, Nat.zero_add, Nat.add_zero, Nat.mul_one, Int.toNat_natCast, and_true, true_and, List.length_drop, List.length_append, List.length_cons, List.length_nil, List.length_set, List.getD_eq_getElem?_getD, implies_true, iI, iL, Bool.not_eq_true', Bool.not_eq_false', Int.natCast_inj, List.length_reverse, e, mirK']
  omega
theorem ct20p : CtOk Tryd.prog G 20 e20p := by
 intro args r h hp
 unfold e20p at h
 split at h <;> cases h
 obtain ⟨rfl, rfl, h1, h2, h3⟩ := hp
 exact (sp20p _ _ h1 h2 h3).caps
theorem ct20 : CtOk Tryd.prog G 20 e20 := by
 intro args r h hp
 unfold e20 at h
 split at h <;> cases h
 obtain ⟨rfl, rfl, h1, h2⟩ := hp
 exact (sp20 _ _ h1 h2).caps
theorem ct19 : CtOk Tryd.prog G 19 e19m := by
 intro args r h hp
 unfold e19m at h
 split at h <;> cases h
 obtain ⟨rfl, rfl, h1, h2, h3, h4⟩ := hp
 exact (sp19 _ _ _ h1 h2 h3 h4).caps
theorem UOok : TabOk Tryd.prog G UO := tabL_ok noCh_ok ⟨ct20p, uCok⟩
theorem UOzok : TabOk Tryd.prog G UOz := tabL_ok noCh_ok ⟨ct20, uCok⟩
theorem ov_step {k : List Int} {n : Nat} (h : n < k.length) : ((ovK' k).take n ++ k.drop n)[n]?.getD 0 = k[n]?.getD 0 ∧ ∀ v, v = (if k[n]?.getD 0 = 1 ∨ k[n]?.getD 0 = 2 then 3 - k[n]?.getD 0 else k[n]?.getD 0) → ((ovK' k).take n ++ k.drop n).set n v = (ovK' k).take (n + 1) ++ k.drop (n + 1) := by
 have hl : ((ovK' k).take n).length = n := by rw [List.length_take, len_ov]; omega
 have e1 : k.drop n = k[n]?.getD 0 :: k.drop (n + 1) := drop_step h
 refine ⟨?_, fun v hv => ?_⟩
 ·rw [List.getElem?_append_right (by omega), hl, Nat.sub_self, e1]; rfl
 ·have e2 : (ovK' k).take (n + 1) = (ovK' k).take n ++ [v] := by
   rw [List.take_add_one, hv, ← ov_get h, List.getElem?_eq_getElem (by rw [len_ov]; exact h)]; rfl
  rw [e1, e2, List.set_append_right _ _ (by omega), hl, Nat.sub_self, List.set_cons_zero, List.append_assoc]; rfl
theorem sp21 (a k : List Int) (hl : a.length < 100000000000) (hk : k.length < 100000000000) : SpecP Tryd.prog G 21 [fanV a k] (fanC a.reverse (ovK' (mirK' k))) [] := by
 by_cases h : k = []
 ·subst h
  refine fnP_spec hcm hmx UOzok ok21 rfl (ob_o21z a) ?_
  simp [hl, mirK', rotL']
 ·have h0 : 0 < k.length := List.length_pos_iff.2 h
  have hm := len_mir k
  refine fnP_spec hcm hmx UOok ok21 rfl (ob_o21 a k) ?_
  generalize hM : mirK' k = M at *
  simp only [ltb_iff, ltb_no, leb_iff, leb_no, ltn_iff, ltn_no, len'_iff, len'_no, inR_i64, inR_u8, inR_i32, size_ints, size_bools, size_vals, size_cells, getD_drop, List.getElem?_drop, beq_iff_eq, beq_eq_false_iff_ne, bne_iff_ne, bne_eq_false_iff_eq, ne_eq, Nat.zero_add, Nat.add_zero, Nat.mul_one, Int.toNat_natCast, and_true, true_and, List.length_drop, List.length_append, List.length_cons, List.length_nil, List.length_set, List.getD_eq_getElem?_getD, implies_true, iI, iL, Bool.not_eq_true', Bool.not_eq_false', Int.natCast_inj, len_ov]
  refine ⟨by omega, ⟨0, rfl, by omega, by simp⟩, ?_⟩
  rintro ⟨i, l⟩ ⟨n, rfl, h1, rfl⟩
  have hlen : ((ovK' M).take n ++ M.drop n).length = M.length := by simp [len_ov]; omega
  simp only [Int.toNat_natCast, hlen, true_and, and_true, List.length_set]
  refine ⟨fun hlt => ?_, fun hge => ?_⟩
  ·obtain ⟨g1, g2⟩ := ov_step (k := M) (n := n) (by omega)
   rw [g1]
   refine ⟨by omega, by omega, by omega, fun c1 => ?_, fun c1 => ⟨fun c2 => ?_, fun c2 => ?_⟩⟩
   ·exact ⟨by omega, by omega, by omega, by omega, by omega, ⟨n + 1, by omega, by omega, g2 _ (by rw [if_pos (.inl c1)])⟩, by omega⟩
   ·exact ⟨by omega, by omega, by omega, by omega, by omega, ⟨n + 1, by omega, by omega, g2 _ (by rw [if_pos (.inr c2)])⟩, by omega⟩
   ·refine ⟨by omega, ⟨n + 1, by omega, by omega, ?_⟩, by omega⟩
    rw [← g2 _ rfl, if_neg (by omega), ← g1]
    apply Eq.symm
    rw [List.getElem?_eq_getElem (by omega)]
    exact List.set_getElem_self _
  ·have : n = M.length := by omega
   subst this
   rw [List.take_of_length_le (by rw [len_ov]; omega), List.drop_length, List.append_nil]
theorem ct21 : CtOk Tryd.prog G 21 e21 := by
 intro args r h hp
 unfold e21 at h
 split at h <;> cases h
 obtain ⟨rfl, rfl, h1, h2⟩ := hp
 exact (sp21 _ _ h1 h2).caps
end Go.Proofs.YtfafinkgmhkdmaaDoor.X
