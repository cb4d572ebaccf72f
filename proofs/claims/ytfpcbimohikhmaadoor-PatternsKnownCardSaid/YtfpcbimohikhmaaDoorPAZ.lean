/-
 The plain law of patterns: what set and look up do to valid patterns.
-/
import Derived.Test.YtfpcbimohikhmaaDoorPZ
set_option maxRecDepth 1000000
set_option linter.unusedVariables false
set_option linter.unusedSimpArgs false
namespace Go.Proofs.YtfpcbimohikhmaaDoor.X
open Go Go.Ab

/-! ### A unit, named from either side -/
def beqI (a b : Int) : Bool := a == b
def invOk (w h i e : Int) : Bool := ltb (nbI w h i e) 0 || (beqI (nbI w h (nbI w h i e) e) i && (!beqI (nbI w h i e) i && ltb (nbI w h i e) (4 * w * h)))
theorem inv_all : overS 5 invOk = true := by kernel_rfl
theorem inv_ok {w h i e : Int} (hs : s5 w h) (hb : hasB w h i = true) (he : 0 ≤ e ∧ e ≤ 2) (hn : 0 ≤ nbI w h i e) : nbI w h (nbI w h i e) e = i ∧ nbI w h i e ≠ i ∧ hasB w h (nbI w h i e) = true := by
 obtain ⟨s1, s2, s3, s4⟩ := id hs
 have h1 := overS_ok inv_all ⟨s1, s2⟩ ⟨s3, s4⟩ (hasB_iff.1 hb) he
 unfold invOk at h1
 simp only [Bool.or_eq_true, ltb_iff, Bool.and_eq_true, beqI, beq_iff_eq, Bool.not_eq_true', beq_eq_false_iff_ne, ne_eq] at h1
 rcases h1 with h1 | ⟨h1, h2, h3⟩
 ·omega
 ·exact ⟨h1, h2, hasB_iff.2 ⟨hn, h3⟩⟩
/-- The code of the unit behind an edge. -/
def cod (w h i e : Int) : Int := 3 * min i (nbI w h i e) + e
theorem cod_mem {w h i e : Int} (hs : s5 w h) (hb : hasB w h i = true) (he : 0 ≤ e ∧ e ≤ 2) (hn : 0 ≤ nbI w h i e) : cod w h i e ∈ units w h := by
 obtain ⟨h1, h2, h3⟩ := inv_ok hs hb he hn
 have e1 : cod w h i e / 3 = min i (nbI w h i e) := by unfold cod; omega
 have e2 : cod w h i e % 3 = e := by unfold cod; omega
 refine units_of hs ?_ ?_
 ·rw [e1]
  rcases Int.le_total i (nbI w h i e) with hle | hle
  ·rw [show min i (nbI w h i e) = i by omega]; exact hb
  ·rw [show min i (nbI w h i e) = nbI w h i e by omega]; exact h3
 ·rw [e1, e2]
  rcases Int.le_total i (nbI w h i e) with hle | hle
  ·rw [show min i (nbI w h i e) = i by omega]; omega
  ·rw [show min i (nbI w h i e) = nbI w h i e by omega, h1]; omega
theorem ne_ok {w h i e : Int} (hs : s5 w h) (hn : neE w h i e = 0) : hasB w h i = true ∧ e ≤ 2 ∧ 0 ≤ nbI w h i e := by
 have h0 := neE_ok.2 hn
 unfold okN okI at h0
 simp only [Bool.and_eq_true, decide_eq_true_eq, leb_iff] at h0
 exact ⟨h0.1.2, h0.2.1, h0.2.2⟩
theorem at_eq {w h : Int} {l : List Cr} {i e : Int} (hs : s5 w h) (hv : vP w h l) (he : 0 ≤ e) : atE w h l i e = neE w h i e ∧ (neE w h i e = 0 → atC w h l i e = cod w h i e / 3 ∧ atD w h l i e = cod w h i e % 3 ∧ atI w h l i e = (lbN (cod w h i e) l : Nat) ∧ atF w h l i e = lbF (cod w h i e) l) := by
 have hc := vP_chk hs hv
 have h1 : atE w h l i e = neE w h i e := by unfold atE; rw [hc]; rfl
 refine ⟨h1, fun hn => ?_⟩
 have hB : atB w h l i e = true := by unfold atB; rw [h1, hn]; rfl
 obtain ⟨-, n2, n3, n4, n5, n6⟩ := nm_ok (w := w) (h := h) (i := i) he hn
 have hcd : 3 * nmC w h i e + nmE w h i e = cod w h i e := by rw [n4, n5]; rfl
 have h2 := (ne_ok hs hn).2.1
 unfold atC atD atI atF
 rw [hB, n4, n5]
 simp only [bI, cond_true, Bool.true_and]
 have e1 : cod w h i e / 3 = min i (nbI w h i e) := by unfold cod; omega
 have e2 : cod w h i e % 3 = e := by unfold cod; omega
 refine ⟨e1.symm, e2.symm, ?_, ?_⟩
 ·unfold lbI; rfl
 ·rw [lbF_eq]; rfl
theorem idxL_of : ∀ {us : List Int} {j : Nat} {c : Int} (i : Int), asc us → us[j]? = some c → idxL c us i = i + j
 | [], j, c, i, _, h => by simp at h
 | d :: us, 0, c, i, ha, h => by
  have : d = c := by simpa using h
  subst this
  simp [idxL]
 | d :: us, j + 1, c, i, ha, h => by
  obtain ⟨h1, h2⟩ := asc_tail ha
  have hj : us[j]? = some c := by simpa using h
  have := h2 c (List.mem_of_getElem? hj)
  simp only [idxL]
  rw [if_neg (by omega), idxL_of (i + 1) h1 hj]
  omega
theorem un_eq {w h i e : Int} {j : Nat} (hs : s5 w h) (he : 0 ≤ e) (hn : neE w h i e = 0) (hj : (units w h)[j]? = some (cod w h i e)) : unI w h i e = j := by
 obtain ⟨h1, h2, h3⟩ := ne_ok hs hn
 unfold unI
 rw [h1, decide_eq_true he, decide_eq_true h2, leb_iff.2 h3]
 have := idxL_of 0 (units_asc w h) hj
 simp only [Bool.and_self, cond_true]
 unfold cod at this
 rw [this]; omega
theorem un_no {w h i e : Int} (hs : s5 w h) (he : 0 ≤ e ∧ e ≤ 2) (hb : hasB w h i = true) : (neE w h i e = 0 ∨ neE w h i e = 7) ∧ (neE w h i e = 0 ↔ 0 ≤ nbI w h i e) ∧ (neE w h i e = 7 → unI w h i e = -1) := by
 have hok : okI w h i = true := by unfold okI; rw [okS_of hs, hb]; rfl
 unfold neE unI
 rw [hok, hb, decide_eq_true he.1, decide_eq_true he.2]
 simp only [cond_true, Bool.and_self, Bool.true_and]
 cases hl : leb 0 (nbI w h i e) with
 | true =>
  have := leb_iff.1 hl
  simp [bI]; omega
 | false =>
  have := leb_no.1 hl
  simp [bI]; omega
theorem cod_at {w h i e : Int} (hs : s5 w h) (he : 0 ≤ e) (hn : neE w h i e = 0) : ∃ j : Nat, j < (units w h).length ∧ (units w h)[j]? = some (cod w h i e) := by
 obtain ⟨h1, h2, h3⟩ := ne_ok hs hn
 obtain ⟨j, hj, hg⟩ := List.mem_iff_getElem.1 (cod_mem hs h1 ⟨he, h2⟩ h3)
 exact ⟨j, hj, by rw [List.getElem?_eq_getElem hj, hg]⟩
/-- Kind, of a valid pattern. -/
theorem kn_eq {w h : Int} {ks : List Int} {i e : Int} {j : Nat} (hs : s5 w h) (hk : kds w h ks) (he : 0 ≤ e) (hn : neE w h i e = 0) (hj : (units w h)[j]? = some (cod w h i e)) : knI w h (wthL (units w h) ks) i e = ks[j]?.getD 0 := by
 obtain ⟨h1, h2⟩ := at_eq (i := i) (e := e) hs ⟨ks, hk, rfl⟩ he
 obtain ⟨-, -, h3, h4⟩ := h2 hn
 unfold knI
 rw [h3, h4]
 unfold bI
 rw [cK_getR]
 exact getR_wthL (units_asc w h) hk.1 hj
/-- Set, of a valid pattern. -/
theorem se_eq {w h : Int} {ks : List Int} {i e k : Int} {j : Nat} (hs : s5 w h) (hk : kds w h ks) (he : 0 ≤ e) (hn : neE w h i e = 0) (hj : (units w h)[j]? = some (cod w h i e)) (hk3 : 0 ≤ k ∧ k ≤ 3) :
  seE w h (wthL (units w h) ks) i e k = 0 ∧ seL w h (wthL (units w h) ks) i e k = wthL (units w h) (ks.set j k) := by
 obtain ⟨h1, h2⟩ := at_eq (i := i) (e := e) hs ⟨ks, hk, rfl⟩ he
 obtain ⟨a1, a2, h3, h4⟩ := h2 hn
 have hB : atB w h (wthL (units w h) ks) i e = true := by unfold atB; rw [h1, hn]; rfl
 have hK : (k == 0 || kdB k) = true := by
  rw [Bool.or_eq_true, beq_iff_eq, kdB_iff]; omega
 have hE : seE w h (wthL (units w h) ks) i e k = 0 := by unfold seE; rw [hB, hK]; rfl
 refine ⟨hE, ?_⟩
 unfold seL
 rw [hE, h3, h4, a1, a2]
 show putL _ _ _ _ = _
 rw [putL_eq, put_setR, setR_wthL (units_asc w h) hk.1 hj]
theorem kds_set {w h : Int} {ks : List Int} (hk : kds w h ks) (j : Nat) {k : Int} (h3 : 0 ≤ k ∧ k ≤ 3) : kds w h (ks.set j k) := ⟨by rw [List.length_set]; exact hk.1, fun x hx => by
 rcases List.mem_or_eq_of_mem_set hx with h | rfl
 ·exact hk.2 x h
 ·exact h3⟩
/-- The kinds of a valid pattern. -/
theorem vP_kinds {w h : Int} {l : List Cr} (hv : vP w h l) : kds w h (kindsL (units w h) l) ∧ wthL (units w h) (kindsL (units w h) l) = l := by
 obtain ⟨ks, hk, rfl⟩ := hv
 rw [kinds_wthL (units_asc w h) hk.1]
 exact ⟨hk, rfl⟩
/-! ### Patterns of plain data -/
def cntOk (w h : Int) : Bool := Nat.ble (units w h).length (6 * w * h).toNat
theorem cnt_all : ((List.range 4).all fun a => (List.range 4).all fun b => cntOk ((a : Int) + 1) ((b : Int) + 1)) = true := by kernel_rfl
theorem cnt_ok {w h : Int} (hw : 1 ≤ w ∧ w ≤ 4) (hh : 1 ≤ h ∧ h ≤ 4) : (units w h).length ≤ (6 * w * h).toNat := by
 obtain ⟨a, ha⟩ := Int.eq_ofNat_of_zero_le (show 0 ≤ w - 1 by omega)
 obtain ⟨b, hb⟩ := Int.eq_ofNat_of_zero_le (show 0 ≤ h - 1 by omega)
 obtain rfl : w = (a : Int) + 1 := by omega
 obtain rfl : h = (b : Int) + 1 := by omega
 have h1 := List.all_eq_true.1 cnt_all a (List.mem_range.2 (by omega))
 have h2 := List.all_eq_true.1 h1 b (List.mem_range.2 (by omega))
 exact Nat.le_of_ble_eq_true h2
theorem wthL_cut (us ks : List Int) (h : us.length ≤ ks.length) : wthL us ks = wthL us (ks.take us.length) := by
 have := wthL_end us ks us.length (.inl (Nat.le_refl _))
 rw [List.take_length] at this
 exact this.symm
theorem of_vP {W H : Int} {ks : List Int} (h1 : 0 ≤ W ∧ W ≤ 255) (h2 : 0 ≤ H ∧ H ≤ 255) (hu : u8s ks) : vP (dim W) (dim H) (ofL W H ks) := by
 have hd1 := dim_ok h1
 have hd2 := dim_ok h2
 have hc := cnt_ok ⟨hd1.1, hd1.2.1⟩ ⟨hd2.1, hd2.2.1⟩
 have hl := pk_len (6 * dim W * dim H) ks
 refine ⟨(pkL (6 * dim W * dim H) ks).take (units (dim W) (dim H)).length, ⟨by rw [List.length_take]; omega, fun k hk => ?_⟩, ?_⟩
 ·have hk := List.mem_of_mem_take hk
  unfold pkL at hk
  rcases List.mem_append.1 hk with hk | hk
  ·obtain ⟨x, hx, rfl⟩ := List.mem_map.1 hk
   have := hu x (List.mem_of_mem_take hx)
   rw [Int.tmod_eq_emod_of_nonneg this.1]; omega
  ·obtain ⟨-, rfl⟩ := List.mem_replicate.1 hk
   omega
 ·exact wthL_cut _ _ (by omega)
/-! ### The opposite -/
theorem ot0 {k : Int} : otK k = 0 ↔ k = 0 := by unfold otK; split <;> (try split) <;> omega
theorem otot (k : Int) : otK (otK k) = k := by
 unfold otK
 by_cases h1 : k = 1
 ·simp [h1]
 ·by_cases h2 : k = 2
  ·simp [h2]
  ·simp [h1, h2]
theorem ot3 {k : Int} (h : 0 ≤ k ∧ k ≤ 3) : 0 ≤ otK k ∧ otK k ≤ 3 := by unfold otK; split <;> (try split) <;> omega
theorem opL_wthL : ∀ (us ks : List Int), opL (wthL us ks) = wthL us (ks.map otK)
 | [], ks => by simp [wthL, opL]
 | c :: us, [] => by simp [wthL, opL]
 | c :: us, k :: ks => by
  have ih := opL_wthL us ks
  simp only [wthL, List.map_cons]
  by_cases hk : k = 0
  ·rw [if_pos hk, if_pos (ot0.2 hk), ih]
  ·rw [if_neg hk, if_neg (fun e => hk (ot0.1 e)), ← ih]; rfl
theorem kds_ot {w h : Int} {ks : List Int} (hk : kds w h ks) : kds w h (ks.map otK) := ⟨by rw [List.length_map]; exact hk.1, fun x hx => by
 obtain ⟨y, hy, rfl⟩ := List.mem_map.1 hx
 exact ot3 (hk.2 y hy)⟩
theorem op_vP {w h : Int} {l : List Cr} (hv : vP w h l) : vP w h (opL l) := by
 obtain ⟨ks, hk, rfl⟩ := hv
 exact ⟨_, kds_ot hk, opL_wthL _ _⟩
theorem op_op (l : List Cr) : opL (opL l) = l := by
 unfold opL
 rw [List.map_map]
 refine (List.map_congr_left fun x _ => ?_).trans (List.map_id l)
 show (x.1, x.2.1, otK (otK x.2.2)) = x
 rw [otot]
end Go.Proofs.YtfpcbimohikhmaaDoor.X
