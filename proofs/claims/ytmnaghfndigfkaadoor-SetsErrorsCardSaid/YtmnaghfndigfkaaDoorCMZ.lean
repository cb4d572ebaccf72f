/-
 Text: the contract.
-/
import Derived.Test.YtmnaghfndigfkaaDoorOJZ
import Derived.Test.YtmnaghfndigfkaaDoorCKZ
import Derived.Test.YtmnaghfndigfkaaDoorPCZ
import Derived.Test.YtmnaghfndigfkaaDoorNZ
set_option maxRecDepth 1000000
set_option linter.unusedVariables false
set_option linter.unusedSimpArgs false
namespace Go.Proofs.YtmnaghfndigfkaaDoor.X
open Go Go.Ab

theorem ct101 : CtOk Tryd.prog G 101 e101 := by
 intro args r h hp
 unfold e101 at h
 split at h <;> cases h
 rename_i s c
 obtain ⟨h1, h2, h3⟩ := hp
 have := sp101 (s := s) (n := c.toNat) (by omega) (by omega)
 rw [Int.toNat_of_nonneg h1] at this
 exact this
theorem TJ49ok : TabOk Tryd.prog G TJ49 := tabL_ok noCh_ok ⟨ct61, ct101, trivial⟩
theorem lft_le (l : List Cl) : ∀ n : Nat, lftF l n ≤ kX l 0 ∧ ∀ i : Nat, i < n → lftF l n ≤ kX l i
 | 0 => ⟨Int.le_refl _, fun i h => by omega⟩
 | n + 1 => by
  obtain ⟨h1, h2⟩ := lft_le l n
  simp only [lftF]
  split
  ·rename_i g
   refine ⟨by omega, fun i hi => ?_⟩
   by_cases e : i = n
   ·subst e; exact Int.le_refl _
   ·have := h2 i (by omega); omega
  ·rename_i g
   refine ⟨h1, fun i hi => ?_⟩
   by_cases e : i = n
   ·subst e; omega
   ·exact h2 i (by omega)
theorem rgt_ge (l : List Cl) : ∀ n : Nat, kX l 0 ≤ rgtF l n ∧ ∀ i : Nat, i < n → kX l i ≤ rgtF l n
 | 0 => ⟨Int.le_refl _, fun i h => by omega⟩
 | n + 1 => by
  obtain ⟨h1, h2⟩ := rgt_ge l n
  simp only [rgtF]
  split
  ·rename_i g
   refine ⟨by omega, fun i hi => ?_⟩
   by_cases e : i = n
   ·subst e; exact Int.le_refl _
   ·have := h2 i (by omega); omega
  ·rename_i g
   refine ⟨h1, fun i hi => ?_⟩
   by_cases e : i = n
   ·subst e; omega
   ·exact h2 i (by omega)
theorem lft_in {l : List Cl} (h : ∀ i : Nat, i < l.length → -4096 ≤ kX l i ∧ kX l i ≤ 4096) (h0 : 0 < l.length) : ∀ n : Nat, n ≤ l.length → -4096 ≤ lftF l n ∧ rgtF l n ≤ 4096
 | 0, _ => by have := h 0 h0; simp only [lftF, rgtF]; exact this
 | n + 1, hn => by
  obtain ⟨h1, h2⟩ := lft_in h h0 n (by omega)
  have := h n (by omega)
  simp only [lftF, rgtF]
  constructor
  ·split <;> omega
  ·split <;> omega
theorem srt_Y {l : List Cl} (hs : Srt l) {i j : Nat} (hij : i ≤ j) (hj : j < l.length) : kY l i ≤ kY l j := by
 rcases Nat.lt_or_ge i j with h | h
 ·have := List.pairwise_iff_getElem.1 hs i j (by omega) hj h
  rw [ltC_iff, kAt (by omega), kAt hj] at this
  simp only at this
  omega
 ·have : i = j := by omega
  subst this; exact Int.le_refl _
theorem pos_in {R : Nat} {H W dy dx q : Int} (hR : (R : Int) = 4 * (W + 1) + 1) (h1 : 0 ≤ dy) (h2 : dy ≤ H) (h3 : 0 ≤ dx) (h4 : dx ≤ W) (h5 : 0 ≤ q) (h6 : q ≤ 3) :
  0 ≤ dy * R ∧ dy * R + 4 * dx + q < (H + 1) * R := by
 have a : 0 ≤ dy * (R : Int) := Int.mul_nonneg h1 (by omega)
 have b : dy * (R : Int) ≤ H * R := Int.mul_le_mul_of_nonneg_right h2 (by omega)
 rw [Int.add_mul, Int.one_mul]
 omega
theorem txF_len (l : List Cl) : ∀ n, (txF l n).length = (bgS l).length
 | 0 => by simp only [txF, List.length_map]
 | n + 1 => by simp only [txF, List.length_set]; exact txF_len l n
theorem sgn_at {q : Int} (h0 : 0 ≤ q) (h3 : q ≤ 3) : ([.int .u8 83, .int .u8 69, .int .u8 78, .int .u8 87] : List AV)[q.toNat]? = some (.int .u8 (sgn q)) := by
 have : q = 0 ∨ q = 1 ∨ q = 2 ∨ q = 3 := by omega
 rcases this with rfl | rfl | rfl | rfl <;> rfl
theorem row_len (l : List Cl) (h : 0 ≤ rgtI l - lftI l) : ((rowS l).length : Int) = 4 * (rgtI l - lftI l + 1) + 1 := by
 unfold rowS
 rw [List.length_append, Lib.repeatL_length]
 simp only [List.length_cons, List.length_nil]
 omega
theorem ct49 : CtOk Tryd.prog G 49 e49 := by
 intro args r h hp
 unfold e49 at h
 split at h <;> cases h
 obtain ⟨⟨h1, h2, hz⟩, hq0⟩ := hp
 generalize unK _ = l at *
 subst h1 h2
 refine (fnP_spec hcm hmx TJ49ok ok49 rfl (ob_o49 l) ?_ : SpecP Tryd.prog G 49 [cls l] _ []).caps
 simp only [unK_flat, ltb_iff, ltb_no, leb_iff, leb_no, len'_iff, ltn_iff, inR_i64, inR_u8, and_true, true_and, size_vals, size_ints, iI, imp_self, flatK_len, List.drop_drop]
 refine ⟨⟨okL_flat hz, hq0⟩, fun hb => ?_, fun hb => ⟨fun he => ?_, fun he => ?_⟩⟩
 ·have e : (chkI l == 0) = false := by simpa using hb
  unfold txV txE
  rw [e]; exact ⟨rfl, rfl⟩
 ·have h0 : chkI l = 0 := by simpa using hb
  have e : l.length = 0 := by simpa using he
  unfold txV txE
  rw [h0, e]; exact ⟨rfl, rfl⟩
 have h0 : chkI l = 0 := by simpa using hb
 obtain ⟨hl, hv, hs⟩ := chk0 h0
 have hpos : 0 < l.length := by
  have : (l.length : Int) ≠ 0 := by simpa using he
  omega
 obtain ⟨a0, a1, a2⟩ := kget hpos
 have hlast : l.length - 1 < l.length := by omega
 obtain ⟨z0, z1, z2⟩ := kget hlast
 have elast : ((l.length - 1 : Nat) : Int) = (l.length : Int) - 1 := by omega
 rw [elast] at z1
 have hval : ∀ i : Nat, i < l.length → (-4096 ≤ kX l i ∧ kX l i ≤ 4096) ∧ (-4096 ≤ kY l i ∧ kY l i ≤ 4096) ∧ 0 ≤ kQ l i ∧ kQ l i ≤ 3 := fun i hi => by
  have h1 := hv _ (List.getElem_mem hi)
  rw [kAt hi, vldC_iff] at h1
  have h2 := okQ_at hq0 hi
  simp only at h1
  omega
 obtain ⟨L1, R1⟩ := lft_in (fun i hi => (hval i hi).1) hpos l.length (Nat.le_refl _)
 have hY0 := (hval 0 hpos).2.1
 have hY1 := (hval (l.length - 1) hlast).2.1
 have hYY := srt_Y hs (i := 0) (j := l.length - 1) (by omega) hlast
 rw [elast] at hY1 hYY
 have L0 := (lft_le l l.length).1
 have R0 := (rgt_ge l l.length).1
 have hW : 0 ≤ rgtI l - lftI l := by unfold rgtI lftI; omega
 have hR := row_len l hW
 refine ⟨by omega, by omega, a0, by omega, by omega, a0, ⟨0, rfl, by omega, rfl, rfl⟩, ?_⟩
 rintro ⟨i, a, b⟩ ⟨n, i1, i2, i3, i4⟩
 simp only at i1 i3 i4 ⊢
 subst i1 i3 i4
 simp only [Int.toNat_natCast]
 refine ⟨fun hlt => ?_, fun hge => ?_⟩
 ·have g1 : n < l.length := by omega
  obtain ⟨b0, b1, b2⟩ := kget g1
  exact ⟨by omega, by omega, by omega, b0, b1, b2, by omega, ⟨n + 1, by omega, by omega, rfl, rfl⟩, by omega⟩
 have e : n = l.length := by omega
 subst e
 have eL : lftF l l.length = lftI l := rfl
 have eG : rgtF l l.length = rgtI l := rfl
 have eY : kY l 0 = lowI l := rfl
 have eH : kY l ((l.length : Int) - 1) = higI l := rfl
 have eW : Lib.repeatL [46, 46, 46, 46] (rgtI l - lftI l + 1).toNat ++ [10] = rowS l := rfl
 have eB : Lib.repeatL (rowS l) (higI l - lowI l + 1).toNat = bgS l := rfl
 simp only [eL, eG, eY, eH, eW, eB] at *
 have d1 : ∀ a, (List.drop (a + 1) (flatK l))[0]? = (List.drop a (flatK l))[1]? := fun a => by rw [List.getElem?_drop, List.getElem?_drop]
 have eN : ((l.length : Int) - 1).toNat = l.length - 1 := by omega
 rw [eN]
 have hYY : lowI l ≤ higI l := hYY
 have hY0 : -4096 ≤ lowI l ∧ lowI l ≤ 4096 := hY0
 have hKz : (((higI l - lowI l + 1).toNat : Nat) : Int) = higI l - lowI l + 1 := by omega
 have hBl : (bgS l).length = (higI l - lowI l + 1).toNat * (rowS l).length := by unfold bgS; exact Lib.repeatL_length _ _
 have hP0 : (0 : Int) ≤ (4 * (rgtI l - lftI l + 1) + 1) * (higI l - lowI l + 1) := Int.mul_nonneg (by omega) (by omega)
 have hP1 : (4 * (rgtI l - lftI l + 1) + 1) * (higI l - lowI l + 1) ≤ 32773 * 8193 := Int.mul_le_mul (by omega) (by omega) (by omega) (by omega)
 have hPB : (4 * (rgtI l - lftI l + 1) + 1) * (higI l - lowI l + 1) = (((rowS l).length * (higI l - lowI l + 1).toNat : Nat) : Int) := by
  rw [Int.natCast_mul, hR, hKz]
 have hbg : bigB l = decide (65536 < (4 * (rgtI l - lftI l + 1) + 1) * (higI l - lowI l + 1)) := rfl
 refine ⟨by omega, by omega, (d1 _).trans a1, by omega, by omega, by omega, by omega, (d1 _).trans z1, by omega, by omega, by omega, by omega, by omega, by omega, by omega, fun hbig => ?_, fun hbig => ?_⟩
 ·rw [decide_eq_true hbig] at hbg
  unfold txV txE
  rw [h0, hbg, decide_eq_true hpos]; exact ⟨rfl, rfl⟩
 rw [decide_eq_false (by omega)] at hbg
 have hrl : (Lib.repeatL [46, 46, 46, 46] (rgtI l - lftI l + 1).toNat).length + 1 = (rowS l).length := by
  unfold rowS; rw [List.length_append]; rfl
 have hx : txV l = bytesI (txF l l.length) := by
  unfold txV; rw [h0, hbg, decide_eq_true hpos]; rfl
 have hy : txE l = 0 := by
  unfold txE; rw [h0, hbg, decide_eq_true hpos]; rfl
 refine ⟨by omega, by omega, by omega, by rw [hrl]; omega, by omega, by omega, by omega, trivial, ⟨0, rfl, by omega, rfl⟩, ?_⟩
 rintro ⟨i, o⟩ ⟨n, i1, i2, i3⟩
 simp only at i1 i3 ⊢
 subst i1 i3
 simp only [Int.toNat_natCast]
 refine ⟨fun hlt => ?_, fun hge => ?_⟩
 ·have g1 : n < l.length := by omega
  obtain ⟨b0, b1, b2⟩ := kget g1
  obtain ⟨vx, vy, vq⟩ := hval n g1
  have hyh : kY l n ≤ higI l := by
   have := srt_Y hs (i := n) (j := l.length - 1) (by omega) hlast
   rw [elast] at this
   exact this
  have hyl : lowI l ≤ kY l n := srt_Y hs (i := 0) (j := n) (by omega) g1
  have hxl : lftI l ≤ kX l n := (lft_le l l.length).2 n g1
  have hxr : kX l n ≤ rgtI l := (rgt_ge l l.length).2 n g1
  obtain ⟨p0, p1⟩ := pos_in (H := higI l - lowI l) (dy := higI l - kY l n) (dx := kX l n - lftI l) (q := kQ l n) hR (by omega) (by omega) (by omega) (by omega) vq.1 vq.2
  have hBz : ((bgS l).length : Int) = (higI l - lowI l + 1) * (rowS l).length := by rw [hBl, Int.natCast_mul, hKz]
  have hBP : ((bgS l).length : Int) ≤ 32773 * 8193 := by
   rw [hBl, Int.natCast_mul, Int.mul_comm, ← Int.natCast_mul, ← hPB]; exact hP1
  rw [← hBz] at p1
  have htl := txF_len l n
  have e1 : txF l (n + 1) = (txF l n).set (posI l (kX l n) (kY l n) (kQ l n)).toNat (sgn (kQ l n)) := rfl
  generalize hm : (higI l - kY l n) * ((rowS l).length : Int) = m at *
  refine ⟨by omega, by omega, by omega, b0, b1, b2, by omega, by omega, by omega, by omega, by omega, by omega, by omega, by omega, by omega, sgn_at vq.1 vq.2, by omega, by omega, trivial, trivial, by omega, by omega, ⟨n + 1, by omega, by omega, ?_⟩, by omega⟩
  rw [e1]; unfold posI; rw [hm]
 ·have e : n = l.length := by omega
  subst e
  rw [hx, hy]; exact ⟨trivial, rfl, rfl⟩
end Go.Proofs.YtmnaghfndigfkaaDoor.X
