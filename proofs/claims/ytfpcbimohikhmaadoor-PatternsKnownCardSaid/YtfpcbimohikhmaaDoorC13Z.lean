/-
 The contracts of valid patterns.
-/
import Derived.Test.YtfpcbimohikhmaaDoorD11Z
import Derived.Test.YtfpcbimohikhmaaDoorC8Z
set_option maxRecDepth 1000000
set_option linter.unusedVariables false
set_option linter.unusedSimpArgs false
namespace Go.Proofs.YtfpcbimohikhmaaDoor.X
open Go Go.Ab

theorem s4_s5 {w h : Int} (h4 : s4 w h) : s5 w h := by
 obtain ⟨⟨a, b⟩, c, d⟩ := h4
 exact ⟨a, by omega, c, by omega⟩
theorem ct22z : CtOk Tryd.prog G 22 e22z := by
 intro args r h hp
 unfold e22z at h
 split at h <;> cases h
 rename_i w h a n _ w' h' b m _
 obtain ⟨⟨h1, h2, h3⟩, ⟨h4, h5, h6⟩, rfl, rfl, he⟩ := hp
 rw [he] at h1 h2 h3
 generalize unC b = l' at *
 subst h1 h2 h4 h5
 have := sp22 w h w h l' l' h3
 unfold difI eqC at this
 simp only [and_self, decide_true, Bool.and_self, cond_true] at this
 exact this.caps
theorem ct27v : CtOk Tryd.prog G 27 e27v := by
 intro args r h hp
 unfold e27v at h
 split at h <;> cases h
 rename_i w h a n _
 obtain ⟨hs, ⟨h1, h2, h3⟩, hv⟩ := hp
 generalize unC a = l at *
 subst h1 h2
 have := sp27 w h l h3 (vP_edg hv)
 rw [vP_chk hs hv] at this
 exact this.caps
theorem okV_of {w h : Int} {l : List Cr} (hs : s5 w h) (hv : vP w h l) : okV w h (flatC l) l.length := by
 have := vP_len hs hv
 exact ⟨okA_flat (by omega), by rw [unC_flat]; exact hv⟩
theorem cget' {cs : List Cr} {n : Nat} (h : n < cs.length) : (flatC cs)[n * 3]? = some (.int .i64 (cC cs n)) ∧ (flatC cs)[n * 3 + 1]? = some (.int .u8 (cE cs n)) ∧ (flatC cs)[n * 3 + 1 + 1]? = some (.int .u8 (cK cs n)) := by
 obtain ⟨h1, h2, h3⟩ := cget h
 rw [List.getElem?_drop] at h1 h2 h3
 exact ⟨h1, h2, h3⟩
theorem vP_set {w h : Int} {K : List Int} {j : Nat} {c k : Int} (hk : kds w h K) (hj : (units w h)[j]? = some c) (h3 : 0 ≤ k ∧ k ≤ 3) : setR c k (wthL (units w h) K) = wthL (units w h) (K.set j k) ∧ kds w h (K.set j k) := ⟨setR_wthL (units_asc w h) hk.1 hj, kds_set hk j h3⟩
theorem ct15u : CtOk Tryd.prog G 15 e15u := by
 intro args r h hp
 unfold e15u at h
 split at h <;> cases h
 rename_i w h a n _ c e k
 obtain ⟨hs, ⟨⟨h1, h2, h3⟩, hv⟩, hm, h4, h5, h6, h7⟩ := hp
 generalize unC a = l at *
 subst h1 h2
 obtain ⟨K, hK, rfl⟩ := hv
 obtain ⟨u1, u2, u3⟩ := units_mem hs hm
 have e1 : (3 * c + e) / 3 = c := by omega
 have e2 : (3 * c + e) % 3 = e := by omega
 rw [e1] at u1 u2
 rw [e2] at u2
 have hb := hasB_iff.1 u1
 have hn : neE w h c e = 0 := ((un_no hs ⟨h4, h5⟩ u1).2.1).2 (by omega)
 have hc : cod w h c e = 3 * c + e := by unfold cod; omega
 obtain ⟨j, hj, hg⟩ := List.mem_iff_getElem.1 hm
 have hj' : (units w h)[j]? = some (cod w h c e) := by rw [List.getElem?_eq_getElem hj, hg, hc]
 have hvl := vP_len hs ⟨K, hK, rfl⟩
 have h := sp15 w h (wthL (units w h) K) c e k (by omega) (vP_edg ⟨K, hK, rfl⟩) (by omega)
 obtain ⟨q1, q2⟩ := se_eq hs hK h4 hn hj' ⟨h6, h7⟩
 rw [q1, q2] at h
 rw [hc] at hj'
 rw [(vP_set hK hj' ⟨h6, h7⟩).1]
 exact h.caps
theorem units_pos : ((List.range 4).all fun a => (List.range 4).all fun b => Nat.ble 1 (units ((a : Int) + 1) ((b : Int) + 1)).length) = true := by kernel_rfl
theorem units_one {w h : Int} (h4 : s4 w h) : 1 ≤ (units w h).length := by
 obtain ⟨hw, hh⟩ := h4
 obtain ⟨a, ha⟩ := Int.eq_ofNat_of_zero_le (show 0 ≤ w - 1 by omega)
 obtain ⟨b, hb⟩ := Int.eq_ofNat_of_zero_le (show 0 ≤ h - 1 by omega)
 obtain rfl : w = (a : Int) + 1 := by omega
 obtain rfl : h = (b : Int) + 1 := by omega
 have h1 := List.all_eq_true.1 units_pos a (List.mem_range.2 (by omega))
 have h2 := List.all_eq_true.1 h1 b (List.mem_range.2 (by omega))
 exact Nat.le_of_ble_eq_true h2
end Go.Proofs.YtfpcbimohikhmaaDoor.X
