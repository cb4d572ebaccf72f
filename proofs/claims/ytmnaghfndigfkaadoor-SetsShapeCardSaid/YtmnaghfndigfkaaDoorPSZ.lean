/-
 Shapes, in plain terms: the number of edges of an outline; squares.
-/
import Derived.Test.YtmnaghfndigfkaaDoorDUZ
import Derived.Test.YtmnaghfndigfkaaDoorCTZ
set_option maxRecDepth 1000000
set_option linter.unusedVariables false
set_option linter.unusedSimpArgs false
namespace Go.Proofs.YtmnaghfndigfkaaDoor.X
open Go Go.Ab

/-! ### The number of edges -/
def inE (l : List Cl) (e : Int) (c : Cl) : Bool := hasL l (nbC c e)
theorem outE3 (l : List Cl) (c : Cl) : outE l c 3 = cond (outB l c 2) (cond (outB l c 1) (cond (outB l c 0) ([] ++ [(c, 0)]) [] ++ [(c, 1)]) (cond (outB l c 0) ([] ++ [(c, 0)]) []) ++ [(c, 2)]) (cond (outB l c 1) (cond (outB l c 0) ([] ++ [(c, 0)]) [] ++ [(c, 1)]) (cond (outB l c 0) ([] ++ [(c, 0)]) [])) := rfl
theorem outE_cnt (l : List Cl) (c : Cl) : (outE l c 3).length = (outB l c 0).toNat + (outB l c 1).toNat + (outB l c 2).toNat := by
 rw [outE3]
 cases outB l c 0 <;> cases outB l c 1 <;> cases outB l c 2 <;> rfl
theorem out_count {l : List Cl} (hv : vlL l) : ∀ n : Nat, n ≤ l.length →
  (outF l n).length + ((l.take n).filter (inE l 0)).length + ((l.take n).filter (inE l 1)).length + ((l.take n).filter (inE l 2)).length = 3 * n
 | 0, _ => by simp [outF]
 | n + 1, hn => by
  have g1 : n < l.length := by omega
  have ih := out_count hv n (by omega)
  have e3 : (outE l (kC l n) 3).length + ((inE l 0 (kC l n)).toNat + (inE l 1 (kC l n)).toNat + (inE l 2 (kC l n)).toNat) = 3 := by
   rw [outE_cnt, out_has hv, out_has hv, out_has hv]
   unfold inE
   cases hasL l (nbC (kC l n) 0) <;> cases hasL l (nbC (kC l n) 1) <;> cases hasL l (nbC (kC l n) 2) <;> rfl
  have ff : ∀ e : Int, ((l.take (n + 1)).filter (inE l e)).length = ((l.take n).filter (inE l e)).length + (inE l e (kC l n)).toNat := fun e => by
   rw [take_at g1, List.filter_append, List.length_append]
   congr 1
   show (List.filter (inE l e) [kC l n]).length = _
   rw [List.filter_cons]
   cases inE l e (kC l n) <;> rfl
  rw [ff, ff, ff]
  have eo : (outF l (n + 1)).length = (outF l n).length + (outE l (kC l n) 3).length := by simp only [outF, List.length_append]
  rw [eo]
  omega
def colE (e q : Int) : Bool := if e = 1 then decide (q = 0 ∨ q = 2) else decide (q < 2)
theorem col_flip {c : Cl} {e : Int} (h0 : 0 ≤ c.2.2) (h3 : c.2.2 ≤ 3) (e0 : 0 ≤ e) (e3 : e < 3) : colE e (nbC c e).2.2 = !colE e c.2.2 := by
 obtain ⟨x, y, q⟩ := c
 simp only at h0 h3
 have cq : q = 0 ∨ q = 1 ∨ q = 2 ∨ q = 3 := by omega
 have ce : e = 0 ∨ e = 1 ∨ e = 2 := by omega
 rcases cq with rfl | rfl | rfl | rfl <;> rcases ce with rfl | rfl | rfl <;> rfl
theorem half_le {l : List Cl} {e : Int} (hq : ∀ x ∈ l, 0 ≤ x.2.2 ∧ x.2.2 ≤ 3) (hnd : l.Nodup) (e0 : 0 ≤ e) (e3 : e < 3) (b : Bool) :
  (l.filter fun c => inE l e c && (colE e c.2.2 == b)).length ≤ (l.filter fun c => inE l e c && (colE e c.2.2 == !b)).length := by
 have h := nd_le (a := (l.filter fun c => inE l e c && (colE e c.2.2 == b)).map fun c => nbC c e) (b := l.filter fun c => inE l e c && (colE e c.2.2 == !b)) ?_ ?_
 ·rw [List.length_map] at h; exact h
 ·refine List.pairwise_map.2 (List.Pairwise.imp_of_mem (fun {x y} hx hy hne he => hne ?_) (hnd.filter _))
  have hx := (List.mem_filter.1 hx).1
  have hy := (List.mem_filter.1 hy).1
  rw [← nb_sym (hq x hx).1 (hq x hx).2 e0 e3, ← nb_sym (hq y hy).1 (hq y hy).2 e0 e3, he]
 ·intro z hz
  obtain ⟨c, hc, rfl⟩ := List.mem_map.1 hz
  obtain ⟨h1, h2⟩ := List.mem_filter.1 hc
  simp only [Bool.and_eq_true, beq_iff_eq] at h2
  refine List.mem_filter.2 ⟨hasL_iff.1 h2.1, ?_⟩
  simp only [Bool.and_eq_true, beq_iff_eq]
  refine ⟨?_, by rw [col_flip (hq c h1).1 (hq c h1).2 e0 e3, h2.2]⟩
  unfold inE
  rw [nb_sym (hq c h1).1 (hq c h1).2 e0 e3]
  exact hasL_iff.2 h1
theorem split_len (l : List Cl) (p q : Cl → Bool) : (l.filter p).length = (l.filter fun c => p c && (q c == true)).length + (l.filter fun c => p c && (q c == false)).length := by
 induction l with
 | nil => rfl
 | cons c r ih =>
  simp only [List.filter_cons]
  cases p c <;> cases q c <;> simp [ih] <;> omega
theorem even_in {l : List Cl} {e : Int} (hq : ∀ x ∈ l, 0 ≤ x.2.2 ∧ x.2.2 ≤ 3) (hnd : l.Nodup) (e0 : 0 ≤ e) (e3 : e < 3) : ∃ k, (l.filter (inE l e)).length = 2 * k := by
 have h := split_len l (inE l e) (fun c => colE e c.2.2)
 have h1 := half_le hq hnd e0 e3 true
 have h2 := half_le hq hnd e0 e3 false
 simp only [Bool.not_true, Bool.not_false] at h1 h2
 exact ⟨(l.filter fun c => inE l e c && (colE e c.2.2 == true)).length, by omega⟩
theorem out_par {l : List Cl} (hv : vlL l) (hnd : l.Nodup) : ∃ k : Int, ((ouL l).length : Int) - (l.length : Int) = 2 * k := by
 have h := out_count hv l.length (Nat.le_refl _)
 rw [List.take_length] at h
 have hq := vl_q hv
 obtain ⟨a, ha⟩ := even_in hq hnd (e := 0) (by decide) (by decide)
 obtain ⟨b, hb⟩ := even_in hq hnd (e := 1) (by decide) (by decide)
 obtain ⟨c, hc⟩ := even_in hq hnd (e := 2) (by decide) (by decide)
 unfold ouL
 exact ⟨(l.length : Int) - a - b - c, by omega⟩
/-! ### An outline that is not empty -/
theorem out_nil {l : List Cl} : ∀ n : Nat, (outF l n).length = 0 → ∀ j : Nat, j < n → ∀ e : Nat, e < 3 → outB l (kC l j) e = false
 | 0, _, j, hj, _, _ => by omega
 | n + 1, h, j, hj, e, he => by
  simp only [outF, List.length_append] at h
  by_cases g : j = n
  ·subst g
   have h3 : (outE l (kC l j) 3).length = 0 := by omega
   rw [outE_cnt] at h3
   have tn : ∀ b : Bool, b.toNat = 0 → b = false := fun b h => by cases b <;> simp at h ⊢
   match e, he with
   | 0, _ => exact (show outB l (kC l (j : Nat)) 0 = false from tn _ (by omega))
   | 1, _ => exact (show outB l (kC l (j : Nat)) 1 = false from tn _ (by omega))
   | 2, _ => exact (show outB l (kC l (j : Nat)) 2 = false from tn _ (by omega))
  ·exact out_nil n (by omega) j (by omega) e he
theorem srt_lt {l : List Cl} (hs : Srt l) {i j : Nat} (hij : i < j) (hj : j < l.length) : ltC (kC l i) (kC l j) = true := by
 have := List.pairwise_iff_getElem.1 hs i j (by omega) hj hij
 rw [kAt (by omega), kAt hj] at this
 exact this
theorem srt_idx {l : List Cl} (hs : Srt l) {i j : Nat} (hi : i < l.length) (hj : j < l.length) (h : ltC (kC l i) (kC l j) = true) : i < j := by
 rcases Nat.lt_trichotomy i j with g | g | g
 ·exact g
 ·subst g; rw [ltC_irr] at h; cases h
 ·have := ltC_trans h (srt_lt hs g hi)
  rw [ltC_irr] at this; cases this
theorem mem_idx {l : List Cl} {c : Cl} (h : c ∈ l) : ∃ j, j < l.length ∧ kC l j = c := by
 obtain ⟨j, hj, rfl⟩ := List.getElem_of_mem h
 exact ⟨j, hj, (kAt hj).symm⟩
theorem kC_mem {l : List Cl} {j : Nat} (h : j < l.length) : kC l j ∈ l := by
 have := List.getElem_mem h
 rw [kAt h] at this
 exact this
theorem out_pos {l : List Cl} (hv : vlL l) (hs : Srt l) (hpos : 0 < l.length) : (ouL l).length ≠ 0 := by
 intro h
 have hall := out_nil l.length h
 have hin : ∀ c ∈ l, ∀ e : Nat, e < 3 → nbC c e ∈ l := fun c hc e he => by
  obtain ⟨j, hj, rfl⟩ := mem_idx hc
  have := hall j hj e he
  rw [out_has hv, Bool.not_eq_false'] at this
  exact hasL_iff.1 this
 have hlast : l.length - 1 < l.length := by omega
 have hmax : ∀ z ∈ l, ltC (kC l ((l.length - 1 : Nat) : Int)) z = false := fun z hz => by
  obtain ⟨j, hj, rfl⟩ := mem_idx hz
  cases g : ltC (kC l ((l.length - 1 : Nat) : Int)) (kC l j) with
  | false => rfl
  | true => have := srt_idx hs hlast hj g; omega
 have hc := kC_mem hlast
 have hq := vl_q hv _ hc
 generalize kC l ((l.length - 1 : Nat) : Int) = c at *
 obtain ⟨x, y, q⟩ := c
 simp only at hq
 have cq : q = 0 ∨ q = 1 ∨ q = 2 ∨ q = 3 := by omega
 have no : ∀ z : Cl, z ∈ l → ¬ (ltC (x, y, q) z = true) := fun z hz g => by rw [hmax z hz] at g; cases g
 rcases cq with rfl | rfl | rfl | rfl
 ·refine no _ (hin _ hc 1 (by decide)) (ltC_iff.2 ?_)
  simp [nbC, nbD]
 ·refine no _ (hin _ hc 0 (by decide)) (ltC_iff.2 ?_)
  simp [nbC, nbD]; omega
 ·refine no _ (hin _ hc 0 (by decide)) (ltC_iff.2 ?_)
  simp [nbC, nbD]; omega
 ·refine no _ (hin _ (hin _ hc 1 (by decide)) 0 (by decide)) (ltC_iff.2 ?_)
  simp [nbC, nbD]; omega
/-! ### Squares -/
theorem cn4_four {l : List Cl} {x y : Int} : cn4 l x y 4 = 4 ↔ (x, y, 0) ∈ l ∧ (x, y, 1) ∈ l ∧ (x, y, 2) ∈ l ∧ (x, y, 3) ∈ l := by
 rw [← hasL_iff, ← hasL_iff, ← hasL_iff, ← hasL_iff]
 show 0 + bI (hasL l (x, y, 0)) 1 0 + bI (hasL l (x, y, 1)) 1 0 + bI (hasL l (x, y, 2)) 1 0 + bI (hasL l (x, y, 3)) 1 0 = 4 ↔ _
 cases hasL l (x, y, 0) <;> cases hasL l (x, y, 1) <;> cases hasL l (x, y, 2) <;> cases hasL l (x, y, 3) <;> decide
theorem sq_iff {l : List Cl} (hs : Srt l) {n : Nat} (hn : n < l.length) : sqB l n = true ↔ cn4 l (kX l n) (kY l n) 4 = 4 ∧ kQ l n = 0 := by
 rw [cn4_four]
 unfold sqB
 rw [Bool.and_eq_true, Bool.and_eq_true, beq_iff_eq, decide_eq_true_iff, eqCl_iff]
 have hmem : ∀ j : Nat, j < l.length → kC l j ∈ l := fun j hj => kC_mem hj
 constructor
 ·rintro ⟨q0, h3, e3⟩
  have a := srt_lt hs (i := n) (j := n + 1) (by omega) (by omega)
  have b := srt_lt hs (i := n + 1) (j := n + 2) (by omega) (by omega)
  have c := srt_lt hs (i := n + 2) (j := n + 3) (by omega) (by omega)
  have m0 := hmem n (by omega)
  have m1 := hmem (n + 1) (by omega)
  have m2 := hmem (n + 2) (by omega)
  have m3 := hmem (n + 3) (by omega)
  rw [e3] at c m3
  have e0 : kC l (n : Int) = (kX l n, kY l n, 0) := by rw [← q0]; rfl
  rw [e0] at a m0
  generalize kX l (n : Int) = x at *
  generalize kY l (n : Int) = y at *
  generalize kC l ((n + 1 : Nat) : Int) = c1 at *
  generalize kC l ((n + 2 : Nat) : Int) = c2 at *
  obtain ⟨x1, y1, q1⟩ := c1
  obtain ⟨x2, y2, q2⟩ := c2
  rw [ltC_iff] at a b c
  simp only at a b c
  have f1 : x1 = x ∧ y1 = y ∧ q1 = 1 := by omega
  have f2 : x2 = x ∧ y2 = y ∧ q2 = 2 := by omega
  obtain ⟨rfl, rfl, rfl⟩ := f1
  obtain ⟨rfl, rfl, rfl⟩ := f2
  exact ⟨⟨m0, m1, m2, m3⟩, q0⟩
 ·rintro ⟨⟨m0, m1, m2, m3⟩, q0⟩
  have e0 : kC l (n : Int) = (kX l n, kY l n, 0) := by rw [← q0]; rfl
  obtain ⟨j1, h1, g1⟩ := mem_idx m1
  obtain ⟨j2, h2, g2⟩ := mem_idx m2
  obtain ⟨j3, h3, g3⟩ := mem_idx m3
  have o1 := srt_idx hs hn h1 (by rw [e0, g1, ltC_iff]; simp)
  have o2 := srt_idx hs h1 h2 (by rw [g1, g2, ltC_iff]; simp)
  have o3 := srt_idx hs h2 h3 (by rw [g2, g3, ltC_iff]; simp)
  refine ⟨q0, by omega, ?_⟩
  have e : j3 = n + 3 := by
   rcases Nat.lt_or_ge (n + 3) j3 with g | g
   ·exfalso
    have a := srt_lt hs (i := n) (j := n + 1) (by omega) (by omega)
    have b := srt_lt hs (i := n + 1) (j := n + 2) (by omega) (by omega)
    have c := srt_lt hs (i := n + 2) (j := n + 3) (by omega) (by omega)
    have d := srt_lt hs g h3
    rw [g3] at d
    rw [e0] at a
    generalize kX l (n : Int) = x at *
    generalize kY l (n : Int) = y at *
    generalize kC l ((n + 1 : Nat) : Int) = c1 at *
    generalize kC l ((n + 2 : Nat) : Int) = c2 at *
    generalize kC l ((n + 3 : Nat) : Int) = c3 at *
    rw [ltC_iff] at a b c d
    simp only at a b c d
    omega
   ·omega
  subst e
  exact g3
end Go.Proofs.YtmnaghfndigfkaaDoor.X
