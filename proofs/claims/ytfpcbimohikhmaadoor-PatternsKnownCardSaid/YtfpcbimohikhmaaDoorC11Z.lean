/-
 The contracts of the ends of a unit, of the reference's back side.
-/
import Derived.Test.YtfpcbimohikhmaaDoorC10Z
set_option maxRecDepth 1000000
set_option linter.unusedVariables false
set_option linter.unusedSimpArgs false
namespace Go.Proofs.YtfpcbimohikhmaaDoor.X
open Go Go.Ab

theorem cE1ok : CtsOk Tryd.prog G cE1' := ⟨ct55, ct76, trivial⟩
theorem CE1ok : TabOk Tryd.prog G CE1 := tabL_ok noCh_ok cE1ok
theorem shL_succ (x y q e : Int) (n : Nat) : shL x y q e (n + 1) = shL x y q e n ++ (if shB x y q e (n : Int) = true then [(n : Int)] else []) := by
 unfold shL
 rw [List.range_succ, List.map_append, List.filter_append]
 congr 1
 simp only [List.map_cons, List.map_nil, List.filter_cons, List.filter_nil]
 rfl
theorem shL_len (x y q e : Int) (n : Nat) : (shL x y q e n).length ≤ n := by
 unfold shL
 refine Nat.le_trans (List.length_filter_le _ _) ?_
 simp
def shE (x y q e i j : Int) : Bool := crX x q i == crX (nbX x q e) (nbQ q e) j && crY y q i == crY (nbY y q e) (nbQ q e) j
theorem shL_step {x y q e i j : Int} {k m : Nat} (hi : i = k) (hj : j = m) (hm : m ≤ 2) :
  (shE x y q e i j = true → shL x y q e (3 * k + (m + 1)) = shL x y q e (3 * k + m) ++ [((3 * k + m : Nat) : Int)]) ∧ (shE x y q e i j = false → shL x y q e (3 * k + (m + 1)) = shL x y q e (3 * k + m)) := by
 have h1 : ((3 * k + m : Nat) : Int) / 3 = i := by omega
 have h2 : ((3 * k + m : Nat) : Int) % 3 = j := by omega
 have h3 : shB x y q e ((3 * k + m : Nat) : Int) = shE x y q e i j := by unfold shB shE; rw [h1, h2]
 rw [← Nat.add_assoc, shL_succ, h3]
 refine ⟨fun h => ?_, fun h => ?_⟩
 ·rw [if_pos h]
 ·rw [if_neg (by rw [h]; simp), List.append_nil]
theorem flatP_app (x y q : Int) (a b : List Int) : flatP x y q (a ++ b) = flatP x y q a ++ flatP x y q b := by unfold flatP; rw [List.flatMap_append]
theorem cor_get {x y q : Int} {n : Nat} (h : n ≤ 2) : [AV.int .i64 (2 * x + 1), AV.int .i64 (2 * y + 1), AV.int .i64 (2 * x + hQ q), AV.int .i64 (2 * y + hQ q), AV.int .i64 (2 * x + gQ q), AV.int .i64 (2 * y + (2 - gQ q))][n * 2]? = some (.int .i64 (crX x q n)) ∧
  [AV.int .i64 (2 * x + 1), AV.int .i64 (2 * y + 1), AV.int .i64 (2 * x + hQ q), AV.int .i64 (2 * y + hQ q), AV.int .i64 (2 * x + gQ q), AV.int .i64 (2 * y + (2 - gQ q))][n * 2 + 1]? = some (.int .i64 (crY y q n)) := by
 obtain rfl | rfl | rfl : n = 0 ∨ n = 1 ∨ n = 2 := by omega
 all_goals exact ⟨rfl, rfl⟩
def shOk (x y q e : Int) : Bool := Nat.beq (shL x y q e 9).length 2
theorem sh_all : ((List.range 5).all fun x => (List.range 5).all fun y => (List.range 4).all fun q => (List.range 3).all fun e => shOk x y q e) = true := by kernel_rfl
theorem sh_two {x y q e : Int} (hx : 0 ≤ x ∧ x ≤ 4) (hy : 0 ≤ y ∧ y ≤ 4) (hq : 0 ≤ q ∧ q ≤ 3) (he : 0 ≤ e ∧ e ≤ 2) : ∃ a b, shL x y q e 9 = [a, b] := by
 obtain ⟨x, rfl⟩ := Int.eq_ofNat_of_zero_le hx.1
 obtain ⟨y, rfl⟩ := Int.eq_ofNat_of_zero_le hy.1
 obtain ⟨q, rfl⟩ := Int.eq_ofNat_of_zero_le hq.1
 obtain ⟨e, rfl⟩ := Int.eq_ofNat_of_zero_le he.1
 have h1 := List.all_eq_true.1 sh_all x (List.mem_range.2 (by omega))
 have h2 := List.all_eq_true.1 h1 y (List.mem_range.2 (by omega))
 have h3 := List.all_eq_true.1 h2 q (List.mem_range.2 (by omega))
 have h4 := List.all_eq_true.1 h3 e (List.mem_range.2 (by omega))
 have h5 := Nat.eq_of_beq_eq_true h4
 match hl : shL x y q e 9, h5 with
 | [a, b], _ => exact ⟨a, b, rfl⟩
theorem sp63 (w h c e : Int) (hs : s5 w h) (h0 : 0 ≤ c) (hc : c < 4 * w * h) (he : 0 ≤ e ∧ e ≤ 2) : SpecP Tryd.prog G 63 [.agg [.int .i64 w, .int .i64 h], .agg [.int .i64 c, .int .u8 e]] (.agg [.int .i64 (enV w c e 0), .int .i64 (enV w c e 1), .int .i64 (enV w c e 2), .int .i64 (enV w c e 3)]) [] := by
 refine fnP_spec hcm hmx CE1ok ok63 rfl (ob_o63 w h c e) ?_
 have hS := okS_of hs
 have hB : hasB w h c = true := hasB_iff.2 ⟨h0, hc⟩
 obtain ⟨⟨a1, a2⟩, ⟨a3, a4⟩, ⟨a5, a6⟩, a7, a8, a9, a10, a11⟩ := cell_ok hS hB
 obtain ⟨b1, b2, b3, b4⟩ := hs
 have e1 : Int.tdiv c (4 * w) = qY w c := by
  unfold qY
  rw [Int.tdiv_eq_ediv_of_nonneg h0, a8, Int.tdiv_eq_ediv_of_nonneg (by omega), Int.ediv_ediv_of_nonneg (by omega)]
 have e2 : Int.tmod (Int.tdiv c 4) w = qX w c := rfl
 have e3 : Int.tmod c 4 = qQ c := rfl
 rw [e1, e2, e3]
 have hn := nbQ_ok (q := qQ c) ⟨a5, a6⟩ he
 have hx := nbXY_ok (qX w c) (qQ c) e
 have hy := nbXY_ok (qY w c) (qQ c) e
 have hen : ∀ j, enV w c e j = (match j with
  | 0 => bI (shS (qX w c) (qY w c) (qQ c) e) (shX (qX w c) (qY w c) (qQ c) e 1) (shX (qX w c) (qY w c) (qQ c) e 0)
  | 1 => bI (shS (qX w c) (qY w c) (qQ c) e) (shY (qX w c) (qY w c) (qQ c) e 1) (shY (qX w c) (qY w c) (qQ c) e 0)
  | 2 => bI (shS (qX w c) (qY w c) (qQ c) e) (shX (qX w c) (qY w c) (qQ c) e 0) (shX (qX w c) (qY w c) (qQ c) e 1)
  | _ => bI (shS (qX w c) (qY w c) (qQ c) e) (shY (qX w c) (qY w c) (qQ c) e 0) (shY (qX w c) (qY w c) (qQ c) e 1)) := fun j => rfl
 rw [hen 0, hen 1, hen 2, hen 3]
 clear hen
 simp only
 refine ⟨by simp only [inR_i64, inR_u8, true_and, and_true, Bool.not_eq_true', beq_eq_false_iff_ne, ne_eq]; omega, ?_⟩
 have hxb : 0 ≤ qX w c ∧ qX w c ≤ 4 := by omega
 have hyb : 0 ≤ qY w c ∧ qY w c ≤ 4 := by omega
 generalize qX w c = x0 at *
 generalize qY w c = y0 at *
 generalize qQ c = q0 at *
 rintro ⟨x, y, q⟩ ⟨rfl, rfl, rfl⟩
 simp only at *
 have hg1 := hg_ok q
 have hg2 := hg_ok (nbQ q e)
 simp only [ltb_iff, ltb_no, leb_iff, leb_no, len'_iff, ltn_iff, inR_i64, inR_u8, and_true, true_and, size_vals, Int.toNat_natCast]
 refine ⟨⟨by unfold sml; omega, by unfold sml; omega, a5, a6⟩, by omega, ⟨hxb.1, hxb.2, hyb.1, hyb.2, a5, a6, he.1, he.2⟩, ⟨by unfold sml; omega, by unfold sml; omega, hn.1, hn.2⟩, ⟨0, by simp, by omega, rfl, rfl⟩, ?_⟩
 rintro ⟨i, L, n⟩ ⟨k, hi, hk, hL, hN⟩
 simp only at hi hL hN ⊢
 subst hi
 simp only [Int.toNat_natCast]
 refine ⟨fun hlt => ⟨⟨0, by simp, by omega, by simpa using hL, by simpa using hN⟩, ?_⟩, fun hge => ?_⟩
 ·rintro ⟨j, L', n'⟩ ⟨m, hj, hm, hL', hN'⟩
  simp only at hj hL' hN' ⊢
  subst hj
  simp only [Int.toNat_natCast]
  refine ⟨fun h3 => ?_, fun h3 => ?_⟩
  ·have hk2 : k ≤ 2 := by omega
   have hm2 : m ≤ 2 := by omega
   obtain ⟨p1, p2⟩ := cor_get (x := x) (y := y) (q := q) hk2
   obtain ⟨r1, r2⟩ := cor_get (x := nbX x q e) (y := nbY y q e) (q := nbQ q e) hm2
   have hst := shL_step (x := x) (y := y) (q := q) (e := e) (i := (k : Int)) (j := (m : Int)) rfl rfl hm2
   have hln := shL_len x y q e (3 * k + m)
   refine ⟨by omega, by omega, p1, p2, by omega, by omega, r1, r2, fun hb => ?_, fun hb => ?_⟩
   ·have hst := hst.1 hb
    refine ⟨by omega, by omega, p1, p2, by omega, by omega, ⟨m + 1, by omega, by omega, ?_, ?_⟩, by omega⟩
    ·rw [hst, flatP_app, ← hL']
     congr 1
     have h1 : ((3 * k + m : Nat) : Int) / 3 = k := by omega
     unfold flatP
     simp only [List.flatMap_cons, List.flatMap_nil, List.append_nil, h1]
    ·rw [hst, List.length_append, ← hN']; rfl
   ·have hst := hst.2 hb
    exact ⟨by omega, ⟨m + 1, by omega, by omega, by rw [hst]; exact hL', by rw [hst]; exact hN'⟩, by omega⟩
  ·have : m = 3 := by omega
   subst this
   exact ⟨by omega, ⟨k + 1, by omega, by omega, hL', hN'⟩, by omega⟩
 ·have : k = 3 := by omega
  subst this
  obtain ⟨a, b, hab⟩ := sh_two hxb hyb ⟨a5, a6⟩ he
  have hX0 : shX x y q e 0 = crX x q (a / 3) := by unfold shX; rw [hab]; rfl
  have hX1 : shX x y q e 1 = crX x q (b / 3) := by unfold shX; rw [hab]; rfl
  have hY0 : shY x y q e 0 = crY y q (a / 3) := by unfold shY; rw [hab]; rfl
  have hY1 : shY x y q e 1 = crY y q (b / 3) := by unfold shY; rw [hab]; rfl
  unfold shS
  rw [show 3 * 3 = 9 from rfl, hab] at hL hN
  subst hL; subst hN
  rw [hX0, hX1, hY0, hY1]
  have hfl : flatP x y q [a, b] = [.int .i64 (crX x q (a / 3)), .int .i64 (crY y q (a / 3)), .int .i64 (crX x q (b / 3)), .int .i64 (crY y q (b / 3))] := rfl
  rw [hfl]
  generalize crX x q (a / 3) = X0
  generalize crX x q (b / 3) = X1
  generalize crY y q (a / 3) = Y0
  generalize crY y q (b / 3) = Y1
  by_cases g1 : X1 < X0
  ·have q1 : ltb X1 X0 = true := by rw [ltb_iff]; exact g1
   rw [q1]
   simp [bI]
  ·have q1 : ltb X1 X0 = false := by rw [ltb_no]; omega
   rw [q1]
   by_cases g2 : X1 = X0
   ·subst g2
    by_cases g3 : Y1 < Y0
    ·have q3 : ltb Y1 Y0 = true := by rw [ltb_iff]; exact g3
     rw [q3]
     simp [bI]
    ·have q3 : ltb Y1 Y0 = false := by rw [ltb_no]; omega
     rw [q3]
     simp [bI]
   ·have q2 : (X1 == X0) = false := by rw [beq_eq_false_iff_ne]; exact g2
    rw [q2]
    simp [bI]
theorem ct63 : CtOk Tryd.prog G 63 e63 := by
 intro args r h hp
 unfold e63 at h
 split at h <;> cases h
 obtain ⟨h1, h2, h3, h4, h5⟩ := hp
 exact (sp63 _ _ _ _ h1 h2 h3 ⟨h4, h5⟩).caps
end Go.Proofs.YtfpcbimohikhmaaDoor.X
