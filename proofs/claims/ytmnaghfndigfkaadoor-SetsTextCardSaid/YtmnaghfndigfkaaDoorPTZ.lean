/-
 The drawing that is written cell by cell is the one that is built square by square.
-/
import Derived.Test.YtmnaghfndigfkaaDoorCNZ
set_option maxRecDepth 1000000
set_option linter.unusedVariables false
set_option linter.unusedSimpArgs false
namespace Go.Proofs.YtmnaghfndigfkaaDoor.X
open Go Go.Ab

/-- The byte at a place. -/
def valG (S : List Cl) (A D : Int) (w : Nat) (p : Nat) : Int :=
 if p % (4 * w + 1) = 4 * w then 10 else sg S (A + ((p % (4 * w + 1) / 4 : Nat) : Int)) (D - ((p / (4 * w + 1) : Nat) : Int)) ((p % (4 * w + 1) % 4 : Nat) : Int)
def grG (S : List Cl) (A D : Int) (w h : Nat) : List Int := (List.range (h * (4 * w + 1))).map (valG S A D w)
theorem rtR_eq (S : List Cl) (A y : Int) : ∀ m : Nat, rtR S A y m = (List.range (4 * m)).map fun k => sg S (A + ((k / 4 : Nat) : Int)) y ((k % 4 : Nat) : Int)
 | 0 => rfl
 | m + 1 => by
  rw [show 4 * (m + 1) = 4 * m + 4 by omega, List.range_add, List.map_append, ← rtR_eq S A y m]
  show rtR S A y m ++ rt4 S (A + m) y 4 = _
  congr 1
  have e : (List.range 4).map (fun x => 4 * m + x) = [4 * m + 0, 4 * m + 1, 4 * m + 2, 4 * m + 3] := rfl
  rw [e]
  simp only [List.map_cons, List.map_nil]
  rw [show (4 * m + 0) / 4 = m by omega, show (4 * m + 1) / 4 = m by omega, show (4 * m + 2) / 4 = m by omega, show (4 * m + 3) / 4 = m by omega,
   show (4 * m + 0) % 4 = 0 by omega, show (4 * m + 1) % 4 = 1 by omega, show (4 * m + 2) % 4 = 2 by omega, show (4 * m + 3) % 4 = 3 by omega]
  rfl
theorem rtT_eq (S : List Cl) (A D : Int) (w : Nat) : ∀ h : Nat, rtT S A D w h = grG S A D w h
 | 0 => by simp [rtT, grG]
 | h + 1 => by
  unfold grG
  rw [Nat.add_mul, Nat.one_mul, List.range_add, List.map_append]
  show rtT S A D w h ++ rtR S A (D - h) w ++ [10] = _
  rw [rtT_eq S A D w h, List.append_assoc]
  unfold grG
  congr 1
  rw [List.map_map, List.range_succ, List.map_append, rtR_eq]
  have hpos : 0 < 4 * w + 1 := by omega
  congr 1
  ·apply List.map_congr_left
   intro k hk
   have hk : k < 4 * w := List.mem_range.1 hk
   have e1 : (h * (4 * w + 1) + k) % (4 * w + 1) = k := by
    rw [Nat.mul_comm, Nat.mul_add_mod]; exact Nat.mod_eq_of_lt (by omega)
   have e2 : (h * (4 * w + 1) + k) / (4 * w + 1) = h := by
    rw [Nat.mul_comm, Nat.mul_add_div hpos, Nat.div_eq_of_lt (by omega : k < 4 * w + 1), Nat.add_zero]
   simp only [Function.comp, valG]
   rw [e1, e2, if_neg (by omega)]
  ·have e1 : (h * (4 * w + 1) + 4 * w) % (4 * w + 1) = 4 * w := by
    rw [Nat.mul_comm, Nat.mul_add_mod]; exact Nat.mod_eq_of_lt (by omega)
   simp only [List.map_cons, List.map_nil, Function.comp, valG]
   rw [e1, if_pos rfl]
theorem rep_snoc (l : List UInt8) : ∀ c, Lib.repeatL l (c + 1) = Lib.repeatL l c ++ l
 | 0 => by simp [Lib.repeatL]
 | c + 1 => by
  show l ++ Lib.repeatL l (c + 1) = (l ++ Lib.repeatL l c) ++ l
  rw [rep_snoc l c, List.append_assoc]
theorem dots_eq (A y : Int) : ∀ m : Nat, (Lib.repeatL [46, 46, 46, 46] m).map (fun b => ((b.toNat : Nat) : Int)) = rtR [] A y m
 | 0 => rfl
 | m + 1 => by rw [rep_snoc, List.map_append, dots_eq A y m]; rfl
theorem rows_eq (A D : Int) (w : Nat) : ∀ h : Nat, (Lib.repeatL (Lib.repeatL [46, 46, 46, 46] w ++ [10]) h).map (fun b => ((b.toNat : Nat) : Int)) = rtT [] A D w h
 | 0 => rfl
 | h + 1 => by
  rw [rep_snoc, List.map_append, rows_eq A D w h, List.map_append, dots_eq A (D - h) w]
  show _ = rtT [] A D w h ++ rtR [] A (D - h) w ++ [10]
  rw [List.append_assoc]; rfl
theorem hasL_snoc : ∀ (S : List Cl) (c d : Cl), hasL (S ++ [c]) d = (hasL S d || eqCl c d)
 | [], c, d => by
  show cond (eqCl c d) true (hasL [] d) = (hasL [] d || eqCl c d)
  cases eqCl c d <;> rfl
 | a :: r, c, d => by
  show cond (eqCl a d) true (hasL (r ++ [c]) d) = (cond (eqCl a d) true (hasL r d) || eqCl c d)
  rw [hasL_snoc r c d]
  cases eqCl a d <;> rfl
theorem gr_set {S : List Cl} {A D : Int} {w h m r q : Nat} (hm : m < w) (hr : r < h) (hq : q < 4) :
  grG (S ++ [(A + m, D - r, (q : Int))]) A D w h = (grG S A D w h).set (r * (4 * w + 1) + 4 * m + q) (sgn q) := by
 have hpos : 0 < 4 * w + 1 := by omega
 unfold grG
 apply List.ext_getElem
 ·simp
 intro i h1 h2
 rw [List.getElem_set, List.getElem_map, List.getElem_range, List.getElem_map, List.getElem_range]
 have hdm := Nat.div_add_mod i (4 * w + 1)
 have hml := Nat.mod_lt i hpos
 by_cases he : r * (4 * w + 1) + 4 * m + q = i
 ·rw [if_pos he]
  have e1 : i % (4 * w + 1) = 4 * m + q := by
   rw [← he, Nat.add_assoc, Nat.mul_comm, Nat.mul_add_mod]; exact Nat.mod_eq_of_lt (by omega)
  have e2 : i / (4 * w + 1) = r := by
   rw [← he, Nat.add_assoc, Nat.mul_comm, Nat.mul_add_div hpos, Nat.div_eq_of_lt (by omega : 4 * m + q < 4 * w + 1), Nat.add_zero]
  unfold valG
  rw [e1, e2, if_neg (by omega), show (4 * m + q) / 4 = m by omega, show (4 * m + q) % 4 = q by omega]
  unfold sg
  rw [hasL_snoc, eqCl_iff.2 rfl, Bool.or_true]; rfl
 ·rw [if_neg he]
  unfold valG
  split
  ·rfl
  rename_i hk
  unfold sg
  rw [hasL_snoc]
  have : eqCl (A + (m : Int), D - (r : Int), (q : Int)) (A + ((i % (4 * w + 1) / 4 : Nat) : Int), D - ((i / (4 * w + 1) : Nat) : Int), ((i % (4 * w + 1) % 4 : Nat) : Int)) = false := by
   rw [eqCl_no]
   intro h
   simp only [Prod.mk.injEq] at h
   obtain ⟨g1, g2, g3⟩ := h
   have g1 : m = i % (4 * w + 1) / 4 := by omega
   have g2 : r = i / (4 * w + 1) := by omega
   have g3 : q = i % (4 * w + 1) % 4 := by omega
   apply he
   rw [← g2, Nat.mul_comm] at hdm
   omega
  rw [this, Bool.or_false]
/-! ### The two drawings -/
theorem dn_srt {l : List Cl} (hs : Srt l) : ∀ n : Nat, n ≤ l.length → dnF l n = kY l 0
 | 0, _ => rfl
 | n + 1, hn => by
  have ih := dn_srt hs n (by omega)
  have := srt_Y hs (i := 0) (j := n) (by omega) (by omega)
  simp only [dnF]
  rw [ih, if_neg (by have e : kY l ((0 : Nat) : Int) = kY l 0 := rfl; omega)]
theorem up_srt {l : List Cl} (hs : Srt l) : ∀ n : Nat, n < l.length → upF l (n + 1) = kY l n
 | 0, hn => by
  show (if kY l ((0 : Nat) : Int) > upF l 0 then kY l ((0 : Nat) : Int) else upF l 0) = _
  split <;> rfl
 | n + 1, hn => by
  have ih := up_srt hs n (by omega)
  have := srt_Y hs (i := n) (j := n + 1) (by omega) hn
  show (if kY l ((n + 1 : Nat) : Int) > upF l (n + 1) then kY l ((n + 1 : Nat) : Int) else upF l (n + 1)) = _
  rw [ih]
  split
  ·rfl
  ·omega
/-- The facts of a valid, ascending list that is not empty. -/
theorem box_of {l : List Cl} (hs : Srt l) (hv : ∀ x ∈ l, vldC x = true ∧ 0 ≤ x.2.2) (hpos : 0 < l.length) :
  boA l = lftI l ∧ boB l = rgtI l ∧ boC l = lowI l ∧ boD l = higI l ∧ (∀ i : Nat, i < l.length → (-4096 ≤ kX l i ∧ kX l i ≤ 4096) ∧ (-4096 ≤ kY l i ∧ kY l i ≤ 4096) ∧ 0 ≤ kQ l i ∧ kQ l i ≤ 3) ∧
  (∀ i : Nat, i < l.length → (lftI l ≤ kX l i ∧ kX l i ≤ rgtI l) ∧ lowI l ≤ kY l i ∧ kY l i ≤ higI l) ∧ (-4096 ≤ lftI l ∧ rgtI l ≤ 4096) ∧ (-4096 ≤ lowI l ∧ higI l ≤ 4096) := by
 have hval : ∀ i : Nat, i < l.length → (-4096 ≤ kX l i ∧ kX l i ≤ 4096) ∧ (-4096 ≤ kY l i ∧ kY l i ≤ 4096) ∧ 0 ≤ kQ l i ∧ kQ l i ≤ 3 := fun i hi => by
  have h1 := hv _ (List.getElem_mem hi)
  rw [kAt hi, vldC_iff] at h1
  simp only at h1
  omega
 have hlast : l.length - 1 < l.length := by omega
 have elast : ((l.length - 1 : Nat) : Int) = (l.length : Int) - 1 := by omega
 obtain ⟨m, hm⟩ : ∃ m, l.length = m + 1 := ⟨l.length - 1, by omega⟩
 have em : ((m : Nat) : Int) = (l.length : Int) - 1 := by omega
 have e1 : boA l = lftI l := by unfold boA lftI; rw [hm]; rfl
 have e2 : boB l = rgtI l := by unfold boB rgtI; rw [hm]; rfl
 have e3 : boC l = lowI l := by
  unfold boC lowI; rw [hm]
  exact dn_srt hs (m + 1) (by omega)
 have e4 : boD l = higI l := by
  unfold boD higI; rw [← em, hm]
  exact up_srt hs m (by omega)
 refine ⟨e1, e2, e3, e4, hval, fun i hi => ⟨⟨(lft_le l l.length).2 i hi, (rgt_ge l l.length).2 i hi⟩, srt_Y hs (i := 0) (j := i) (by omega) hi, ?_⟩, lft_in (fun i hi => (hval i hi).1) hpos l.length (Nat.le_refl _), (hval 0 hpos).2.1.1, ?_⟩
 ·have := srt_Y hs (i := i) (j := l.length - 1) (by omega) hlast
  rw [elast] at this
  exact this
 ·have := (hval _ hlast).2.1.2
  rw [elast] at this
  exact this
theorem tx_gr {l : List Cl} (hs : Srt l) (hv : ∀ x ∈ l, vldC x = true ∧ 0 ≤ x.2.2) (hpos : 0 < l.length) :
  ∀ n : Nat, n ≤ l.length → txF l n = grG (l.take n) (lftI l) (higI l) (rgtI l - lftI l + 1).toNat (higI l - lowI l + 1).toNat
 | 0, _ => by
  rw [← rtT_eq]
  exact rows_eq _ _ _ _
 | n + 1, hn => by
  obtain ⟨_, _, _, _, hval, hbox, _, _⟩ := box_of hs hv hpos
  have hn' : n < l.length := by omega
  obtain ⟨_, _, q0, q3⟩ := hval n hn'
  obtain ⟨⟨x0, x1⟩, y0, y1⟩ := hbox n hn'
  have ih := tx_gr hs hv hpos n (by omega)
  have e1 : txF l (n + 1) = (txF l n).set (posI l (kX l n) (kY l n) (kQ l n)).toNat (sgn (kQ l n)) := rfl
  have hR := row_len l (by omega)
  rw [e1, ih, take_at hn']
  unfold posI
  rw [hR]
  have g := gr_set (S := l.take n) (A := lftI l) (D := higI l) (w := (rgtI l - lftI l + 1).toNat) (h := (higI l - lowI l + 1).toNat) (m := (kX l n - lftI l).toNat) (r := (higI l - kY l n).toNat) (q := (kQ l n).toNat) (by omega) (by omega) (by omega)
  rw [show lftI l + (((kX l n - lftI l).toNat : Nat) : Int) = kX l n by omega, show higI l - (((higI l - kY l n).toNat : Nat) : Int) = kY l n by omega, show (((kQ l n).toNat : Nat) : Int) = kQ l n by omega] at g
  rw [g]
  congr 1
  have ew : ((4 * (rgtI l - lftI l + 1).toNat + 1 : Nat) : Int) = 4 * (rgtI l - lftI l + 1) + 1 := by omega
  have ep : (higI l - kY l n) * (4 * (rgtI l - lftI l + 1) + 1) = (((higI l - kY l n).toNat * (4 * (rgtI l - lftI l + 1).toNat + 1) : Nat) : Int) := by
   rw [Int.natCast_mul, ew, Int.toNat_of_nonneg (by omega)]
  rw [ep]
  omega
/-- What Text returns is what the reference returns. -/
theorem text_ok {l : List Cl} (hs : Srt l) (hv : ∀ x ∈ l, vldC x = true ∧ 0 ≤ x.2.2) (h0 : chkI l = 0) :
  bxOk l ∧ (siz l ≤ 65536 → bytesI (rfT l) = txV l ∧ 0 = txE l) ∧ (65536 < siz l → [] = txV l ∧ 3 = txE l) := by
 rcases Nat.eq_zero_or_pos l.length with hl | hpos
 ·have : l = [] := List.eq_nil_of_length_eq_zero hl
  subst this
  refine ⟨⟨?_, ?_, ?_, ?_⟩, fun _ => ⟨rfl, rfl⟩, fun h => ?_⟩
  ·unfold smal; decide
  ·unfold smal; decide
  ·unfold smal; decide
  ·unfold smal; decide
  ·exact absurd h (by decide)
 obtain ⟨e1, e2, e3, e4, hval, hbox, ⟨b1, b2⟩, b3, b4⟩ := box_of hs hv hpos
 have hb0 := hbox 0 hpos
 have hsz : bigB l = decide (65536 < siz l) := by unfold bigB siz; rw [e1, e2, e3, e4]
 refine ⟨?_, fun h => ?_, fun h => ?_⟩
 ·unfold bxOk smal
  rw [e1, e2, e3, e4]
  omega
 ·rw [decide_eq_false (by omega)] at hsz
  unfold txV txE
  rw [h0, hsz, decide_eq_true hpos]
  refine ⟨?_, rfl⟩
  show _ = bytesI (txF l l.length)
  rw [tx_gr hs hv hpos l.length (Nat.le_refl _), List.take_length]
  unfold rfT
  rw [e1, e2, e3, e4, rtT_eq]
 ·rw [decide_eq_true h] at hsz
  unfold txV txE
  rw [h0, hsz, decide_eq_true hpos]; exact ⟨rfl, rfl⟩
end Go.Proofs.YtmnaghfndigfkaaDoor.X
