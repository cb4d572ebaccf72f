/-
 The reference's drawing: the contracts.
-/
import Derived.Test.YtmnaghfndigfkaaDoorOKZ
import Derived.Test.YtmnaghfndigfkaaDoorCMZ
set_option maxRecDepth 1000000
set_option linter.unusedVariables false
set_option linter.unusedSimpArgs false
namespace Go.Proofs.YtmnaghfndigfkaaDoor.X
open Go Go.Ab

theorem kg0 {l : List Cl} {n : Nat} (h : n < l.length) : (List.drop (n * 3) (flatK l))[0]? = some (.int .i64 (kX l n)) := (kget h).1
theorem kg1 {l : List Cl} {n : Nat} (h : n < l.length) : (List.drop (n * 3 + 1) (flatK l))[0]? = some (.int .i64 (kY l n)) := by
 have := (kget h).2.1
 rw [List.getElem?_drop] at this ⊢
 exact this
theorem bx_succ (l : List Cl) (n : Nat) (h : 0 < n) : bxA l (n + 1) = (if kX l n < bxA l n then kX l n else bxA l n) ∧ bxR l (n + 1) = (if kX l n > bxR l n then kX l n else bxR l n) ∧ bxC l (n + 1) = (if kY l n < bxC l n then kY l n else bxC l n) ∧ bxD l (n + 1) = (if kY l n > bxD l n then kY l n else bxD l n) := by
 obtain ⟨m, rfl⟩ : ∃ m, n = m + 1 := ⟨n - 1, by omega⟩
 exact ⟨rfl, rfl, rfl, rfl⟩
theorem ct102 : CtOk Tryd.prog G 102 e102 := by
 intro args r h hp
 unfold e102 at h
 split at h <;> cases h
 obtain ⟨h1, h2, hz⟩ := hp
 generalize unK _ = l at *
 subst h1 h2
 refine (fnP_spec hcm hmx T0ok ok102 rfl (ob_o102 l) ?_ : SpecP Tryd.prog G 102 [cls l] _ []).caps
 simp only [unK_flat, ltb_iff, ltb_no, leb_iff, leb_no, len'_iff, ltn_iff, inR_i64, inR_u8, and_true, true_and, size_vals, size_ints, iI, imp_self, flatK_len, List.drop_drop, Nat.add_zero, Nat.zero_add]
 refine ⟨⟨0, rfl, by omega, rfl, rfl, rfl, rfl⟩, ?_⟩
 rintro ⟨i, a, b, c, d⟩ ⟨n, i1, i2, i3, i4, i5, i6⟩
 simp only at i1 i3 i4 i5 i6 ⊢
 subst i1 i3 i4 i5 i6
 simp only [Int.toNat_natCast]
 refine ⟨fun hlt => ⟨fun h0 => ?_, fun h0 => ?_⟩, fun hge => ?_⟩
 ·have g1 : n < l.length := by omega
  have e0 : n = 0 := by
   have : (n : Int) = 0 := by simpa using h0
   omega
  subst e0
  have x0 := kg0 g1
  have y0 := kg1 g1
  exact ⟨by omega, by omega, x0, by omega, by omega, x0, by omega, by omega, y0, by omega, by omega, y0, by omega, by omega, by omega, x0, by omega, by omega, by omega, x0, by omega, by omega, by omega, y0, by omega, by omega, by omega, y0, by omega, ⟨1, by omega, by omega, rfl, rfl, rfl, rfl⟩, by omega⟩
 ·have g1 : n < l.length := by omega
  have e0 : 0 < n := by
   have : (n : Int) ≠ 0 := by simpa using h0
   omega
  have x0 := kg0 g1
  have y0 := kg1 g1
  obtain ⟨s1, s2, s3, s4⟩ := bx_succ l n e0
  exact ⟨by omega, by omega, by omega, x0, by omega, by omega, by omega, x0, by omega, by omega, by omega, y0, by omega, by omega, by omega, y0, by omega, ⟨n + 1, by omega, by omega, s1.symm, s2.symm, s3.symm, s4.symm⟩, by omega⟩
 ·have e : n = l.length := by omega
  subst e
  exact ⟨rfl, rfl, rfl, rfl⟩
theorem TK50ok : TabOk Tryd.prog G TK50 := tabL_ok noCh_ok ⟨ct102, ct47, trivial⟩
theorem ct50 : CtOk Tryd.prog G 50 e50 := by
 intro args r h hp
 unfold e50 at h
 split at h <;> cases h
 obtain ⟨⟨h1, h2, hz⟩, ha, hb, hc, hd⟩ := hp
 generalize unK _ = l at *
 subst h1 h2
 refine (fnP_spec hcm hmx TK50ok ok50 rfl (ob_o50 l) ?_ : SpecP Tryd.prog G 50 [cls l] _ []).caps
 simp only [unK_flat, inR_i64, and_true, true_and]
 unfold smal at ha hb hc hd
 have p1 : 0 ≤ (80005 - (4 * (boB l - boA l + 1) + 1)) * (20001 - (boD l - boC l + 1)) := Int.mul_nonneg (by omega) (by omega)
 have hm : ∀ u v : Int, -80005 ≤ u → u ≤ 80005 → -20001 ≤ v → v ≤ 20001 → -2000000000 ≤ u * v ∧ u * v ≤ 2000000000 := by
  intro u v a b c d
  have q1 : 0 ≤ (80005 - u) * (20001 - v) := Int.mul_nonneg (by omega) (by omega)
  have q2 : 0 ≤ (80005 + u) * (20001 + v) := Int.mul_nonneg (by omega) (by omega)
  have q3 : 0 ≤ (80005 + u) * (20001 - v) := Int.mul_nonneg (by omega) (by omega)
  have q4 : 0 ≤ (80005 - u) * (20001 + v) := Int.mul_nonneg (by omega) (by omega)
  rw [Int.sub_mul, Int.mul_sub, Int.mul_sub] at q1
  rw [Int.add_mul, Int.mul_add, Int.mul_add] at q2
  rw [Int.add_mul, Int.mul_sub, Int.mul_sub] at q3
  rw [Int.sub_mul, Int.mul_add, Int.mul_add] at q4
  omega
 have := hm (4 * (boB l - boA l + 1) + 1) (boD l - boC l + 1) (by omega) (by omega) (by omega) (by omega)
 exact ⟨okL_flat hz, by omega, by omega, by omega, by omega, by omega, by omega, by omega, rfl⟩
theorem rt4_len (l : List Cl) (x y : Int) : ∀ k, (rt4 l x y k).length = k
 | 0 => rfl
 | k + 1 => by simp only [rt4, List.length_append, rt4_len l x y k, List.length_cons, List.length_nil]
theorem rtR_len (l : List Cl) (a y : Int) : ∀ m, (rtR l a y m).length = 4 * m
 | 0 => rfl
 | m + 1 => by simp only [rtR, List.length_append, rtR_len l a y m, rt4_len]; omega
theorem rtT_len (l : List Cl) (a d : Int) (w : Nat) : ∀ h, (rtT l a d w h).length = h * (4 * w + 1)
 | 0 => by simp [rtT]
 | h + 1 => by simp only [rtT, List.length_append, rtT_len l a d w h, rtR_len, List.length_cons, List.length_nil, Nat.add_mul]; omega
theorem sgn_u8 {k : Nat} (h : k < 4) : ((UInt8.toNat (([83, 69, 78, 87] : List UInt8).getD k 0) : Nat) : Int) = sgn k := by
 match k, h with
 | 0, _ => rfl
 | 1, _ => rfl
 | 2, _ => rfl
 | 3, _ => rfl
theorem ct51 : CtOk Tryd.prog G 51 e51 := by
 intro args r h hp
 unfold e51 at h
 split at h <;> cases h
 obtain ⟨⟨h1, h2, hz⟩, ⟨ha, hb, hc, hd⟩, hs⟩ := hp
 generalize unK _ = l at *
 subst h1 h2
 refine (fnP_spec hcm hmx TK50ok ok51 rfl (ob_o51 l) ?_ : SpecP Tryd.prog G 51 [cls l] _ []).caps
 simp only [unK_flat, ltb_iff, ltb_no, leb_iff, leb_no, len'_iff, ltn_iff, inR_i64, inR_u8, and_true, true_and, size_vals, size_ints, iI, imp_self, flatK_len]
 unfold smal at ha hb hc hd
 refine ⟨okL_flat hz, ⟨0, by omega, by omega, rfl⟩, ?_⟩
 rintro ⟨y, o, n⟩ ⟨h, i1, i2, i3, i4⟩
 simp only at i1 i2 i3 i4 ⊢
 have hw : (boB l - boA l + 1).toNat ≤ 20001 := by omega
 have hh : (boD l - boC l + 1).toNat ≤ 20001 := by omega
 have hP : h * (4 * (boB l - boA l + 1).toNat + 1) ≤ 20001 * 80005 := Nat.mul_le_mul (by omega) (by omega)
 have hlo : o.length = h * (4 * (boB l - boA l + 1).toNat + 1) := by rw [i3, rtT_len]
 refine ⟨fun hy => ⟨⟨0, by omega, by omega, (List.append_nil _).symm, i4⟩, ?_⟩, fun hy => ?_⟩
 ·rintro ⟨x, o1, n1⟩ ⟨m, j1, j2, j3, j4⟩
  simp only at j1 j2 j3 j4 ⊢
  have hl1 : o1.length = o.length + 4 * m := by rw [j3, List.length_append, rtR_len]
  refine ⟨fun hx => ⟨⟨0, rfl, by omega, (List.append_nil _).symm, j4⟩, ?_⟩, fun hx => ?_⟩
  ·rintro ⟨q, o2, n2⟩ ⟨k, k1, k2, k3, k4⟩
   simp only at k1 k2 k3 k4 ⊢
   subst k1
   simp only [Int.toNat_natCast]
   have hl2 : o2.length = o1.length + k := by rw [k3, List.length_append, rt4_len]
   have e1 : rt4 l x y (k + 1) = rt4 l x y k ++ [sg l x y (k : Nat)] := rfl
   refine ⟨fun hq => ⟨okL_flat hz, fun ht => ?_, fun ht => ?_⟩, fun hq => ?_⟩
   ·rw [bI_eq] at ht
    have e2 : sg l x y (k : Nat) = sgn k := by unfold sg; rw [ht]; rfl
    rw [sgn_u8 (by omega)]
    refine ⟨by omega, by omega, by omega, by omega, ⟨k + 1, by omega, by omega, ?_, ?_⟩, by omega⟩
    ·rw [e1, e2, k3, List.append_assoc]
    ·rw [List.length_append, k4]; rfl
   ·rw [bI_eq] at ht
    have e2 : sg l x y (k : Nat) = 46 := by unfold sg; rw [ht]; rfl
    refine ⟨by omega, by omega, ⟨k + 1, by omega, by omega, ?_, ?_⟩, by omega⟩
    ·rw [e1, e2, k3, List.append_assoc]
    ·rw [List.length_append, k4]; rfl
   ·have ek : k = 4 := by omega
    subst ek
    refine ⟨by omega, ⟨m + 1, by omega, by omega, ?_, k4⟩, by omega⟩
    rw [k3, j3, List.append_assoc, j1]
    rfl
  ·have em : m = (boB l - boA l + 1).toNat := by omega
   refine ⟨by omega, by omega, ⟨h + 1, by omega, by omega, ?_, ?_⟩, by omega⟩
   ·rw [j3, i3, em, i1, List.append_assoc]
    show _ = rtT l (boA l) (boD l) _ h ++ rtR l (boA l) (boD l - h) _ ++ [10]
    rw [List.append_assoc]
   ·rw [List.length_append, j4]; rfl
 ·have eh : h = (boD l - boC l + 1).toNat := by omega
  rw [i3, eh]; rfl
end Go.Proofs.YtmnaghfndigfkaaDoor.X
